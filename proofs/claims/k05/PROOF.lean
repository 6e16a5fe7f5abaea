import PyProof.Rows.All
import HandS.ForMost
import HandS.Flow
import HandS.Deep
import HandS.Evl
import KE.KDictKeyed
import HandS.WordsExc
import HandS.Exc
import HandS.TupAny
import HandS.TupMul
import HandS.TupLe
import HandS.WideBits
import HandS.Zip
import HandS.Defaults
import HandS.IsInst
import HandS.Strs
import KE.SortData
import HandS.Text
import HandS.Style
import HandS.MakeKwOnly
import HandS.MakeKw
import HandS.SetBool
import HandS.TupSets
import KE.GoesEnum
import KE.GoesMore
import HandS.Property
import HandS.Head0
import HandS.Head1
import HandS.Head2
import HandS.HeadEnd
import HandS.HeadHook1
import HandS.HeadHook2
import HandS.EndBits
import HandS.HeadNt
import KE.DataAny
import HandS.Conv
import HandS.More
import HandS.HeadHook3
import PyProof.RulesMatch
import HandS.SetFor
import HandS.SetKeys
import HandS.SortKw
import HandS.Keys
import KE.SortKeyHeap
import KE.KMinKey
import HandS.ExcInit
import HandS.ExcCtx
import KE.KExcLine
import KE.KSuper
import HandS.ExcField
import HandS.ExcIs
import HandS.TryOnly
import HandS.HotCalls
import HandS.ClsMeth
import HandS.DictComp
import HandS.Small
import HandS.Star
import PyProof.StrOps2
import HandS.GenBody
import HandS.GenCall
import HandS.GenList
import HandS.GenYield
import HandS.FStr
import PyProof.RulesAssignMore
import PySem.Challenge.RW_firstbreach_k05_invalid_parts
set_option Elab.async false
set_option linter.all false
set_option maxRecDepth 100000
set_option maxHeartbeats 4000000
namespace M
open PySem L2
mutual
def nkp : NestedKey → Bool
  | .none => true
  | .num _ => true
  | .text _ => false
  | .tup ks => nkps ks
def nkps : List NestedKey → Bool
  | [] => true
  | k :: ks => nkp k && nkps ks
end
mutual
def hashN : NestedKey → Int
  | .none => reduceHash 0xFCA86420
  | .num i => hashInt i
  | .text _ => 0
  | .tup ks => reduceHash (Builtin.Tuple.tupleHashOf (hashNs ks))
def hashNs : List NestedKey → List Int
  | [] => []
  | k :: ks => hashN k :: hashNs ks
end
mutual
theorem hashN_eq (w : World) : ∀ k : NestedKey, nkp k = true → k.hash w = hashN k
  | .none, _ => rfl
  | .num _, _ => rfl
  | .text _, h => by cases h
  | .tup ks, h => by
    have h : nkps ks = true := h
    show reduceHash (Builtin.Tuple.tupleHashOf (NestedKey.hashes w ks)) = reduceHash (Builtin.Tuple.tupleHashOf (hashNs ks))
    rw [hashNs_eq w ks h]
theorem hashNs_eq (w : World) : ∀ ks : List NestedKey, nkps ks = true → NestedKey.hashes w ks = hashNs ks
  | [], _ => rfl
  | k :: ks, h => by
    have h : (nkp k && nkps ks) = true := h
    rw [Bool.and_eq_true] at h
    show k.hash w :: NestedKey.hashes w ks = hashN k :: hashNs ks
    rw [hashN_eq w k h.1, hashNs_eq w ks h.2]
end
abbrev XV := List (NestedKey × Addr × V)
abbrev XT : XV → List (NestedKey × Addr × Value) → Prop := Paired fun p q => p.1 = q.1 ∧ p.2.1 = q.2.1 ∧ RelV p.2.2 q.2.2
def dnP (a : Addr) (xs : XV) : Heap → Prop := fun h => (a == sysModules) = false ∧ xs.length ≤ sizeLine ∧ ∃ us, XT xs us ∧ ∃ o es ep, h.get? a = some o ∧ o.ExactDict ∧ o.data = .dict es ep ∧ es.toList = us.map (fun x => (⟨hashN x.1, .ref x.2.1, x.2.2⟩ : DictEntry)) ∧ (us.map (·.1)).Nodup
mutual
inductive NkH (K : PySem.W.Frag) (H : Hp) : NestedKey → V → Prop where
  | none : NkH K H .none .non
  | num (i : Int) : NkH K H (.num i) (.int i)
  | tup {ks : List NestedKey} {a : Addr} {xs : List V} : SqT K H a xs → NkHs K H ks xs → NkH K H (.tup ks) (.ref a)
inductive NkHs (K : PySem.W.Frag) (H : Hp) : List NestedKey → List V → Prop where
  | nil : NkHs K H [] []
  | cons {k : NestedKey} {v : V} {ks : List NestedKey} {vs : List V} : NkH K H k v → NkHs K H ks vs → NkHs K H (k :: ks) (v :: vs)
end
def XKey (K : PySem.W.Frag) (H : Hp) (xs : XV) : Prop := ∀ x ∈ xs, NkH K H x.1 (.ref x.2.1) ∧ nkp x.1 = true ∧ x.1.depth ≤ 8
section
variable {X : Cx} {pins : List (Addr × Obj)} {σ : St} {H : Hp} {s : Shared} {a : Addr} {y v : V} {u r : Value} {A : Around} {E : Value → Shared → Prop}
mutual
theorem nk_is (I : Inv X pins σ H s) : ∀ {k : NestedKey} {v : V} {u : Value}, NkH X.K H k v → RelV v u → NestedIs s.heap k u
  | _, _, u, .none, ru => by
    have : u = .none := ru
    subst this; exact .none
  | _, _, u, .num i, ru => by
    obtain ⟨t, rfl⟩ := (show ∃ t, u = .int i t from ru)
    exact .int i t
  | _, _, u, .tup (a := a) ht hk, ru => by
    have : u = .ref a := ru
    subst this
    obtain ⟨its, rv, ⟨o, h1, h2, n, h3⟩, _⟩ := I.tuple ht
    exact .tup h1 h2 h3 (by rw [List.toList_toArray]; exact nks_is I hk rv)
theorem nks_is (I : Inv X pins σ H s) : ∀ {ks : List NestedKey} {vs : List V} {us : List Value}, NkHs X.K H ks vs → Vals vs us → NestedAll s.heap ks us
  | _, _, _, .nil, .nil => .nil
  | _, _, _, .cons a b, .cons r t => .cons (nk_is I a r) (nks_is I b t)
end
def isK (xs : XV) (k : NestedKey) : Bool := xs.any fun x => decide (x.1 = k)
theorem XT.has {xs : XV} {us : List (NestedKey × Addr × Value)} (r : XT xs us) (k : NestedKey) : (atKey us k).isSome = isK xs k := by
  induction r with
  | nil => rfl
  | @cons p q ps qs h t ih =>
    unfold isK at ih ⊢
    rw [List.any_cons, ← ih]
    by_cases e : p.1 = k
    · have b : atKey (q :: qs) k = some q.2 := by simp [atKey, List.find?_cons, h.1.symm.trans e]
      rw [b, decide_eq_true e]; rfl
    · have b : atKey (q :: qs) k = atKey qs k := by
        have e' : ¬ q.1 = k := fun z => e (h.1.trans z)
        simp [atKey, List.find?_cons, e']
      rw [b, decide_eq_false e]; rfl
def putX (xs : XV) (k : NestedKey) (b : Addr) (v : V) : XV := if isK xs k then xs.map (fun x => if x.1 = k then (x.1, x.2.1, v) else x) else xs ++ [(k, b, v)]
theorem XT.repl {xs : XV} {us : List (NestedKey × Addr × Value)} (r : XT xs us) (k : NestedKey) {y : V} {u : Value} (ry : RelV y u) : XT (xs.map fun x => if x.1 = k then (x.1, x.2.1, y) else x) (us.map (putAt k u)) := by
  induction r with
  | nil => exact .nil
  | @cons p q ps qs h t ih =>
    rw [List.map_cons, List.map_cons]
    refine .cons ?_ ih
    obtain ⟨h1, h2, h3⟩ := h
    unfold putAt
    by_cases e : p.1 = k
    · rw [if_pos e, if_pos (h1.symm.trans e)]; exact ⟨h1, h2, ry⟩
    · rw [if_neg e, if_neg (fun z => e (h1.trans z))]; exact ⟨h1, h2, h3⟩
theorem XT.put {xs : XV} {us : List (NestedKey × Addr × Value)} (r : XT xs us) (k : NestedKey) {b : Addr} {y : V} {u : Value} (ry : RelV y u) : XT (putX xs k b y) (storedH us k b u) := by
  unfold putX storedH
  rw [r.has k]
  by_cases q : isK xs k = true
  · rw [if_pos q, if_pos q]; exact r.repl k ry
  · rw [if_neg q, if_neg q]; exact Paired.snoc r ⟨rfl, rfl, ry⟩
end
end M
set_option Elab.async false
set_option linter.all false
set_option maxRecDepth 100000
set_option maxHeartbeats 4000000
namespace M
open PySem L2
section
variable {X : Cx} {pins : List (Addr × Obj)} {σ : St} {H : Hp} {s : Shared} {a : Addr} {y v : V} {u r : Value} {A : Around} {E : Value → Shared → Prop}
def dnO (a : Addr) (xs : XV) : HO := .ext (dnP a xs)
def valX (xs : XV) (k : NestedKey) : Option V := (xs.find? fun x => decide (x.1 = k)).map fun x => x.2.2
theorem XT.val {xs : XV} {us : List (NestedKey × Addr × Value)} (r : XT xs us) (k : NestedKey) : RelO (valX xs k) ((atKey us k).map (·.2)) := by
  induction r with
  | nil => exact True.intro
  | @cons p q ps qs h t ih =>
    obtain ⟨h1, _, h2⟩ := h
    by_cases e : p.1 = k
    · have e' : q.1 = k := h1.symm.trans e
      have b : atKey (q :: qs) k = some q.2 := by simp [atKey, List.find?_cons, e']
      have b2 : valX (p :: ps) k = some p.2.2 := by simp [valX, List.find?_cons, e]
      rw [b2, b]; exact h2
    · have e' : ¬ q.1 = k := fun z => e (h1.trans z)
      have b : atKey (q :: qs) k = atKey qs k := by simp [atKey, List.find?_cons, e']
      have b2 : valX (p :: ps) k = valX ps k := by simp [valX, List.find?_cons, e]
      rw [b2, b]; exact ih
end
section
variable {X : Cx} {o i e value : Expr} {pos pos' tpos : Pos} {td ty tv : TE}
end
end M
set_option Elab.async false
set_option linter.all false
set_option maxRecDepth 100000
set_option maxHeartbeats 4000000
namespace M
open PySem L2
inductive D where
  | non | bl (b : Bool) | int (i : Int) | str (x : Str) | ty (n : String)
  | tup (xs : List D) | lst (xs : List D) | dic (ks : List Key) (vs : List D) | dit (ks : List (List Key)) (vs : List D)
  | obj (c : Nat) (fs : List D) | scr (ns : List Int) | cls (c : Nat)
  | dkf (ks : List Key) (vs : List D) | dig (ks : List NestedKey) (vs : List D)
  deriving Inhabited
structure Exc where
  c : Nat
  fs : List D
inductive R (α : Type) where
  | ok (a : α) | exc (x : Exc) | fail
def R.bind {α β : Type} (r : R α) (f : α → R β) : R β := match r with
  | .ok a => f a
  | .exc x => .exc x
  | .fail => .fail
instance : Monad R where
  pure := .ok
  bind := R.bind
@[simp] theorem R.pure_eq {α : Type} (a : α) : (pure a : R α) = .ok a := rfl
@[simp] theorem R.ok_bind {α β : Type} (a : α) (f : α → R β) : (R.ok a >>= f) = f a := rfl
@[simp] theorem R.exc_bind {α β : Type} (x : Exc) (f : α → R β) : (R.exc x >>= f) = .exc x := rfl
@[simp] theorem R.fail_bind {α β : Type} (f : α → R β) : (R.fail >>= f) = .fail := rfl
def R.nox {α : Type} : R α → R α
  | .exc _ => .fail
  | r => r
@[simp] theorem R.nox_ok {α : Type} (a : α) : (R.ok a).nox = .ok a := rfl
@[simp] theorem R.nox_fail {α : Type} : (R.fail : R α).nox = .fail := rfl
def R.need (b : Bool) : R Unit := if b then .ok () else .fail
@[simp] theorem R.need_true : R.need true = .ok () := rfl
structure Sl where
  own : Bool
  d : D
abbrev Env := List (Option Sl)
abbrev FE := Env → R D
abbrev FT := Env → R Bool
abbrev FA := Env → R (List D)
inductive Fl where
  | nx | bk | ct | rt (d : D)
abbrev FS := Env → R (Fl × Env)
abbrev FG := D → Env → R Env
inductive Kd where
  | st | bo | fr
def Ex (H H' : Hp) : Prop := ∀ a o, H a = some o → H' a = some o
theorem Ex.refl (H : Hp) : Ex H H := fun _ _ h => h
theorem Ex.trans {H H1 H2 : Hp} (a : Ex H H1) (b : Ex H1 H2) : Ex H H2 := fun x o h => b x o (a x o h)
theorem Ex.new {H : Hp} {p : Addr} {o : HO} (h : H p = none) : Ex H (upd H p o) := fun a u e => by
  rw [upd_ne (ne_of_none e h)]; exact e
theorem Ex.upd {H H' : Hp} {p : Addr} {o : HO} (e : Ex H H') (h : H p = none) : Ex H (upd H' p o) := fun a u q => by
  rw [upd_ne (ne_of_none q h)]; exact e a u q
theorem Ex.upd2 {H H' : Hp} {p : Addr} {o : HO} (e : Ex H H') (h : H' p = some o) : Ex (L2.upd H p o) H' := fun a u q => by
  by_cases ha : a = p
  · subst ha; rw [upd_same] at q; cases q; exact h
  · rw [upd_ne ha] at q; exact e a u q
theorem Ex.free {H H' : Hp} (e : Ex H H') {l : Addr} (h : H' l = none) : H l = none := by
  cases q : H l with
  | none => rfl
  | some o => rw [e l o q] at h; cases h
theorem Ex.sqL {K : PySem.W.Frag} {H H' : Hp} {a : Addr} {xs : List V} (e : Ex H H') (h : SqL K H a xs) : SqL K H' a xs := by
  rcases h with (h | ⟨o, h⟩) | h
  · exact .inl (.inl (e _ _ h))
  · exact .inl (.inr ⟨o, e _ _ h⟩)
  · exact .inr h
theorem Ex.sqT {K : PySem.W.Frag} {H H' : Hp} {a : Addr} {xs : List V} (e : Ex H H') (h : SqT K H a xs) : SqT K H' a xs := by
  rcases h with (h | ⟨o, h⟩) | h
  · exact .inl (.inl (e _ _ h))
  · exact .inl (.inr ⟨o, e _ _ h⟩)
  · exact .inr h
def okC (xs : List V) : Bool := decide (xs.length < 2) || (decide (3 < xs.length) || xs.all fun x => match x with | .str _ => true | _ => false)
def SqU (K : PySem.W.Frag) (H : Hp) (a : Addr) (xs : List V) : Prop := H a = some (.tup xs) ∨ ∃ (o : Obj) (its : Array Value) (n : Nat), K.lookup a = some o ∧ o.cls = .type "tuple" ∧ o.data = .seq its n ∧ its.size ≤ sizeLine ∧ Vals xs its.toList ∧ okC xs = true
theorem SqU.t {K : PySem.W.Frag} {H : Hp} {a : Addr} {xs : List V} (h : SqU K H a xs) : SqT K H a xs := by
  rcases h with h | ⟨o, its, n, h1, h2, h3, h4, h5, _⟩
  · exact SqT.of h
  · exact .inr ⟨o, its, n, h1, h2, h3, h4, h5⟩
theorem SqU.of {K : PySem.W.Frag} {H : Hp} {a : Addr} {xs : List V} (h : H a = some (.tup xs)) : SqU K H a xs := .inl h
theorem Ex.sqU {K : PySem.W.Frag} {H H' : Hp} {a : Addr} {xs : List V} (e : Ex H H') (h : SqU K H a xs) : SqU K H' a xs := by
  rcases h with h | h
  · exact .inl (e _ _ h)
  · exact .inr h
structure Step (G H G' H' : Hp) : Prop where
  g : Ex G G'
  h : Ex H H'
  gh : Ex G' H'
  gr : ∀ b o, G' b = some o → G b = some o ∨ H b = none
theorem Step.refl {G H : Hp} (e : Ex G H) : Step G H G H := ⟨Ex.refl _, Ex.refl _, e, fun _ _ h => .inl h⟩
theorem Step.trans {G H G1 H1 G2 H2 : Hp} (a : Step G H G1 H1) (b : Step G1 H1 G2 H2) : Step G H G2 H2 :=
  ⟨a.g.trans b.g, a.h.trans b.h, b.gh, fun x o q => by
    rcases b.gr x o q with q | q
    · exact a.gr x o q
    · exact .inr (a.h.free q)⟩
theorem Step.new {G H : Hp} {p : Addr} {o : HO} (e : Ex G H) (h : H p = none) : Step G H (upd G p o) (upd H p o) :=
  ⟨Ex.new (e.free h), Ex.new h, fun a u q => by
    by_cases ha : a = p
    · subst ha; rw [upd_same] at q ⊢; exact q
    · rw [upd_ne ha] at q ⊢; exact e a u q, fun b u q => by
    by_cases hb : b = p
    · subst hb; exact .inr h
    · rw [upd_ne hb] at q; exact .inl q⟩
theorem Step.new' {G H : Hp} {p : Addr} {o : HO} (e : Ex G H) (h : H p = none) : Step G H G (upd H p o) :=
  ⟨Ex.refl _, Ex.new h, e.upd (e.free h), fun _ _ q => .inl q⟩
theorem Step.frz {G0 H0 G H : Hp} {p : Addr} {o : HO} (s : Step G0 H0 G H) (h : H p = some o) (h0 : H0 p = none) (hg : G p = none) : Step G0 H0 (upd G p o) H :=
  ⟨s.g.trans (Ex.new hg), s.h, s.gh.upd2 h, fun b u q => by
    by_cases hb : b = p
    · subst hb; exact .inr h0
    · rw [upd_ne hb] at q; exact s.gr b u q⟩
mutual
theorem NkH.mono {K : PySem.W.Frag} {H H' : Hp} (e : Ex H H') : ∀ {k : NestedKey} {v : V}, NkH K H k v → NkH K H' k v
  | _, _, .none => .none
  | _, _, .num i => .num i
  | _, _, .tup h r => .tup (e.sqT h) (NkHs.mono e r)
theorem NkHs.mono {K : PySem.W.Frag} {H H' : Hp} (e : Ex H H') : ∀ {ks : List NestedKey} {vs : List V}, NkHs K H ks vs → NkHs K H' ks vs
  | _, _, .nil => .nil
  | _, _, .cons a b => .cons (NkH.mono e a) (NkHs.mono e b)
end
theorem XKey.mono {K : PySem.W.Frag} {H H' : Hp} {xs : XV} (h : XKey K H xs) (e : Ex H H') : XKey K H' xs := fun x hx => ⟨(h x hx).1.mono e, (h x hx).2⟩
structure Kn where
  K : PySem.W.Frag
  cl : Nat → Option (Addr × List Str)
mutual
inductive RD (k : Kn) (G : Hp) : D → V → Prop where
  | non : RD k G .non .non
  | bl (b : Bool) : RD k G (.bl b) (.bl b)
  | int (i : Int) : RD k G (.int i) (.int i)
  | str (x : Str) : RD k G (.str x) (.str x)
  | ty (n : String) : RD k G (.ty n) (.ty n)
  | tup {ds : List D} {a : Addr} {vs : List V} : SqU k.K G a vs → RDs k G ds vs → RD k G (.tup ds) (.ref a)
  | lst {ds : List D} {a : Addr} {vs : List V} : G a = some (.lst vs) → RDs k G ds vs → RD k G (.lst ds) (.ref a)
  | cls {c : Nat} {C : Addr} {nm : List Str} : k.cl c = some (C, nm) → RD k G (.cls c) (.ref C)
  | scr {ns : List Int} {a : Addr} : SqL k.K G a (ns.map V.int) → RD k G (.scr ns) (.ref a)
  | dic {ks : List Key} {ds : List D} {a : Addr} {vs : List V} : G a = some (.dK (ks.zip vs)) → ks.length = ds.length → RDs k G ds vs → RD k G (.dic ks ds) (.ref a)
  | dit {ks : List (List Key)} {ds : List D} {a : Addr} {vs : List V} : G a = some (.dT (ks.zip vs)) → ks.length = ds.length → RDs k G ds vs → RD k G (.dit ks ds) (.ref a)
  | dig {ks : List NestedKey} {ds : List D} {a l : Addr} {xs : XV} : G l = some (dnO a xs) → xs.map (fun x => x.1) = ks → XKey k.K G xs → RDs k G ds (xs.map fun x => x.2.2) → RD k G (.dig ks ds) (.ref l)
  | dkf {ks : List Key} {ds : List D} {a : Addr} {o : Obj} {vs : List V} : G a = some (.frz o (.dK (ks.zip vs))) → ks.length = ds.length → RDs k G ds vs → RD k G (.dkf ks ds) (.ref a)
  | obj {c : Nat} {ds : List D} {a C dx : Addr} {nm : List Str} {vs : List V} : k.cl c = some (C, nm) → G a = some (.ins C dx (nm.zip vs)) → RDs k G ds vs → RD k G (.obj c ds) (.ref a)
inductive RDs (k : Kn) (G : Hp) : List D → List V → Prop where
  | nil : RDs k G [] []
  | cons {d : D} {ds : List D} {v : V} {vs : List V} : RD k G d v → RDs k G ds vs → RDs k G (d :: ds) (v :: vs)
end
mutual
theorem RD.mono {k : Kn} {G G' : Hp} (e : Ex G G') : ∀ {d : D} {v : V}, RD k G d v → RD k G' d v
  | _, _, .non => .non
  | _, _, .bl b => .bl b
  | _, _, .int i => .int i
  | _, _, .str x => .str x
  | _, _, .ty n => .ty n
  | _, _, .tup h r => .tup (e.sqU h) (RDs.mono e r)
  | _, _, .lst h r => .lst (e _ _ h) (RDs.mono e r)
  | _, _, .scr h => .scr (e.sqL h)
  | _, _, .cls h => .cls h
  | _, _, .dic h l r => .dic (e _ _ h) l (RDs.mono e r)
  | _, _, .dit h l r => .dit (e _ _ h) l (RDs.mono e r)
  | _, _, .dkf h l r => .dkf (e _ _ h) l (RDs.mono e r)
  | _, _, .dig h l kk r => .dig (e _ _ h) l (kk.mono e) (RDs.mono e r)
  | _, _, .obj c h r => .obj c (e _ _ h) (RDs.mono e r)
theorem RDs.mono {k : Kn} {G G' : Hp} (e : Ex G G') : ∀ {ds : List D} {vs : List V}, RDs k G ds vs → RDs k G' ds vs
  | _, _, .nil => .nil
  | _, _, .cons a b => .cons (RD.mono e a) (RDs.mono e b)
end
section
variable {k : Kn} {G H : Hp}
theorem RDs.length : ∀ {ds : List D} {vs : List V}, RDs k G ds vs → ds.length = vs.length
  | _, _, .nil => rfl
  | _, _, .cons _ b => by simp [RDs.length b]
theorem RDs.append : ∀ {ds es : List D} {vs us : List V}, RDs k G ds vs → RDs k G es us → RDs k G (ds ++ es) (vs ++ us)
  | _, _, _, _, .nil, s => s
  | _, _, _, _, .cons a b, s => .cons a (RDs.append b s)
theorem RDs.get : ∀ {ds : List D} {vs : List V} {i : Nat} {d : D}, RDs k G ds vs → ds[i]? = some d → ∃ v, vs[i]? = some v ∧ RD k G d v
  | _, _, _, _, .nil, h => by simp at h
  | _, _, 0, _, .cons a _, h => by simp at h; subst h; exact ⟨_, rfl, a⟩
  | _, _, i + 1, d, .cons _ b, h => by
    obtain ⟨v, h1, h2⟩ := RDs.get (i := i) (d := d) b (by simpa using h)
    exact ⟨v, by simpa using h1, h2⟩
theorem RDs.take : ∀ {ds : List D} {vs : List V} (n : Nat), RDs k G ds vs → RDs k G (ds.take n) (vs.take n)
  | _, _, 0, _ => by simpa using .nil
  | _, _, _ + 1, .nil => .nil
  | _, _, n + 1, .cons r t => .cons r (RDs.take n t)
theorem RDs.drop : ∀ {ds : List D} {vs : List V} (n : Nat), RDs k G ds vs → RDs k G (ds.drop n) (vs.drop n)
  | _, _, 0, r => r
  | _, _, _ + 1, .nil => .nil
  | _, _, n + 1, .cons _ t => RDs.drop n t
theorem RDs.reverse : ∀ {ds : List D} {vs : List V}, RDs k G ds vs → RDs k G ds.reverse vs.reverse
  | _, _, .nil => .nil
  | _, _, .cons a b => by rw [List.reverse_cons, List.reverse_cons]; exact RDs.append (RDs.reverse b) (.cons a .nil)
theorem RDs.set : ∀ {ds : List D} {vs : List V} (i : Nat) {d : D} {v : V}, RDs k G ds vs → RD k G d v → RDs k G (ds.set i d) (vs.set i v)
  | _, _, _, _, _, .nil, _ => .nil
  | _, _, 0, _, _, .cons _ t, r => .cons r t
  | _, _, i + 1, _, _, .cons q t, r => .cons q (RDs.set i t r)
theorem RDs.ints : ∀ (ns : List Int), RDs k G (ns.map D.int) (ns.map V.int)
  | [] => .nil
  | n :: ns => .cons (.int n) (RDs.ints ns)
end
inductive Cont (k : Kn) (G : Hp) : D → HO → Prop where
  | lst {ds : List D} {vs : List V} : RDs k G ds vs → Cont k G (.lst ds) (.lst vs)
  | dic {ks : List Key} {ds : List D} {vs : List V} : ks.length = ds.length → RDs k G ds vs → Cont k G (.dic ks ds) (.dK (ks.zip vs))
  | dit {ks : List (List Key)} {ds : List D} {vs : List V} : ks.length = ds.length → RDs k G ds vs → Cont k G (.dit ks ds) (.dT (ks.zip vs))
  | dig {ks : List NestedKey} {ds : List D} {a : Addr} {xs : XV} : xs.map (fun x => x.1) = ks → XKey k.K G xs → RDs k G ds (xs.map fun x => x.2.2) → Cont k G (.dig ks ds) (dnO a xs)
  | obj {c : Nat} {ds : List D} {C dx : Addr} {nm : List Str} {vs : List V} : k.cl c = some (C, nm) → RDs k G ds vs → Cont k G (.obj c ds) (.ins C dx (nm.zip vs))
theorem Cont.mono {k : Kn} {G G' : Hp} (e : Ex G G') {d : D} {o : HO} (c : Cont k G d o) : Cont k G' d o := by
  cases c with
  | lst r => exact .lst (r.mono e)
  | dic l r => exact .dic l (r.mono e)
  | dit l r => exact .dit l (r.mono e)
  | dig l kk r => exact .dig l (kk.mono e) (r.mono e)
  | obj h r => exact .obj h (r.mono e)
theorem Cont.rd {k : Kn} {G : Hp} {d : D} {o : HO} {a : Addr} (c : Cont k G d o) (h : G a = some o) : RD k G d (.ref a) := by
  cases c with
  | lst r => exact .lst h r
  | dic l r => exact .dic h l r
  | dit l r => exact .dit h l r
  | dig l kk r => exact .dig h l kk r
  | obj q r => exact .obj q h r
structure Cf where
  k : Kn
  H0 : Hp
  G0 : Hp
  W : WX
def OwnAt (S : Env) (σ : St) (i : Nat) (a : Addr) : Prop := (∃ d, S[i]? = some (some ⟨true, d⟩)) ∧ σ[i]? = some (some (.ref a))
structure Rel (c : Cf) (G : Hp) (S : Env) (σ : St) (H : Hp) : Prop where
  st : Step c.G0 c.H0 G H
  len : S.length = σ.length
  fz : ∀ (i : Nat) (d : D), S[i]? = some (some ⟨false, d⟩) → ∃ v, σ[i]? = some (some v) ∧ RD c.k G d v
  ow : ∀ (i : Nat) (d : D), S[i]? = some (some ⟨true, d⟩) → ∃ a o, σ[i]? = some (some (.ref a)) ∧ G a = none ∧ c.H0 a = none ∧ H a = some o ∧ Cont c.k G d o
  nd : ∀ (i j : Nat) (a : Addr), OwnAt S σ i a → OwnAt S σ j a → i = j
section
variable {c : Cf} {G G' H H' : Hp} {S : Env} {σ : St}
theorem Rel.own (r : Rel c G S σ H) {i : Nat} {a : Addr} (h : OwnAt S σ i a) : G a = none ∧ c.H0 a = none ∧ ∃ o d, H a = some o ∧ S[i]? = some (some ⟨true, d⟩) ∧ Cont c.k G d o := by
  obtain ⟨⟨d, hd⟩, hs⟩ := h
  obtain ⟨a', o, e, g, h0, ho, ct⟩ := r.ow i d hd
  rw [hs] at e; cases e
  exact ⟨g, h0, o, d, ho, hd, ct⟩
theorem Rel.grow (r : Rel c G S σ H) (s : Step G H G' H') : Rel c G' S σ H' where
  st := r.st.trans s
  len := r.len
  fz := fun i d h => let ⟨v, e, q⟩ := r.fz i d h; ⟨v, e, q.mono s.g⟩
  ow := fun i d h => by
    obtain ⟨a, o, e, g, h0, ho, ct⟩ := r.ow i d h
    refine ⟨a, o, e, ?_, h0, s.h _ _ ho, ct.mono s.g⟩
    cases q : G' a with
    | none => rfl
    | some u =>
      rcases s.gr a u q with z | z
      · rw [g] at z; cases z
      · rw [ho] at z; cases z
  nd := r.nd
theorem Rel.frz (r : Rel c G S σ H) {i : Nat} {d : D} (h : S[i]? = some (some ⟨true, d⟩)) : ∃ G', Ex G G' ∧ Rel c G' (S.set i (some ⟨false, d⟩)) σ H := by
  obtain ⟨a, o, e, g, h0, ho, ct⟩ := r.ow i d h
  have ow : OwnAt S σ i a := ⟨⟨d, h⟩, e⟩
  have ex : Ex G (upd G a o) := Ex.new g
  have hi : i < S.length := (List.getElem?_eq_some_iff.mp h).1
  refine ⟨upd G a o, ex, ⟨r.st.frz ho h0 g, by rw [List.length_set]; exact r.len, fun j d' q => ?_, fun j d' q => ?_, fun j l b q1 q2 => ?_⟩⟩
  · by_cases hj : i = j
    · subst hj
      rw [List.getElem?_set_self hi] at q; cases q
      exact ⟨_, e, (ct.mono ex).rd upd_same⟩
    · rw [List.getElem?_set_ne hj] at q
      obtain ⟨v, e', q'⟩ := r.fz j d' q
      exact ⟨v, e', q'.mono ex⟩
  · by_cases hj : i = j
    · subst hj
      rw [List.getElem?_set_self hi] at q; cases q
    · rw [List.getElem?_set_ne hj] at q
      obtain ⟨b, u, e', g', h0', ho', ct'⟩ := r.ow j d' q
      have hb : b ≠ a := fun z => hj (r.nd i j a ow ⟨⟨d', q⟩, by rw [← z]; exact e'⟩)
      exact ⟨b, u, e', by rw [upd_ne hb]; exact g', h0', ho', ct'.mono ex⟩
  · have back : ∀ {m : Nat}, OwnAt (S.set i (some ⟨false, d⟩)) σ m b → OwnAt S σ m b := fun {m} hm => by
      obtain ⟨⟨d', q⟩, z⟩ := hm
      by_cases hj : i = m
      · subst hj; rw [List.getElem?_set_self hi] at q; cases q
      · rw [List.getElem?_set_ne hj] at q; exact ⟨⟨d', q⟩, z⟩
    exact r.nd j l b (back q1) (back q2)
theorem Rel.setS (r : Rel c G S σ H) {d : D} {v : V} (i : Nat) (h : RD c.k G d v) : Rel c G (S.set i (some ⟨false, d⟩)) (σ.set i (some v)) H where
  st := r.st
  len := by rw [List.length_set, List.length_set]; exact r.len
  fz := fun j d' q => by
    by_cases hj : i = j
    · subst hj
      have hi : i < S.length := by have := (List.getElem?_eq_some_iff.mp q).1; rwa [List.length_set] at this
      rw [List.getElem?_set_self hi] at q; cases q
      exact ⟨v, List.getElem?_set_self (by rw [← r.len]; exact hi), h⟩
    · rw [List.getElem?_set_ne hj] at q ⊢; exact r.fz j d' q
  ow := fun j d' q => by
    by_cases hj : i = j
    · subst hj
      have hi : i < S.length := by have := (List.getElem?_eq_some_iff.mp q).1; rwa [List.length_set] at this
      rw [List.getElem?_set_self hi] at q; cases q
    · rw [List.getElem?_set_ne hj] at q ⊢; exact r.ow j d' q
  nd := fun j l b q1 q2 => by
    have back : ∀ {m : Nat}, OwnAt (S.set i (some ⟨false, d⟩)) (σ.set i (some v)) m b → OwnAt S σ m b := fun {m} hm => by
      obtain ⟨⟨d', q⟩, z⟩ := hm
      by_cases hj : i = m
      · subst hj
        have hi : i < S.length := by have := (List.getElem?_eq_some_iff.mp q).1; rwa [List.length_set] at this
        rw [List.getElem?_set_self hi] at q; cases q
      · rw [List.getElem?_set_ne hj] at q z; exact ⟨⟨d', q⟩, z⟩
    exact r.nd j l b (back q1) (back q2)
theorem Rel.setO (r : Rel c G S σ H) {d : D} {a : Addr} {o : HO} (i : Nat) (ha : H' a = some o) (hg : G a = none) (h0 : c.H0 a = none) (ct : Cont c.k G d o) (hn : ∀ j, OwnAt S σ j a → j = i) (hh : ∀ b, b ≠ a → H' b = H b) :
    Rel c G (S.set i (some ⟨true, d⟩)) (σ.set i (some (.ref a))) H' where
  st := ⟨r.st.g, fun b u q => by rw [hh b (ne_of_none q h0)]; exact r.st.h b u q, fun b u q => by rw [hh b (ne_of_none q hg)]; exact r.st.gh b u q, r.st.gr⟩
  len := by rw [List.length_set, List.length_set]; exact r.len
  fz := fun j d' q => by
    by_cases hj : i = j
    · subst hj
      have hi : i < S.length := by have := (List.getElem?_eq_some_iff.mp q).1; rwa [List.length_set] at this
      rw [List.getElem?_set_self hi] at q; cases q
    · rw [List.getElem?_set_ne hj] at q ⊢; exact r.fz j d' q
  ow := fun j d' q => by
    by_cases hj : i = j
    · subst hj
      have hi : i < S.length := by have := (List.getElem?_eq_some_iff.mp q).1; rwa [List.length_set] at this
      rw [List.getElem?_set_self hi] at q; cases q
      exact ⟨a, o, List.getElem?_set_self (by rw [← r.len]; exact hi), hg, h0, ha, ct⟩
    · rw [List.getElem?_set_ne hj] at q ⊢
      obtain ⟨b, u, e', g', h0', ho', ct'⟩ := r.ow j d' q
      have hb : b ≠ a := fun z => hj (hn j ⟨⟨d', q⟩, by rw [← z]; exact e'⟩).symm
      exact ⟨b, u, e', g', h0', by rw [hh b hb]; exact ho', ct'⟩
  nd := fun j l b q1 q2 => by
    have back : ∀ {m : Nat}, OwnAt (S.set i (some ⟨true, d⟩)) (σ.set i (some (.ref a))) m b → (m = i ∧ b = a) ∨ (m ≠ i ∧ OwnAt S σ m b) := fun {m} hm => by
      obtain ⟨⟨d', q⟩, z⟩ := hm
      by_cases hj : i = m
      · subst hj
        have hi : i < S.length := by have := (List.getElem?_eq_some_iff.mp q).1; rwa [List.length_set] at this
        rw [List.getElem?_set_self (by rw [← r.len]; exact hi)] at z; cases z
        exact .inl ⟨rfl, rfl⟩
      · rw [List.getElem?_set_ne hj] at q z; exact .inr ⟨Ne.symm hj, ⟨d', q⟩, z⟩
    rcases back q1 with ⟨h1, e1⟩ | ⟨n1, o1⟩ <;> rcases back q2 with ⟨h2, e2⟩ | ⟨n2, o2⟩
    · rw [h1, h2]
    · exact absurd (hn l (by rw [← e1]; exact o2)) n2
    · exact absurd (hn j (by rw [← e2]; exact o1)) n1
    · exact r.nd j l b o1 o2
theorem Rel.unset (r : Rel c G S σ H) (i : Nat) : Rel c G (S.set i none) (σ.set i none) H where
  st := r.st
  len := by rw [List.length_set, List.length_set]; exact r.len
  fz := fun j d' q => by
    by_cases hj : i = j
    · subst hj
      have hi : i < S.length := by have := (List.getElem?_eq_some_iff.mp q).1; rwa [List.length_set] at this
      rw [List.getElem?_set_self hi] at q; cases q
    · rw [List.getElem?_set_ne hj] at q ⊢; exact r.fz j d' q
  ow := fun j d' q => by
    by_cases hj : i = j
    · subst hj
      have hi : i < S.length := by have := (List.getElem?_eq_some_iff.mp q).1; rwa [List.length_set] at this
      rw [List.getElem?_set_self hi] at q; cases q
    · rw [List.getElem?_set_ne hj] at q ⊢; exact r.ow j d' q
  nd := fun j l b q1 q2 => by
    have back : ∀ {m : Nat}, OwnAt (S.set i none) (σ.set i none) m b → OwnAt S σ m b := fun {m} hm => by
      obtain ⟨⟨d', q⟩, z⟩ := hm
      by_cases hj : i = m
      · subst hj
        have hi : i < S.length := by have := (List.getElem?_eq_some_iff.mp q).1; rwa [List.length_set] at this
        rw [List.getElem?_set_self hi] at q; cases q
      · rw [List.getElem?_set_ne hj] at q z; exact ⟨⟨d', q⟩, z⟩
    exact r.nd j l b (back q1) (back q2)
end
def wipeS (S : Env) : List Nat → Env
  | [] => S
  | v :: vs => (wipeS S vs).set v none
theorem Rel.wipe {c : Cf} {G H : Hp} {S : Env} {σ : St} (r : Rel c G S σ H) : ∀ vs : List Nat, Rel c G (wipeS S vs) (L2.wipe σ vs) H
  | [] => r
  | v :: vs => (Rel.wipe r vs).unset v
theorem Rel.mut {c : Cf} {G H : Hp} {S : Env} {σ : St} (r : Rel c G S σ H) {i : Nat} {a : Addr} {d' : D} {o' : HO} (ow : OwnAt S σ i a) (ct : Cont c.k G d' o') : Rel c G (S.set i (some ⟨true, d'⟩)) σ (upd H a o') := by
  obtain ⟨g, h0, _⟩ := r.own ow
  have q := r.setO (H' := upd H a o') i upd_same g h0 ct (fun j oj => r.nd j i a oj ow) (fun b hb => upd_ne hb)
  have e : σ.set i (some (.ref a)) = σ := by
    apply List.ext_getElem?
    intro j
    by_cases hj : i = j
    · subst hj; rw [List.getElem?_set_self (List.getElem?_eq_some_iff.mp ow.2).1, ow.2]
    · rw [List.getElem?_set_ne hj]
  rw [e] at q; exact q
def Now (k : Kn) (G H : Hp) (d : D) (v : V) : Prop := RD k G d v ∨ ∃ a o, v = .ref a ∧ H a = some o ∧ Cont k G d o
inductive Nows (k : Kn) (G H : Hp) : List D → List V → Prop where
  | nil : Nows k G H [] []
  | cons {d : D} {ds : List D} {v : V} {vs : List V} : Now k G H d v → Nows k G H ds vs → Nows k G H (d :: ds) (v :: vs)
section
variable {k : Kn} {G G' H H' : Hp}
theorem Now.grow {d : D} {v : V} (n : Now k G H d v) (s : Step G H G' H') : Now k G' H' d v := by
  rcases n with n | ⟨a, o, e, h, ct⟩
  · exact .inl (n.mono s.g)
  · exact .inr ⟨a, o, e, s.h _ _ h, ct.mono s.g⟩
theorem Nows.grow (s : Step G H G' H') : ∀ {ds : List D} {vs : List V}, Nows k G H ds vs → Nows k G' H' ds vs
  | _, _, .nil => .nil
  | _, _, .cons a b => .cons (a.grow s) (Nows.grow s b)
theorem Nows.of : ∀ {ds : List D} {vs : List V}, RDs k G ds vs → Nows k G H ds vs
  | _, _, .nil => .nil
  | _, _, .cons a b => .cons (.inl a) (Nows.of b)
theorem Now.rd {d : D} {v : V} (e : Ex G H) (n : Now k G H d v) : RD k H d v := by
  rcases n with n | ⟨a, o, rfl, h, ct⟩
  · exact n.mono e
  · exact (ct.mono e).rd h
theorem Nows.rd (e : Ex G H) : ∀ {ds : List D} {vs : List V}, Nows k G H ds vs → RDs k H ds vs
  | _, _, .nil => .nil
  | _, _, .cons a b => .cons (a.rd e) (Nows.rd e b)
theorem Now.lst {ds : List D} {v : V} (e : Ex G H) (n : Now k G H (.lst ds) v) : ∃ a vs, v = .ref a ∧ H a = some (.lst vs) ∧ RDs k G ds vs := by
  rcases n with n | ⟨a, o, rfl, h, ct⟩
  · cases n with | lst h r => exact ⟨_, _, rfl, e _ _ h, r⟩
  · cases ct with | lst r => exact ⟨_, _, rfl, h, r⟩
theorem Now.tup {ds : List D} {v : V} (n : Now k G H (.tup ds) v) : ∃ a vs, v = .ref a ∧ SqU k.K G a vs ∧ RDs k G ds vs := by
  rcases n with n | ⟨a, o, rfl, h, ct⟩
  · cases n with | tup h r => exact ⟨_, _, rfl, h, r⟩
  · cases ct
theorem Now.scr {ns : List Int} {v : V} (n : Now k G H (.scr ns) v) : ∃ a, v = .ref a ∧ SqL k.K G a (ns.map V.int) := by
  rcases n with n | ⟨a, o, rfl, h, ct⟩
  · cases n with | scr h => exact ⟨_, rfl, h⟩
  · cases ct
theorem Now.dic {ks : List Key} {ds : List D} {v : V} (e : Ex G H) (n : Now k G H (.dic ks ds) v) : ∃ a vs, v = .ref a ∧ H a = some (.dK (ks.zip vs)) ∧ ks.length = ds.length ∧ RDs k G ds vs := by
  rcases n with n | ⟨a, o, rfl, h, ct⟩
  · cases n with | dic h l r => exact ⟨_, _, rfl, e _ _ h, l, r⟩
  · cases ct with | dic l r => exact ⟨_, _, rfl, h, l, r⟩
theorem Now.dit {ks : List (List Key)} {ds : List D} {v : V} (e : Ex G H) (n : Now k G H (.dit ks ds) v) : ∃ a vs, v = .ref a ∧ H a = some (.dT (ks.zip vs)) ∧ ks.length = ds.length ∧ RDs k G ds vs := by
  rcases n with n | ⟨a, o, rfl, h, ct⟩
  · cases n with | dit h l r => exact ⟨_, _, rfl, e _ _ h, l, r⟩
  · cases ct with | dit l r => exact ⟨_, _, rfl, h, l, r⟩
theorem Now.dkf {ks : List Key} {ds : List D} {v : V} (e : Ex G H) (n : Now k G H (.dkf ks ds) v) : ∃ a o vs, v = .ref a ∧ H a = some (.frz o (.dK (ks.zip vs))) ∧ ks.length = ds.length ∧ RDs k G ds vs := by
  rcases n with n | ⟨a, o, rfl, h, ct⟩
  · cases n with | dkf h l r => exact ⟨_, _, _, rfl, e _ _ h, l, r⟩
  · cases ct
theorem Now.obj {c : Nat} {ds : List D} {v : V} (e : Ex G H) (n : Now k G H (.obj c ds) v) : ∃ a C dx nm vs, v = .ref a ∧ k.cl c = some (C, nm) ∧ H a = some (.ins C dx (nm.zip vs)) ∧ RDs k G ds vs := by
  rcases n with n | ⟨a, o, rfl, h, ct⟩
  · cases n with | obj q h r => exact ⟨_, _, _, _, _, rfl, q, e _ _ h, r⟩
  · cases ct with | obj q r => exact ⟨_, _, _, _, _, rfl, q, h, r⟩
theorem Now.int {i : Int} {v : V} (n : Now k G H (.int i) v) : v = .int i := by
  rcases n with n | ⟨a, o, rfl, h, ct⟩
  · cases n; rfl
  · cases ct
theorem Now.bl {i : Bool} {v : V} (n : Now k G H (.bl i) v) : v = .bl i := by
  rcases n with n | ⟨a, o, rfl, h, ct⟩
  · cases n; rfl
  · cases ct
theorem Now.str {i : Str} {v : V} (n : Now k G H (.str i) v) : v = .str i := by
  rcases n with n | ⟨a, o, rfl, h, ct⟩
  · cases n; rfl
  · cases ct
theorem Now.non {v : V} (n : Now k G H .non v) : v = .non := by
  rcases n with n | ⟨a, o, rfl, h, ct⟩
  · cases n; rfl
  · cases ct
theorem Now.ty {x : String} {v : V} (n : Now k G H (.ty x) v) : v = .ty x := by
  rcases n with n | ⟨a, o, rfl, h, ct⟩
  · cases n; rfl
  · cases ct
end
def Res (k : Kn) (H : Hp) (G' H' : Hp) (d : D) (v : V) : Kd → Prop
  | .st => RD k G' d v
  | .bo => Now k G' H' d v
  | .fr => ∃ a o, v = .ref a ∧ G' a = none ∧ H a = none ∧ H' a = some o ∧ Cont k G' d o
section
variable {k : Kn} {H0 H G' H' G2 H2 : Hp} {d : D} {v : V} {kd : Kd}
theorem Res.mono (h : Res k H G' H' d v kd) (e : Ex H0 H) : Res k H0 G' H' d v kd := by
  cases kd with
  | st => exact h
  | bo => exact h
  | fr => obtain ⟨a, o, e', hg, h0, r⟩ := h; exact ⟨a, o, e', hg, e.free h0, r⟩
theorem Res.now (h : Res k H G' H' d v kd) : Now k G' H' d v := by
  cases kd with
  | st => exact .inl h
  | bo => exact h
  | fr => obtain ⟨a, o, e, _, _, h, ct⟩ := h; exact .inr ⟨a, o, e, h, ct⟩
end
def Args (k : Kn) (G H : Hp) (ds : List D) (vs : List V) : Bool → Prop
  | true => Nows k G H ds vs
  | false => RDs k G ds vs
theorem Args.nows {k : Kn} {G H : Hp} {ds : List D} {vs : List V} {b : Bool} (h : Args k G H ds vs b) : Nows k G H ds vs := by
  cases b with
  | true => exact h
  | false => exact Nows.of h
def XR (c : Cf) (G : Hp) (x : Exc) (cls : Value) (da : Option Addr) (H : Hp) : Prop :=
  ∃ C nm, c.k.cl x.c = some (C, nm) ∧ cls = .ref C ∧ ((nm = [] ∧ x.fs = [] ∧ da = none) ∨ ∃ d vs, da = some d ∧ H d = some (.xd (nm.zip vs)) ∧ RDs c.k G x.fs vs ∧ nm.length = vs.length)
def PX (c : Cf) (σ : St) (x : Exc) : Prop := ∀ cls da G' H', Step c.G0 c.H0 G' H' → XR c G' x cls da H' → c.W cls da σ H'
def PXs (c : Cf) (x : Exc) : Prop := ∀ σ, PX c σ x
abbrev liftX (E : XK) : WX := fun cls da _ H => E cls da H
def PostE (c : Cf) (k : Kd) (G : Hp) (S : Env) (σ : St) (H : Hp) (Q : VK) : R D → Prop
  | .ok d => ∀ v G' H', Step G H G' H' → Res c.k H G' H' d v k → Q v H'
  | .exc x => PX c σ x
  | .fail => False
def RdE (c : Cf) (k : Kd) (f : FE) : TE := fun σ H Q => ∃ G S, Rel c G S σ H ∧ PostE c k G S σ H Q (f S)
def PostT (c : Cf) (G : Hp) (S : Env) (σ : St) (H : Hp) (Q : Bool → Hp → Prop) : R Bool → Prop
  | .ok b => ∀ G' H', Step G H G' H' → Q b H'
  | .exc x => PX c σ x
  | .fail => False
def RdT (c : Cf) (f : FT) : TT := fun σ H Q => ∃ G S, Rel c G S σ H ∧ PostT c G S σ H Q (f S)
def PostA (c : Cf) (b : Bool) (G : Hp) (S : Env) (σ : St) (H : Hp) (Q : List V → Hp → Prop) : R (List D) → Prop
  | .ok ds => ∀ vs G' H', Step G H G' H' → Args c.k G' H' ds vs b → Q vs H'
  | .exc x => PX c σ x
  | .fail => False
def RdA (c : Cf) (b : Bool) (f : FA) : TA := fun σ H Q => ∃ G S, Rel c G S σ H ∧ PostA c b G S σ H Q (f S)
structure Frm (as : List Nat) (S : Env) (σ : St) (H : Hp) (S' : Env) (σ' : St) (H' : Hp) : Prop where
  len : σ'.length = σ.length
  sg : ∀ (i : Nat), i ∉ as → σ'[i]? = σ[i]?
  sl : ∀ (i : Nat), i ∉ as → i + 1000 ∉ as → S'[i]? = S[i]?
  ow : ∀ (i : Nat) (a : Addr), i ∉ as → i + 1000 ∉ as → OwnAt S σ i a → H' a = H a
theorem Frm.refl (as : List Nat) (S : Env) (σ : St) (H : Hp) : Frm as S σ H S σ H := ⟨rfl, fun _ _ => rfl, fun _ _ _ => rfl, fun _ _ _ _ _ => rfl⟩
theorem Frm.trans {as bs : List Nat} {S S1 S2 : Env} {σ σ1 σ2 : St} {H H1 H2 : Hp} (a : Frm as S σ H S1 σ1 H1) (b : Frm bs S1 σ1 H1 S2 σ2 H2) : Frm (as ++ bs) S σ H S2 σ2 H2 where
  len := b.len.trans a.len
  sg := fun i h => by
    simp only [List.mem_append, not_or] at h
    exact (b.sg i h.2).trans (a.sg i h.1)
  sl := fun i h h' => by
    simp only [List.mem_append, not_or] at h h'
    exact (b.sl i h.2 h'.2).trans (a.sl i h.1 h'.1)
  ow := fun i x h h' o => by
    simp only [List.mem_append, not_or] at h h'
    have o' : OwnAt S1 σ1 i x := ⟨by obtain ⟨d, e⟩ := o.1; exact ⟨d, (a.sl i h.1 h'.1).trans e⟩, (a.sg i h.1).trans o.2⟩
    exact (b.ow i x h.2 h'.2 o').trans (a.ow i x h.1 h'.1 o)
theorem Frm.mono {as bs : List Nat} {S S1 : Env} {σ σ1 : St} {H H1 : Hp} (a : Frm as S σ H S1 σ1 H1) (h : ∀ i, i ∈ as → i ∈ bs) : Frm bs S σ H S1 σ1 H1 :=
  ⟨a.len, fun i q => a.sg i fun z => q (h i z), fun i q q' => a.sl i (fun z => q (h i z)) fun z => q' (h _ z), fun i x q q' => a.ow i x (fun z => q (h i z)) fun z => q' (h _ z)⟩
theorem Frm.step {c : Cf} {as : List Nat} {S : Env} {σ : St} {G H G' H' : Hp} (r : Rel c G S σ H) (s : Step G H G' H') : Frm as S σ H S σ H' :=
  ⟨rfl, fun _ _ => rfl, fun _ _ _ => rfl, fun i a _ _ o => by
    obtain ⟨_, _, u, _, h, _⟩ := r.own o
    rw [h, s.h a u h]⟩
theorem Frm.mut {c : Cf} {G H : Hp} {S : Env} {σ : St} (r : Rel c G S σ H) {i : Nat} {a : Addr} {x : Option Sl} {o' : HO} (ow : OwnAt S σ i a) : Frm [i + 1000] S σ H (S.set i x) σ (upd H a o') :=
  ⟨rfl, fun _ _ => rfl, fun j _ h => List.getElem?_set_ne (fun z => h (by simp [z])), fun j b _ h oj => upd_ne (fun z => h (by
    have : i = j := r.nd i j b (by rw [z]; exact ow) oj
    simp [this]))⟩
def RV (c : Cf) (fr : Bool) (G H : Hp) (d : D) (v : V) : Prop :=
  match fr with
  | true => ∃ a o, v = .ref a ∧ G a = none ∧ c.H0 a = none ∧ H a = some o ∧ Cont c.k G d o
  | false => RD c.k G d v
structure OwR (k : Kn) (as : List Nat) (S' : Env) (σ : St) (G' H' : Hp) : Prop where
  ex : ∃ σ' : St, (∀ i : Nat, i ∉ as → σ'[i]? = σ[i]?) ∧ ∀ (i : Nat) (d : D), S'[i]? = some (some ⟨true, d⟩) → ∃ a o, σ'[i]? = some (some (.ref a)) ∧ G' a = none ∧ H' a = some o ∧ Cont k G' d o
theorem Rel.owR {c : Cf} {as : List Nat} {S : Env} {σ : St} {G H : Hp} (r : Rel c G S σ H) : OwR c.k as S σ G H :=
  ⟨σ, fun _ _ => rfl, fun i d q => by
    obtain ⟨a, o, e, g, _, ho, ct⟩ := r.ow i d q
    exact ⟨a, o, e, g, ho, ct⟩⟩
theorem OwR.sub {k : Kn} {as bs : List Nat} {S : Env} {σ : St} {G H : Hp} (h : OwR k as S σ G H) (hs : ∀ i, i ∈ as → i ∈ bs) : OwR k bs S σ G H := by
  obtain ⟨σ', h1, h2⟩ := h.ex
  exact ⟨σ', fun i hi => h1 i fun z => hi (hs i z), h2⟩
theorem OwR.mv {k : Kn} {as bs : List Nat} {S S1 S2 : Env} {σ σ1 : St} {G H H0 H1 : Hp} (h : OwR k bs S2 σ1 G H) (fm : Frm as S σ H0 S1 σ1 H1) : OwR k (as ++ bs) S2 σ G H := by
  obtain ⟨σ', h1, h2⟩ := h.ex
  refine ⟨σ', fun i hi => ?_, h2⟩
  simp only [List.mem_append, not_or] at hi
  exact (h1 i hi.2).trans (fm.sg i hi.1)
def PostS (c : Cf) (fr : Bool) (as : List Nat) (G : Hp) (S : Env) (σ : St) (H : Hp) (Dn : Ends) : R (Fl × Env) → Prop
  | .ok (.nx, S') => ∀ G' σ' H', Ex G G' → Rel c G' S' σ' H' → Frm as S σ H S' σ' H' → Dn.nx σ' H'
  | .ok (.bk, S') => ∀ G' σ' H', Ex G G' → Rel c G' S' σ' H' → Frm as S σ H S' σ' H' → Dn.bk σ' H'
  | .ok (.ct, S') => ∀ G' σ' H', Ex G G' → Rel c G' S' σ' H' → Frm as S σ H S' σ' H' → Dn.ct σ' H'
  | .ok (.rt d, S') => ∀ v G' H', Step c.G0 c.H0 G' H' → RV c fr G' H' d v → OwR c.k as S' σ G' H' → Dn.rt v H'
  | .exc x => PXs c x
  | .fail => False
def RdS (c : Cf) (fr : Bool) (as : List Nat) (f : FS) : TS := fun Dn σ H => ∃ G S, Rel c G S σ H ∧ PostS c fr as G S σ H Dn (f S)
def PostG (c : Cf) (as : List Nat) (G : Hp) (S : Env) (σ : St) (H : Hp) (Q : St → Hp → Prop) : R Env → Prop
  | .ok S' => ∀ G' σ' H', Step G H G' H' → Rel c G' S' σ' H' → Frm as S σ H S' σ' H' → Q σ' H'
  | _ => False
def RdG (c : Cf) (as : List Nat) (g : FG) : TG := fun v σ H Q => ∃ G S d, Rel c G S σ H ∧ RD c.k G d v ∧ PostG c as G S σ H Q (g d S)
end M
set_option Elab.async false
set_option linter.all false
set_option maxRecDepth 100000
set_option maxHeartbeats 4000000
namespace M
open PySem L2
section
variable {X : Cx}
theorem peI {e : Expr} {t t' : TE} (h : PE X e t) (i : ∀ σ H Q, t' σ H Q → t σ H Q) : PE X e t' := ⟨fun pins s σ H Q I q => h.run pins s σ H Q I (i σ H Q q)⟩
theorem ptI {e : Expr} {t t' : TT} (h : PT X e t) (i : ∀ σ H Q, t' σ H Q → t σ H Q) : PT X e t' := ⟨fun pins s σ H Q I q => h.run pins s σ H Q I (i σ H Q q)⟩
theorem pwI {e : Expr} {t t' : TT} (h : PW X e t) (i : ∀ σ H Q, t' σ H Q → t σ H Q) : PW X e t' := ⟨fun wh pins s σ H Q I q => h.run wh pins s σ H Q I (i σ H Q q)⟩
theorem paI {e : List Expr} {t t' : TA} (h : PA X e t) (i : ∀ σ H Q, t' σ H Q → t σ H Q) : PA X e t' := ⟨fun pos pins s σ H Q I q => h.run pos pins s σ H Q I (i σ H Q q)⟩
theorem psI {e : Stmt} {t t' : TS} (h : PS X e t) (i : ∀ D σ H, t' D σ H → t D σ H) : PS X e t' := ⟨fun pins s σ H D I q => h.run pins s σ H D I (i D σ H q)⟩
theorem pssI {e : List Stmt} {t t' : TS} (h : PSs X e t) (i : ∀ D σ H, t' D σ H → t D σ H) : PSs X e t' := ⟨fun pins s σ H D I q => h.run pins s σ H D I (i D σ H q)⟩
theorem pgI {e : Expr} {t t' : TG} (h : PG X e t) (i : ∀ v σ H Q, t' v σ H Q → t v σ H Q) : PG X e t' := ⟨fun pins s σ H v u Q I r q => h.run pins s σ H v u Q I r (i v σ H Q q)⟩
theorem pgsI {e : List Expr} {t t' : TGs} (h : PGs X e t) (i : ∀ v σ H Q, t' v σ H Q → t v σ H Q) : PGs X e t' := ⟨fun pins s σ H v u Q I r q => h.run pins s σ H v u Q I r (i v σ H Q q)⟩
theorem piI {tg e : Expr} {t t' : TI} (h : PI X tg e t) (i : ∀ σ H Q, t' σ H Q → t σ H Q) : PI X tg e t' := ⟨fun pins s σ H R I q => h.run pins s σ H R I (i σ H R q)⟩
theorem poI {e : Option Expr} {t t' : TO} (h : PO X e t) (i : ∀ σ H Q, t' σ H Q → t σ H Q) : PO X e t' := ⟨fun pins s σ H Q I q => h.run pins s σ H Q I (i σ H Q q)⟩
theorem ptsI {e : List Expr} {t t' : TT} (h : PTs X e t) (i : ∀ σ H Q, t' σ H Q → t σ H Q) : PTs X e t' := ⟨fun pins s σ H Q I q => h.run pins s σ H Q I (i σ H Q q)⟩
end
section
variable {X : Cx} {c : Cf}
theorem rdE_go {kd : Kd} {f : FE} {G H : Hp} {S : Env} {σ : St} {Q : VK} {β : Type} {g : D → R β} {Post : R β → Prop} (r : Rel c G S σ H) (p : Post (f S >>= g))
    (hx : ∀ x, Post (.exc x) → PX c σ x) (hf : Post .fail → False) (k : ∀ d v G' H', Step G H G' H' → Res c.k H G' H' d v kd → Post (g d) → Q v H') : RdE c kd f σ H Q := by
  refine ⟨G, S, r, ?_⟩
  cases e : f S with
  | ok d => rw [e] at p; exact fun v G' H' s h => k d v G' H' s h p
  | exc x => rw [e] at p; exact hx x p
  | fail => rw [e] at p; exact hf p
theorem rdT_go {f : FT} {G H : Hp} {S : Env} {σ : St} {Q : Bool → Hp → Prop} {β : Type} {g : Bool → R β} {Post : R β → Prop} (r : Rel c G S σ H) (p : Post (f S >>= g))
    (hx : ∀ x, Post (.exc x) → PX c σ x) (hf : Post .fail → False) (k : ∀ d G' H', Step G H G' H' → Post (g d) → Q d H') : RdT c f σ H Q := by
  refine ⟨G, S, r, ?_⟩
  cases e : f S with
  | ok d => rw [e] at p; exact fun G' H' s => k d G' H' s p
  | exc x => rw [e] at p; exact hx x p
  | fail => rw [e] at p; exact hf p
theorem rdA_go {b : Bool} {f : FA} {G H : Hp} {S : Env} {σ : St} {Q : List V → Hp → Prop} {β : Type} {g : List D → R β} {Post : R β → Prop} (r : Rel c G S σ H) (p : Post (f S >>= g))
    (hx : ∀ x, Post (.exc x) → PX c σ x) (hf : Post .fail → False) (k : ∀ ds vs G' H', Step G H G' H' → Args c.k G' H' ds vs b → Post (g ds) → Q vs H') : RdA c b f σ H Q := by
  refine ⟨G, S, r, ?_⟩
  cases e : f S with
  | ok d => rw [e] at p; exact fun v G' H' s h => k d v G' H' s h p
  | exc x => rw [e] at p; exact hx x p
  | fail => rw [e] at p; exact hf p
abbrev PE' (X : Cx) (c : Cf) (kd : Kd) (e : Expr) (f : FE) : Prop := PE X e (RdE c kd f)
abbrev PT' (X : Cx) (c : Cf) (e : Expr) (f : FT) : Prop := PT X e (RdT c f)
abbrev PA' (X : Cx) (c : Cf) (b : Bool) (es : List Expr) (f : FA) : Prop := PA X es (RdA c b f)
theorem cst_of {e : Expr} {d : D} {v : V} (h : PE X e (tC v)) (r : ∀ G, RD c.k G d v) : PE' X c .st e (fun _ => .ok d) :=
  peI h fun σ H Q ⟨G, S, rel, p⟩ => p v G H (Step.refl rel.st.gh) (r G)
def eI (i : Int) : FE := fun _ => .ok (.int i)
def eS (x : Str) : FE := fun _ => .ok (.str x)
def eB (b : Bool) : FE := fun _ => .ok (.bl b)
def eN : FE := fun _ => .ok .non
theorem d_int {i j pos} : PE' X c .st (.Constant (.int i) j pos) (eI i) := cst_of pe_int fun _ => .int i
theorem d_str {i j pos} : PE' X c .st (.Constant (.str i) j pos) (eS i) := cst_of pe_str fun _ => .str i
theorem d_bl {i j pos} : PE' X c .st (.Constant (.bool i) j pos) (eB i) := cst_of pe_bl fun _ => .bl i
theorem d_non {j pos} : PE' X c .st (.Constant .none j pos) eN := cst_of pe_non fun _ => .non
def eV (i : Nat) : FE := fun S => match S[i]? with
  | some (some ⟨false, d⟩) => .ok d
  | _ => .fail
def eW (i : Nat) : FE := fun S => match S[i]? with
  | some (some ⟨_, d⟩) => .ok d
  | _ => .fail
theorem d_v (i : Nat) {x : Str} {pos : Pos} (hN : X.N[i]? = some x := by rfl) (hv : Vis X.env.scope x := by first | exact Or.inl rfl | exact Or.inr (Or.inl rfl) | exact Or.inr (Or.inr rfl)) (hd : (x == ("__debug__" : Str)) = false := by decide)
    (hcd : (x == ("__classdict__" : Str)) = false := by decide) : PE' X c .st (.Name x pos) (eV i) :=
  peI (pe_var hN hv hd hcd) fun σ H Q ⟨G, S, r, p⟩ => by
    unfold eV at p
    split at p
    · rename_i d e
      obtain ⟨v, e1, q⟩ := r.fz i d e
      exact ⟨v, e1, p v G H (Step.refl r.st.gh) q⟩
    · exact p.elim
theorem d_w (i : Nat) {x : Str} {pos : Pos} (hN : X.N[i]? = some x := by rfl) (hv : Vis X.env.scope x := by first | exact Or.inl rfl | exact Or.inr (Or.inl rfl) | exact Or.inr (Or.inr rfl)) (hd : (x == ("__debug__" : Str)) = false := by decide)
    (hcd : (x == ("__classdict__" : Str)) = false := by decide) : PE' X c .bo (.Name x pos) (eW i) :=
  peI (pe_var hN hv hd hcd) fun σ H Q ⟨G, S, r, p⟩ => by
    unfold eW at p
    split at p
    · rename_i b d e
      cases b with
      | false =>
        obtain ⟨v, e1, q⟩ := r.fz i d e
        exact ⟨v, e1, p v G H (Step.refl r.st.gh) (.inl q)⟩
      | true =>
        obtain ⟨a, o, e1, hg, h0, ho, ct⟩ := r.ow i d e
        exact ⟨_, e1, p _ G H (Step.refl r.st.gh) (.inr ⟨a, o, rfl, ho, ct⟩)⟩
    · exact p.elim
theorem d_z {e : Expr} {f : FE} (h : PE' X c .fr e f) : PE' X c .st e f :=
  peI h fun σ H Q ⟨G, S, r, p⟩ => ⟨G, S, r, by
    cases e1 : f S with
    | ok d =>
      rw [e1] at p
      rintro v G' H' s ⟨a, o, rfl, hg, hn, ha, ct⟩
      exact p _ (upd G' a o) H' (s.frz ha hn hg) ((ct.mono (Ex.new hg)).rd upd_same)
    | exc x => rw [e1] at p; exact p
    | fail => rw [e1] at p; exact p⟩
def Op2 (X : Cx) (k : Kn) (f : Value → Value → Sem Value) (kd : Kd) (g : D → D → R D) : Prop :=
  ∃ r : R2, OpR X f r ∧ ∀ G H x y u v d, Ex G H → Now k G H x u → Now k G H y v → g x y = .ok d → ∀ Q : VK, (∀ w G' H', Step G H G' H' → Res k H G' H' d w kd → Q w H') → r u v H Q
variable {kd k1 k2 k3 : Kd} {a b : Expr} {f g h : FE} {pos : Pos}
def e2 (o : D → D → R D) (f g : FE) : FE := fun S => do
  let x ← f S
  let y ← g S
  (o x y).nox
theorem e2_go {o : D → D → R D} {σ : St} {H : Hp} {Q : VK} {r : R2} (hr : ∀ G H x y u v d, Ex G H → Now c.k G H x u → Now c.k G H y v → o x y = .ok d → ∀ Q : VK, (∀ w G' H', Step G H G' H' → Res c.k H G' H' d w kd → Q w H') → r u v H Q)
    (q : RdE c kd (e2 o f g) σ H Q) : RdE c k1 f σ H fun x H1 => RdE c k2 g σ H1 fun y H2 => r x y H2 Q := by
  obtain ⟨G, S, rel, p⟩ := q
  refine rdE_go (g := fun x => do let y ← g S; (o x y).nox) (Post := PostE c kd G S σ H Q) rel p (fun _ z => z) (fun z => z) fun d1 v1 G1 H1 s1 q1 p1 => ?_
  refine rdE_go (g := fun y => (o d1 y).nox) (Post := PostE c kd G S σ H Q) (rel.grow s1) p1 (fun _ z => z) (fun z => z) fun d2 v2 G2 H2 s2 q2 p2 => ?_
  cases e : o d1 d2 with
  | ok d =>
    rw [e] at p2
    exact hr G2 H2 d1 d2 v1 v2 d s2.gh (q1.now.grow s2) q2.now e Q fun w G3 H3 s3 q3 => p2 w G3 H3 ((s1.trans s2).trans s3) (q3.mono (s1.h.trans s2.h))
  | exc x => rw [e] at p2; exact p2.elim
  | fail => rw [e] at p2; exact p2.elim
theorem d_op {op : Operator} {o : D → D → R D} (ho : Op2 X c.k (binaryOp op) kd o) (ha : PE' X c k1 a f) (hb : PE' X c k2 b g) : PE' X c kd (.BinOp a op b pos) (e2 o f g) := by
  obtain ⟨r, h1, h2⟩ := ho
  exact peI (pe_op h1 ha hb) fun σ H Q q => e2_go h2 q
theorem d_cmp {op : CmpOp} {o : D → D → R D} (ho : Op2 X c.k (compareOp op) kd o) (ha : PE' X c k1 a f) (hb : PE' X c k2 b g) (hm : behindInMarks op b = false := by rfl) : PE' X c kd (.Compare a [op] [b] pos) (e2 o f g) := by
  obtain ⟨r, h1, h2⟩ := ho
  exact peI (pe_cmpR h1 ha hb hm) fun σ H Q q => e2_go h2 q
def Ix2 (X : Cx) (k : Kn) (g : D → D → R D) : Prop :=
  ∃ r : R2, IxR X r ∧ ∀ G H x y u v d, Ex G H → Now k G H x u → Now k G H y v → g x y = .ok d → ∀ Q : VK, (∀ w G' H', Step G H G' H' → Res k H G' H' d w .st → Q w H') → r u v H Q
theorem d_ix {o : D → D → R D} (ho : Ix2 X c.k o) (ha : PE' X c k1 a f) (hb : PE' X c k2 b g) (hi : PlainIx b := by exact fun _ _ => rfl) : PE' X c .st (.Subscript a b pos) (e2 o f g) := by
  obtain ⟨r, h1, h2⟩ := ho
  exact peI (pe_ix h1 ha hb hi) fun σ H Q q => e2_go h2 q
def e1 (o : D → R D) (f : FE) : FE := fun S => do
  let x ← f S
  (o x).nox
theorem e1_go {o : D → R D} {σ : St} {H : Hp} {Q : VK} {r : V → Hp → VK → Prop} (hr : ∀ G H x u d, Ex G H → Now c.k G H x u → o x = .ok d → ∀ Q : VK, (∀ w G' H', Step G H G' H' → Res c.k H G' H' d w kd → Q w H') → r u H Q)
    (q : RdE c kd (e1 o f) σ H Q) : RdE c k1 f σ H fun x H1 => r x H1 Q := by
  obtain ⟨G, S, rel, p⟩ := q
  refine rdE_go (g := fun x => (o x).nox) (Post := PostE c kd G S σ H Q) rel p (fun _ z => z) (fun z => z) fun d1 v1 G1 H1 s1 q1 p1 => ?_
  cases e : o d1 with
  | ok d =>
    rw [e] at p1
    exact hr G1 H1 d1 v1 d s1.gh q1.now e Q fun w G3 H3 s3 q3 => p1 w G3 H3 (s1.trans s3) (q3.mono s1.h)
  | exc x => rw [e] at p1; exact p1.elim
  | fail => rw [e] at p1; exact p1.elim
def Un1 (X : Cx) (k : Kn) (f : Value → Sem Value) (g : D → R D) : Prop :=
  ∃ r : V → Hp → VK → Prop, UnR X f r ∧ ∀ G H x u d, Ex G H → Now k G H x u → g x = .ok d → ∀ Q : VK, (∀ w G' H', Step G H G' H' → Res k H G' H' d w .st → Q w H') → r u H Q
theorem d_un {op : UnaryOp} {o : D → R D} (ho : Un1 X c.k (unaryOp op) o) (ha : PE' X c k1 a f) : PE' X c .st (.UnaryOp op a pos) (e1 o f) := by
  obtain ⟨r, h1, h2⟩ := ho
  exact peI (pe_un h1 ha) fun σ H Q q => e1_go h2 q
def aN : FA := fun _ => .ok []
def aC (f : FE) (g : FA) : FA := fun S => do
  let x ← f S
  let xs ← g S
  .ok (x :: xs)
theorem d_an {b : Bool} : PA' X c b [] aN := paI pa_nil fun σ H Q ⟨G, S, r, p⟩ => p [] G H (Step.refl r.st.gh) (by cases b <;> exact .nil)
theorem d_ac {e : Expr} {es : List Expr} {ga : FA} (ha : PE' X c .st e f) (hr : PA' X c false es ga) (hs : starEach (e :: es) X.env = (false, eval e X.env) :: starEach es X.env := by rfl) : PA' X c false (e :: es) (aC f ga) :=
  paI (pa_cons ha hr hs) fun σ H Q ⟨G, S, rel, p⟩ => by
    refine rdE_go (g := fun x => do let xs ← ga S; .ok (x :: xs)) (Post := PostA c false G S σ H Q) rel p (fun _ z => z) (fun z => z) fun d1 v1 G1 H1 s1 q1 p1 => ?_
    refine rdA_go (g := fun xs => .ok (d1 :: xs)) (Post := PostA c false G S σ H Q) (rel.grow s1) p1 (fun _ z => z) (fun z => z) fun d2 v2 G2 H2 s2 q2 p2 => ?_
    exact p2 _ G2 H2 (s1.trans s2) (.cons (RD.mono s2.g q1) q2)
theorem d_ab {e : Expr} {es : List Expr} {ga : FA} (ha : PE' X c k1 e f) (hr : PA' X c true es ga) (hs : starEach (e :: es) X.env = (false, eval e X.env) :: starEach es X.env := by rfl) : PA' X c true (e :: es) (aC f ga) :=
  paI (pa_cons ha hr hs) fun σ H Q ⟨G, S, rel, p⟩ => by
    refine rdE_go (g := fun x => do let xs ← ga S; .ok (x :: xs)) (Post := PostA c true G S σ H Q) rel p (fun _ z => z) (fun z => z) fun d1 v1 G1 H1 s1 q1 p1 => ?_
    refine rdA_go (g := fun xs => .ok (d1 :: xs)) (Post := PostA c true G S σ H Q) (rel.grow s1) p1 (fun _ z => z) (fun z => z) fun d2 v2 G2 H2 s2 q2 p2 => ?_
    exact p2 _ G2 H2 (s1.trans s2) (.cons (q1.now.grow s2) q2)
def mkT (xs : List D) : R D := if xs.length ≤ sizeLine then .ok (.tup xs) else .fail
def mkL (xs : List D) : R D := if xs.length ≤ sizeLine then .ok (.lst xs) else .fail
def eT (g : FA) : FE := fun S => g S >>= mkT
def eL (g : FA) : FE := fun S => g S >>= mkL
theorem d_tup {es : List Expr} {ga : FA} {x1} (h : PA' X c false es ga) : PE' X c .st (.Tuple es x1 pos) (eT ga) :=
  peI (pe_tup h) fun σ H Q ⟨G, S, rel, p⟩ => by
    refine rdA_go (g := mkT) (Post := PostE c .st G S σ H Q) rel p (fun _ z => z) (fun z => z) fun ds vs G1 H1 s1 q1 p1 => ?_
    have q1 : RDs c.k G1 ds vs := q1
    by_cases hl : ds.length ≤ sizeLine
    · unfold mkT at p1; rw [if_pos hl] at p1
      exact ⟨by rw [← q1.length]; exact hl, fun p hp => p1 _ _ _ (s1.trans (Step.new s1.gh hp)) (.tup (SqU.of upd_same) (q1.mono (Ex.new (s1.gh.free hp))))⟩
    · unfold mkT at p1; rw [if_neg hl] at p1; exact p1.elim
theorem d_lst {es : List Expr} {ga : FA} (h : PA' X c false es ga) : PE' X c .fr (.List es pos) (eL ga) :=
  peI (pe_lst h) fun σ H Q ⟨G, S, rel, p⟩ => by
    refine rdA_go (g := mkL) (Post := PostE c .fr G S σ H Q) rel p (fun _ z => z) (fun z => z) fun ds vs G1 H1 s1 q1 p1 => ?_
    have q1 : RDs c.k G1 ds vs := q1
    by_cases hl : ds.length ≤ sizeLine
    · unfold mkL at p1; rw [if_pos hl] at p1
      exact ⟨by rw [← q1.length]; exact hl, fun p hp => p1 _ _ _ (s1.trans (Step.new' s1.gh hp)) ⟨p, _, rfl, s1.gh.free hp, s1.h.free hp, upd_same, .lst q1⟩⟩
    · unfold mkL at p1; rw [if_neg hl] at p1; exact p1.elim
def ClR (X : Cx) (k : Kn) (f : Value) (kd : Kd) (g : List D → R D) : Prop :=
  ∃ r : List V → Hp → VK → Prop, CallR X f r ∧ ∀ G H ds vs d, Ex G H → Nows k G H ds vs → g ds = .ok d → ∀ Q : VK, (∀ w G' H', Step G H G' H' → Res k H G' H' d w kd → Q w H') → r vs H Q
def eC (o : List D → R D) (g : FA) : FE := fun S => do
  let xs ← g S
  (o xs).nox
theorem eC_go {ba : Bool} {ga : FA} {o : List D → R D} {σ : St} {H : Hp} {Q : VK} {r : List V → Hp → VK → Prop} (hr : ∀ G H ds vs d, Ex G H → Nows c.k G H ds vs → o ds = .ok d → ∀ Q : VK, (∀ w G' H', Step G H G' H' → Res c.k H G' H' d w kd → Q w H') → r vs H Q)
    (q : RdE c kd (eC o ga) σ H Q) : RdA c ba ga σ H fun x H1 => r x H1 Q := by
  obtain ⟨G, S, rel, p⟩ := q
  refine rdA_go (g := fun x => (o x).nox) (Post := PostE c kd G S σ H Q) rel p (fun _ z => z) (fun z => z) fun d1 v1 G1 H1 s1 q1 p1 => ?_
  cases e : o d1 with
  | ok d =>
    rw [e] at p1
    exact hr G1 H1 d1 v1 d s1.gh q1.nows e Q fun w G3 H3 s3 q3 => p1 w G3 H3 (s1.trans s3) (q3.mono s1.h)
  | exc x => rw [e] at p1; exact p1.elim
  | fail => rw [e] at p1; exact p1.elim
theorem d_bltn {ba : Bool} {x : Str} {p : Pos} {e : Expr} {es : List Expr} {ga : FA} {id : String} {o : List D → R D} (ho : ClR X c.k (.builtin id) kd o) (hm : X.mg x = none) (ha : PA' X c ba (e :: es) ga) (hv : bootBuiltins x = some (.builtin id) := by decide +kernel) (hg : Gl X x := by rfl)
    (hn : x ≠ "__name__" := by decide) (hdb : (x == ("__debug__" : Str)) = false := by decide)
    (hs : starEach (e :: es) X.env = (false, eval e X.env) :: starEach es X.env := by rfl) (hs2 : ((backTo pos (starEach es X.env)).any fun x => x.1) = false := by rfl) :
    PE' X c kd (.Call (.Name x p) (e :: es) [] pos) (eC o ga) := by
  obtain ⟨r, h1, h2⟩ := ho
  exact peI (pe_callB h1 hg hm hv ha hn hdb hs hs2) fun σ H Q q => eC_go h2 q
theorem d_btyp {ba : Bool} {x : Str} {p : Pos} {e : Expr} {es : List Expr} {ga : FA} {id : String} {o : List D → R D} (ho : ClR X c.k (.type id) kd o) (hm : X.mg x = none) (ha : PA' X c ba (e :: es) ga) (hv : bootBuiltins x = some (.type id) := by decide +kernel) (hg : Gl X x := by rfl)
    (hn : x ≠ "__name__" := by decide) (hdb : (x == ("__debug__" : Str)) = false := by decide)
    (hs : starEach (e :: es) X.env = (false, eval e X.env) :: starEach es X.env := by rfl) (hs2 : ((backTo pos (starEach es X.env)).any fun x => x.1) = false := by rfl) :
    PE' X c kd (.Call (.Name x p) (e :: es) [] pos) (eC o ga) := by
  obtain ⟨r, h1, h2⟩ := ho
  exact peI (pe_callTy h1 hg hm hv ha hn hdb hs hs2) fun σ H Q q => eC_go h2 q
end
end M
set_option Elab.async false
set_option linter.all false
set_option maxRecDepth 100000
set_option maxHeartbeats 4000000
namespace M
open PySem L2
mutual
def D.toP : D → PyData
  | .bl b => .bool b
  | .int i => .int i
  | .str x => .str x
  | .tup xs => .tuple (D.toPs xs)
  | .lst xs => .list (D.toPs xs)
  | _ => .none
def D.toPs : List D → List PyData
  | [] => []
  | x :: xs => x.toP :: D.toPs xs
end
mutual
def deq : D → D → Bool
  | .non, .non => true
  | .bl a, .bl b => a == b
  | .bl a, .int j => (if a then 1 else 0) == j
  | .int i, .bl b => i == (if b then 1 else 0)
  | .int i, .int j => i == j
  | .str x, .str y => x == y
  | .lst xs, .lst ys => deqs xs ys
  | .tup xs, .tup ys => deqs xs ys
  | _, _ => false
def deqs : List D → List D → Bool
  | [], [] => true
  | x :: xs, y :: ys => deq x y && deqs xs ys
  | _, _ => false
end
mutual
def dok : Nat → D → Bool
  | _, .non => true
  | _, .bl _ => true
  | _, .int _ => true
  | _, .str x => PyData.strOk x
  | n + 1, .tup xs => doks n xs
  | n + 1, .lst xs => doks n xs
  | _, _ => false
def doks : Nat → List D → Bool
  | _, [] => true
  | n, x :: xs => dok n x && doks n xs
end
mutual
theorem dok_lay : ∀ (n : Nat) (d : D), dok n d = true → PyData.canLay0 d.toP = true ∧ PyData.depth d.toP ≤ n
  | n, .non, _ => by simp [D.toP, PyData.canLay0, PyData.depth]
  | n, .bl _, _ => by simp [D.toP, PyData.canLay0, PyData.depth]
  | n, .int _, _ => by simp [D.toP, PyData.canLay0, PyData.depth]
  | n, .str x, h => by
    cases n <;> (simp only [dok] at h; simp [D.toP, PyData.canLay0, PyData.depth, h])
  | n + 1, .tup xs, h => by
    simp only [dok] at h
    have := doks_lay n xs h
    simp only [D.toP, PyData.canLay0, PyData.depth]
    exact ⟨this.1, by omega⟩
  | n + 1, .lst xs, h => by
    simp only [dok] at h
    have := doks_lay n xs h
    simp only [D.toP, PyData.canLay0, PyData.depth]
    exact ⟨this.1, by omega⟩
  | 0, .tup xs, h => by simp [dok] at h
  | 0, .lst xs, h => by simp [dok] at h
  | n, .ty _, h => by cases n <;> simp [dok] at h
  | n, .dic _ _, h => by cases n <;> simp [dok] at h
  | n, .dit _ _, h => by cases n <;> simp [dok] at h
  | n, .dkf _ _, h => by cases n <;> simp [dok] at h
  | n, .dig _ _, h => by cases n <;> simp [dok] at h
  | n, .obj _ _, h => by cases n <;> simp [dok] at h
  | n, .scr _, h => by cases n <;> simp [dok] at h
  | n, .cls _, h => by cases n <;> simp [dok] at h
theorem doks_lay : ∀ (n : Nat) (ds : List D), doks n ds = true → PyData.canLayAll0 (D.toPs ds) = true ∧ PyData.depthAll (D.toPs ds) ≤ n
  | n, [], _ => by simp [D.toPs, PyData.canLayAll0, PyData.depthAll]
  | n, x :: xs, h => by
    simp only [doks, Bool.and_eq_true] at h
    have a := dok_lay n x h.1
    have b := doks_lay n xs h.2
    simp only [D.toPs, PyData.canLayAll0, PyData.depthAll, Bool.and_eq_true]
    exact ⟨⟨a.1, b.1⟩, by omega⟩
end
mutual
theorem deq_eqv : ∀ (n m : Nat) (x y : D), dok n x = true → dok m y = true → PyData.eqv x.toP y.toP = deq x y
  | n, m, .non, y, _, h => by cases y <;> first | (simp [D.toP, PyData.eqv, deq]; done) | (cases m <;> simp [dok] at h)
  | n, m, .bl _, y, _, h => by cases y <;> first | (simp [D.toP, PyData.eqv, deq]; done) | (cases m <;> simp [dok] at h)
  | n, m, .int _, y, _, h => by cases y <;> first | (simp [D.toP, PyData.eqv, deq]; done) | (cases m <;> simp [dok] at h)
  | n, m, .str _, y, _, h => by cases y <;> first | (simp [D.toP, PyData.eqv, deq]; done) | (cases m <;> simp [dok] at h)
  | n + 1, m, .tup xs, y, h1, h => by
    cases y with
    | tup ys =>
      cases m with
      | zero => simp [dok] at h
      | succ m =>
        simp only [dok] at h h1
        simp only [D.toP, PyData.eqv, deq]
        exact deqs_eqv n m xs ys h1 h
    | _ => first | (simp [D.toP, PyData.eqv, deq]; done) | (cases m <;> simp [dok] at h)
  | n + 1, m, .lst xs, y, h1, h => by
    cases y with
    | lst ys =>
      cases m with
      | zero => simp [dok] at h
      | succ m =>
        simp only [dok] at h h1
        simp only [D.toP, PyData.eqv, deq]
        exact deqs_eqv n m xs ys h1 h
    | _ => first | (simp [D.toP, PyData.eqv, deq]; done) | (cases m <;> simp [dok] at h)
  | 0, _, .tup xs, _, h, _ => by simp [dok] at h
  | 0, _, .lst xs, _, h, _ => by simp [dok] at h
  | n, _, .ty _, _, h, _ => by cases n <;> simp [dok] at h
  | n, _, .dic _ _, _, h, _ => by cases n <;> simp [dok] at h
  | n, _, .dit _ _, _, h, _ => by cases n <;> simp [dok] at h
  | n, _, .dkf _ _, _, h, _ => by cases n <;> simp [dok] at h
  | n, _, .dig _ _, _, h, _ => by cases n <;> simp [dok] at h
  | n, _, .obj _ _, _, h, _ => by cases n <;> simp [dok] at h
  | n, _, .scr _, _, h, _ => by cases n <;> simp [dok] at h
  | n, _, .cls _, _, h, _ => by cases n <;> simp [dok] at h
theorem deqs_eqv : ∀ (n m : Nat) (xs ys : List D), doks n xs = true → doks m ys = true → PyData.eqvAll (D.toPs xs) (D.toPs ys) = deqs xs ys
  | n, m, [], [], _, _ => by simp [D.toPs, PyData.eqvAll, deqs]
  | n, m, [], _ :: _, _, _ => by simp [D.toPs, PyData.eqvAll, deqs]
  | n, m, _ :: _, [], _, _ => by simp [D.toPs, PyData.eqvAll, deqs]
  | n, m, x :: xs, y :: ys, h1, h2 => by
    simp only [doks, Bool.and_eq_true] at h1 h2
    simp only [D.toPs, PyData.eqvAll, deqs]
    rw [deq_eqv n m x y h1.1 h2.1, deqs_eqv n m xs ys h1.2 h2.2]
end
mutual
theorem RD.dp {k : Kn} {H : Hp} : ∀ {d : D} {v : V} (n : Nat), RD k H d v → dok n d = true → Dp k.K H v d.toP
  | _, _, _, .non, _ => by simp only [D.toP]; exact .non
  | _, _, _, .bl b, _ => by simp only [D.toP]; exact .bl b
  | _, _, _, .int b, _ => by simp only [D.toP]; exact .int b
  | _, _, _, .str b, _ => by simp only [D.toP]; exact .str b
  | _, _, n, .tup h r, e => by
    cases n with
    | zero => simp [dok] at e
    | succ n => simp only [dok] at e; simp only [D.toP]; exact .tup h.t (RDs.dp n r e)
  | _, _, n, .lst h r, e => by
    cases n with
    | zero => simp [dok] at e
    | succ n => simp only [dok] at e; simp only [D.toP]; exact .lst (SqL.of h) (RDs.dp n r e)
  | _, _, n, .ty _, e => by cases n <;> simp [dok] at e
  | _, _, n, .scr _, e => by cases n <;> simp [dok] at e
  | _, _, n, .cls _, e => by cases n <;> simp [dok] at e
  | _, _, n, .dic _ _ _, e => by cases n <;> simp [dok] at e
  | _, _, n, .dit _ _ _, e => by cases n <;> simp [dok] at e
  | _, _, n, .dkf _ _ _, e => by cases n <;> simp [dok] at e
  | _, _, n, .dig _ _ _ _, e => by cases n <;> simp [dok] at e
  | _, _, n, .obj _ _ _, e => by cases n <;> simp [dok] at e
theorem RDs.dp {k : Kn} {H : Hp} : ∀ {ds : List D} {vs : List V} (n : Nat), RDs k H ds vs → doks n ds = true → DpAll k.K H vs (D.toPs ds)
  | _, _, _, .nil, _ => by simp only [D.toPs]; exact .nil
  | _, _, n, .cons a b, e => by
    simp only [doks, Bool.and_eq_true] at e
    simp only [D.toPs]
    exact .cons (RD.dp n a e.1) (RDs.dp n b e.2)
end
theorem dok_shaped {d : D} (h : dok 60 d = true) : SeqAt.shaped d.toP = true := by
  have := dok_lay 60 d h
  unfold SeqAt.shaped
  simp only [this.1, Bool.true_and, decide_eq_true_eq]
  omega
def eqD (a b : D) : R D := if dok 60 a && dok 60 b then .ok (.bl (deq a b)) else .fail
def neD (a b : D) : R D := if dok 60 a && dok 60 b then .ok (.bl (!deq a b)) else .fail
section
variable {X : Cx} {k : Kn}
theorem o_eq (hk : k.K = X.K) (hu : X.A.units + 64 < cLine) : Op2 X k (compareOp .Eq) .st eqD := by
  refine ⟨_, op_eqD hu, ?_⟩
  intro G H x y u v d e nx ny hg Q q
  unfold eqD at hg
  split at hg
  · rename_i h
    simp only [Bool.and_eq_true] at h
    cases hg
    refine ⟨x.toP, y.toP, hk ▸ (nx.rd e).dp 60 h.1, hk ▸ (ny.rd e).dp 60 h.2, dok_shaped h.1, dok_shaped h.2, ?_⟩
    rw [deq_eqv 60 60 x y h.1 h.2]
    exact q _ G H (Step.refl e) (.bl _)
  · cases hg
theorem o_ne (hk : k.K = X.K) (hu : X.A.units + 64 < cLine) : Op2 X k (compareOp .NotEq) .st neD := by
  refine ⟨_, op_neD hu, ?_⟩
  intro G H x y u v d e nx ny hg Q q
  unfold neD at hg
  split at hg
  · rename_i h
    simp only [Bool.and_eq_true] at h
    cases hg
    refine ⟨x.toP, y.toP, hk ▸ (nx.rd e).dp 60 h.1, hk ▸ (ny.rd e).dp 60 h.2, dok_shaped h.1, dok_shaped h.2, ?_⟩
    rw [deq_eqv 60 60 x y h.1 h.2]
    exact q _ G H (Step.refl e) (.bl _)
  · cases hg
def addD : D → D → R D
  | .int i, .int j => .ok (.int (i + j))
  | .str x, .str y => if x.length + y.length ≤ sizeLine then .ok (.str (x ++ y)) else .fail
  | .lst xs, .lst ys => if xs.length + ys.length ≤ sizeLine then .ok (.lst (xs ++ ys)) else .fail
  | .tup xs, .tup ys => if xs.length + ys.length ≤ sizeLine then .ok (.tup (xs ++ ys)) else .fail
  | _, _ => .fail
theorem o_add (hk : k.K = X.K) : Op2 X k (binaryOp .Add) .st addD := by
  refine ⟨_, op_add.or (op_add_str.or (op_cat.or op_catA)), ?_⟩
  intro G H x y u v d e nx ny hg Q q
  unfold addD at hg
  split at hg
  · cases hg; obtain rfl := nx.int; obtain rfl := ny.int
    exact .inl ⟨_, _, rfl, rfl, q _ G H (Step.refl e) (.int _)⟩
  · split at hg
    · rename_i hl
      cases hg; obtain rfl := nx.str; obtain rfl := ny.str
      exact .inr (.inl ⟨_, _, rfl, rfl, hl, q _ G H (Step.refl e) (.str _)⟩)
    · cases hg
  · split at hg
    · rename_i hl
      cases hg
      obtain ⟨a, vs, rfl, ha, ra⟩ := nx.lst e
      obtain ⟨b, us, rfl, hb, rb⟩ := ny.lst e
      exact .inr (.inr (.inl ⟨a, b, vs, us, rfl, rfl, ha, hb, by rw [← ra.length, ← rb.length]; exact hl, fun p hp => q _ _ _ (Step.new e hp) (.lst upd_same ((ra.append rb).mono (Ex.new (e.free hp))))⟩))
    · cases hg
  · split at hg
    · rename_i hl
      cases hg
      obtain ⟨a, vs, rfl, ha, ra⟩ := nx.tup
      obtain ⟨b, us, rfl, hb, rb⟩ := ny.tup
      refine .inr (.inr (.inr ⟨a, b, vs, us, rfl, rfl, hk ▸ e.sqT ha.t, hk ▸ e.sqT hb.t, by rw [← ra.length, ← rb.length]; exact hl, fun z => ?_, fun z1 z2 => ?_, fun _ _ p hp => q _ _ _ (Step.new e hp) (.tup (SqU.of upd_same) ((ra.append rb).mono (Ex.new (e.free hp))))⟩))
      · subst z; cases ra; exact q _ _ _ (Step.refl e) (.tup hb rb)
      · subst z2; cases rb; rw [List.append_nil] at q; exact q _ _ _ (Step.refl e) (.tup ha ra)
    · cases hg
  · cases hg
theorem o_int {f : Value → Value → Sem Value} {C : Int → Int → Prop} [∀ i j, Decidable (C i j)] {gv : Int → Int → V} {gd : Int → Int → D} (h : OpR X f (rI C gv)) (r : ∀ i j G, RD k G (gd i j) (gv i j)) :
    Op2 X k f .st (fun x y => match x, y with | .int i, .int j => if C i j then .ok (gd i j) else .fail | _, _ => .fail) := by
  refine ⟨_, h, ?_⟩
  intro G H x y u v d e nx ny hg Q q
  dsimp only at hg
  split at hg
  · split at hg
    · rename_i hc
      cases hg; obtain rfl := nx.int; obtain rfl := ny.int
      exact ⟨_, _, rfl, rfl, hc, q _ G H (Step.refl e) (r _ _ _)⟩
    · cases hg
  · cases hg
theorem o_int0 {f : Value → Value → Sem Value} {gv : Int → Int → V} {gd : Int → Int → D} (h : OpR X f (rI0 gv)) (r : ∀ i j G, RD k G (gd i j) (gv i j)) :
    Op2 X k f .st (fun x y => match x, y with | .int i, .int j => .ok (gd i j) | _, _ => .fail) := by
  refine ⟨_, h, ?_⟩
  intro G H x y u v d e nx ny hg Q q
  dsimp only at hg
  split at hg
  · cases hg; obtain rfl := nx.int; obtain rfl := ny.int
    exact ⟨_, _, rfl, rfl, q _ G H (Step.refl e) (r _ _ _)⟩
  · cases hg
def subD : D → D → R D := fun x y => match x, y with | .int i, .int j => .ok (.int (i - j)) | _, _ => .fail
theorem o_sub : Op2 X k (binaryOp .Sub) .st subD := o_int0 op_sub fun _ _ _ => .int _
instance (i j : Int) : Decidable (CMul i j) := by unfold CMul; exact inferInstance
instance (i j : Int) : Decidable (CMulX i j) := by unfold CMulX; exact inferInstance
instance (i j : Int) : Decidable (CDiv i j) := by unfold CDiv; exact inferInstance
instance (i j : Int) : Decidable (CPow i j) := by unfold CPow; exact inferInstance
def fdivD : D → D → R D := fun x y => match x, y with | .int i, .int j => if CDiv i j then .ok (.int (i / j)) else .fail | _, _ => .fail
theorem o_fdiv : Op2 X k (binaryOp .FloorDiv) .st fdivD := o_int op_fdiv fun _ _ _ => .int _
def modD : D → D → R D := fun x y => match x, y with | .int i, .int j => if 0 < j then .ok (.int (i % j)) else .fail | _, _ => .fail
theorem o_mod : Op2 X k (binaryOp .Mod) .st modD := o_int (C := fun _ j => 0 < j) op_mod fun _ _ _ => .int _
def powD : D → D → R D := fun x y => match x, y with | .int i, .int j => if CPow i j then .ok (.int (i ^ j.toNat)) else .fail | _, _ => .fail
theorem o_pow : Op2 X k (binaryOp .Pow) .st powD := o_int op_pow fun _ _ _ => .int _
def mulD : D → D → R D
  | .int i, .int j => if CMul i j ∨ CMulX i j then .ok (.int (i * j)) else .fail
  | .lst xs, .int j => if -(2 ^ 63) ≤ j ∧ j < 2 ^ 63 ∧ xs.length * j.toNat ≤ sizeLine then .ok (.lst (List.replicate j.toNat xs).flatten) else .fail
  | .tup xs, .int j => if xs ≠ [] ∧ 2 ≤ j ∧ j ≤ 1000 ∧ xs.length ≤ 1000 then .ok (.tup (List.replicate j.toNat xs).flatten) else .fail
  | _, _ => .fail
theorem RDs.rep {G : Hp} {ds : List D} {vs : List V} (r : RDs k G ds vs) : ∀ n : Nat, RDs k G (List.replicate n ds).flatten (List.replicate n vs).flatten
  | 0 => by simpa using .nil
  | n + 1 => by rw [List.replicate_succ, List.replicate_succ, List.flatten_cons, List.flatten_cons]; exact r.append (RDs.rep r n)
theorem o_mul (hk : k.K = X.K) : Op2 X k (binaryOp .Mult) .st mulD := by
  refine ⟨_, (op_mul.or op_mulX).or (op_rep.or op_repT), ?_⟩
  intro G H x y u v d e nx ny hg Q q
  unfold mulD at hg
  split at hg
  · split at hg
    · rename_i hc
      cases hg; obtain rfl := nx.int; obtain rfl := ny.int
      rcases hc with hc | hc
      · exact .inl (.inl ⟨_, _, rfl, rfl, hc, q _ G H (Step.refl e) (.int _)⟩)
      · exact .inl (.inr ⟨_, _, rfl, rfl, hc, q _ G H (Step.refl e) (.int _)⟩)
    · cases hg
  · split at hg
    · rename_i hc
      cases hg; obtain rfl := ny.int
      obtain ⟨a, vs, rfl, ha, ra⟩ := nx.lst e
      exact .inr (.inl ⟨a, _, vs, rfl, rfl, ha, hc.1, hc.2.1, by rw [← ra.length]; exact hc.2.2, fun p hp => q _ _ _ (Step.new e hp) (.lst upd_same ((ra.rep _).mono (Ex.new (e.free hp))))⟩)
    · cases hg
  · split at hg
    · rename_i hc
      cases hg; obtain rfl := ny.int
      obtain ⟨a, vs, rfl, ha, ra⟩ := nx.tup
      exact .inr (.inr ⟨a, _, vs, rfl, rfl, hk ▸ e.sqT ha.t, fun z => hc.1 (by subst z; cases ra; rfl), hc.2.1, hc.2.2.1, by rw [← ra.length]; exact hc.2.2.2, fun p hp => q _ _ _ (Step.new e hp) (.tup (SqU.of upd_same) ((ra.rep _).mono (Ex.new (e.free hp))))⟩)
    · cases hg
  · cases hg
def ltD : D → D → R D := fun x y => match x, y with | .int i, .int j => .ok (.bl (decide (i < j))) | _, _ => .fail
theorem o_lt : Op2 X k (compareOp .Lt) .st ltD := o_int0 op_lt fun _ _ _ => .bl _
def leD : D → D → R D := fun x y => match x, y with | .int i, .int j => .ok (.bl (decide (i ≤ j))) | _, _ => .fail
theorem o_le : Op2 X k (compareOp .LtE) .st leD := o_int0 op_le fun _ _ _ => .bl _
def gtD : D → D → R D := fun x y => match x, y with | .int i, .int j => .ok (.bl (decide (j < i))) | _, _ => .fail
theorem o_gt : Op2 X k (compareOp .Gt) .st gtD := o_int0 op_gt fun _ _ _ => .bl _
def geD : D → D → R D := fun x y => match x, y with | .int i, .int j => .ok (.bl (decide (j ≤ i))) | _, _ => .fail
theorem o_ge : Op2 X k (compareOp .GtE) .st geD := o_int0 op_ge fun _ _ _ => .bl _
def negD : D → R D := fun x => match x with | .int i => .ok (.int (-i)) | _ => .fail
theorem o_neg : Un1 X k (unaryOp .USub) negD := by
  refine ⟨_, un_neg, ?_⟩
  intro G H x u d e nx hg Q q
  unfold negD at hg
  split at hg
  · cases hg; obtain rfl := nx.int
    exact ⟨_, rfl, q _ G H (Step.refl e) (.int _)⟩
  · cases hg
def D.isNon : D → Bool
  | .non => true
  | _ => false
def isD : D → D → R D := fun x y => match y with | .non => .ok (.bl x.isNon) | _ => .fail
theorem Now.isNon {G H : Hp} {x : D} {u : V} (n : Now k G H x u) : decide (u = V.non) = x.isNon := by
  rcases n with n | ⟨a, o, rfl, h, ct⟩
  · cases n <;> simp [D.isNon]
  · cases ct <;> simp [D.isNon]
theorem o_is : Op2 X k (compareOp .Is) .st isD := by
  refine ⟨_, op_isN, ?_⟩
  intro G H x y u v d e nx ny hg Q q
  unfold isD at hg
  split at hg
  · cases hg; obtain rfl := ny.non
    exact ⟨rfl, by rw [nx.isNon]; exact q _ G H (Step.refl e) (.bl _)⟩
  · cases hg
def isntD : D → D → R D := fun x y => match y with | .non => .ok (.bl (!x.isNon)) | _ => .fail
theorem o_isnt : Op2 X k (compareOp .IsNot) .st isntD := by
  refine ⟨_, op_notN, ?_⟩
  intro G H x y u v d e nx ny hg Q q
  unfold isntD at hg
  split at hg
  · cases hg; obtain rfl := ny.non
    exact ⟨rfl, by rw [nx.isNon]; exact q _ G H (Step.refl e) (.bl _)⟩
  · cases hg
theorem RDs.atI {G : Hp} {ds : List D} {vs : List V} {i : Int} {d : D} (r : RDs k G ds vs) (h : L2.atI ds i = some d) : ∃ v, L2.atI vs i = some v ∧ RD k G d v := by
  unfold L2.atI at h ⊢
  rw [← r.length]
  cases e : ixN ds.length i with
  | none => rw [e] at h; cases h
  | some j => rw [e] at h; exact r.get h
def ixD : D → D → R D
  | .lst xs, .int i => match L2.atI xs i with | some d => .ok d | none => .fail
  | .tup xs, .int i => match L2.atI xs i with | some d => .ok d | none => .fail
  | .scr ns, .int i => match L2.atI ns i with | some d => .ok (.int d) | none => .fail
  | .str x, .int i => if x.length ≤ sizeLine then match L2.atI x.cps.toList i with | some c => .ok (.str ⟨#[c]⟩) | none => .fail else .fail
  | _, _ => .fail
theorem IxR.or {r r' : R2} (h : IxR X r) (h' : IxR X r') : IxR X (fun x y H Q => r x y H Q ∨ r' x y H Q) := fun v sl pins s σ H x y u w Q I rx ry q hs => by
  rcases q with q | q
  · exact h v sl pins s σ H x y u w Q I rx ry q hs
  · exact h' v sl pins s σ H x y u w Q I rx ry q hs
theorem atI_map {α β : Type} (f : α → β) (xs : List α) (i : Int) : L2.atI (xs.map f) i = (L2.atI xs i).map f := by
  unfold L2.atI
  rw [List.length_map]
  cases ixN xs.length i with
  | none => rfl
  | some j => simp
theorem o_ix (hk : k.K = X.K) : Ix2 X k ixD := by
  refine ⟨_, IxR.or ix_list (IxR.or ix_tup ix_str), ?_⟩
  intro G H x y u v d e nx ny hg Q q
  unfold ixD at hg
  split at hg
  · split at hg
    · rename_i d' hd
      cases hg; obtain rfl := ny.int
      obtain ⟨a, vs, rfl, ha, ra⟩ := nx.lst e
      obtain ⟨w, h1, h2⟩ := ra.atI hd
      exact .inl ⟨a, vs, _, w, rfl, rfl, SqL.of ha, h1, q _ G H (Step.refl e) h2⟩
    · cases hg
  · split at hg
    · rename_i d' hd
      cases hg; obtain rfl := ny.int
      obtain ⟨a, vs, rfl, ha, ra⟩ := nx.tup
      obtain ⟨w, h1, h2⟩ := ra.atI hd
      exact .inr (.inl ⟨a, vs, _, w, rfl, rfl, hk ▸ e.sqT ha.t, h1, q _ G H (Step.refl e) h2⟩)
    · cases hg
  · split at hg
    · rename_i d' hd
      cases hg; obtain rfl := ny.int
      obtain ⟨a, rfl, ha⟩ := nx.scr
      exact .inl ⟨a, _, _, .int d', rfl, rfl, hk ▸ e.sqL ha, by rw [atI_map, hd]; rfl, q _ G H (Step.refl e) (.int _)⟩
    · cases hg
  · split at hg
    · rename_i hl
      split at hg
      · rename_i d' hd
        cases hg; obtain rfl := ny.int; obtain rfl := nx.str
        exact .inr (.inr ⟨_, _, d', rfl, rfl, hl, hd, q _ G H (Step.refl e) (.str _)⟩)
      · cases hg
    · cases hg
  · cases hg
end
end M
set_option Elab.async false
set_option linter.all false
set_option maxRecDepth 100000
set_option maxHeartbeats 4000000
namespace M
open PySem L2
section
variable {X : Cx} {c : Cf} {kd k1 k2 k3 : Kd} {a b e : Expr} {f g h : FE} {pos : Pos}
def toB : D → R Bool
  | .bl b => .ok b
  | _ => .fail
def tB' (f : FE) : FT := fun S => f S >>= toB
def truD : D → R Bool
  | .non => .ok false
  | .bl b => .ok b
  | .int i => .ok (i != 0)
  | .str x => if x.length ≤ sizeLine then .ok (x.length != 0) else .fail
  | .tup xs => .ok (!xs.isEmpty)
  | .lst xs => .ok (!xs.isEmpty)
  | .dic ks _ => .ok (!ks.isEmpty)
  | _ => .fail
def tT' (f : FE) : FT := fun S => f S >>= truD
theorem Now.toB {k : Kn} {G H : Hp} {d : D} {v : V} {b : Bool} (n : Now k G H d v) (h : toB d = .ok b) : v = .bl b := by
  cases d <;> simp only [M.toB] at h <;> first | (cases h; done) | (cases h; exact n.bl)
theorem Nows.isEmpty {k : Kn} {G : Hp} {ds : List D} {vs : List V} (r : RDs k G ds vs) : (!ds.isEmpty) = !vs.isEmpty := by
  cases r <;> rfl
theorem Now.tru {k : Kn} {G H : Hp} {d : D} {v : V} {b : Bool} (e : Ex G H) (n : Now k G H d v) (h : truD d = .ok b) : TruV k.K v H b := by
  unfold truD at h
  split at h
  · cases h; obtain rfl := n.non; rfl
  · cases h; obtain rfl := n.bl; rfl
  · cases h; obtain rfl := n.int; rfl
  · split at h
    · rename_i hl
      cases h; obtain rfl := n.str
      exact ⟨hl, by simp [bne, BEq.beq]⟩
    · cases h
  · cases h; obtain ⟨p, vs, rfl, hp, r⟩ := n.tup
    exact .inr (.inl ⟨vs, e.sqT hp.t, Nows.isEmpty r⟩)
  · cases h; obtain ⟨p, vs, rfl, hp, r⟩ := n.lst e
    exact .inl ⟨vs, SqL.of hp, Nows.isEmpty r⟩
  · cases h; obtain ⟨p, vs, rfl, hp, l, r⟩ := n.dic e
    refine .inr (.inr ⟨_, hp, ?_⟩)
    have l2 := r.length
    rename_i ks ds
    cases ks with
    | nil => rfl
    | cons x xs =>
      cases vs with
      | nil => simp at l2; subst l2; simp at l
      | cons y ys => rfl
  · cases h
theorem d_tt {kd : Kd} (hk : c.k.K = X.K) (ha : PE' X c kd a f) (he : ∀ whole, isTrue a X.env whole = (do let v ← whole; standAt a.pos; holding [v] (truthy v)) := by intro _; rfl) : PT' X c a (tT' f) :=
  ptI (pt_truth ha he) fun σ H Q ⟨G, S, rel, p⟩ => by
    refine rdE_go (g := truD) (Post := PostT c G S σ H Q) rel p (fun _ z => z) (fun z => z) fun d v G' H' s q p1 => ?_
    cases e1 : truD d with
    | ok b => rw [e1] at p1; exact ⟨b, hk ▸ q.now.tru s.gh e1, p1 G' H' s⟩
    | exc x => cases d <;> simp only [truD] at e1 <;> first | (cases e1; done) | (split at e1 <;> cases e1)
    | fail => rw [e1] at p1; exact p1.elim
theorem tB_go {t : TE} {σ : St} {H : Hp} {Q : Bool → Hp → Prop} (ht : ∀ σ H Q, RdE c .st f σ H Q → t σ H Q) (q : RdT c (tB' f) σ H Q) : t σ H fun x H' => ∃ k, x = .bl k ∧ Q k H' := by
  obtain ⟨G, S, rel, p⟩ := q
  refine ht σ H _ (rdE_go (g := toB) (Post := PostT c G S σ H Q) rel p (fun _ z => z) (fun z => z) fun d v G' H' s q p1 => ?_)
  cases e1 : toB d with
  | ok b => rw [e1] at p1; exact ⟨b, q.now.toB e1, p1 G' H' s⟩
  | exc x => cases d <;> simp only [toB] at e1 <;> cases e1
  | fail => rw [e1] at p1; exact p1.elim
theorem d_tc {op : CmpOp} {o : D → D → R D} (ho : Op2 X c.k (compareOp op) .st o) (ha : PE' X c k1 a f) (hb : PE' X c k2 b g) (hm : behindInMarks op b = false := by rfl) : PT' X c (.Compare a [op] [b] pos) (tB' (e2 o f g)) := by
  obtain ⟨r, h1, h2⟩ := ho
  exact ptI (pt_cmpR h1 ha hb hm) fun σ H Q q => tB_go (t := tOp r (RdE c k1 f) (RdE c k2 g)) (fun σ H Q q => e2_go h2 q) q
def e3 (o o' : D → D → R D) (f g h : FE) : FE := fun S => do
  let x ← f S
  let y ← g S
  let b ← (o x y).nox
  let b ← toB b
  if b then do
    let z ← h S
    (o' y z).nox
  else .ok (.bl false)
theorem e3_go {o o' : D → D → R D} {r r' : R2} {σ : St} {H : Hp} {Q : VK} (hr : ∀ G H x y u v d, Ex G H → Now c.k G H x u → Now c.k G H y v → o x y = .ok d → ∀ Q : VK, (∀ w G' H', Step G H G' H' → Res c.k H G' H' d w .st → Q w H') → r u v H Q)
    (hr' : ∀ G H x y u v d, Ex G H → Now c.k G H x u → Now c.k G H y v → o' x y = .ok d → ∀ Q : VK, (∀ w G' H', Step G H G' H' → Res c.k H G' H' d w .st → Q w H') → r' u v H Q)
    (q : RdE c .st (e3 o o' f g h) σ H Q) : tChain r r' (RdE c k1 f) (RdE c k2 g) (RdE c k3 h) σ H Q := by
  obtain ⟨G, S, rel, p⟩ := q
  refine rdE_go (g := fun x => do let y ← g S; let b ← (o x y).nox; let b ← toB b; if b then do { let z ← h S; (o' y z).nox } else .ok (.bl false)) (Post := PostE c .st G S σ H Q) rel p (fun _ z => z) (fun z => z) fun d1 v1 G1 H1 s1 q1 p1 => ?_
  refine rdE_go (g := fun y => do let b ← (o d1 y).nox; let b ← toB b; if b then do { let z ← h S; (o' y z).nox } else .ok (.bl false)) (Post := PostE c .st G S σ H Q) (rel.grow s1) p1 (fun _ z => z) (fun z => z) fun d2 v2 G2 H2 s2 q2 p2 => ?_
  cases eo : o d1 d2 with
  | exc x => rw [eo] at p2; exact p2.elim
  | fail => rw [eo] at p2; exact p2.elim
  | ok db =>
    rw [eo] at p2
    refine hr G2 H2 d1 d2 v1 v2 db s2.gh (q1.now.grow s2) q2.now eo _ fun w G3 H3 s3 q3 => ?_
    cases eb : toB db with
    | exc x => cases db <;> simp only [toB] at eb <;> cases eb
    | fail => simp only [R.nox_ok, R.ok_bind, eb, R.fail_bind] at p2; exact p2.elim
    | ok kb =>
      simp only [R.nox_ok, R.ok_bind, eb] at p2
      refine ⟨kb, (Res.now (kd := .st) q3).toB eb, ?_⟩
      cases kb with
      | false =>
        rw [if_neg Bool.false_ne_true] at p2 ⊢
        exact p2 _ G3 H3 ((s1.trans s2).trans s3) (.bl _)
      | true =>
        rw [if_pos rfl] at p2 ⊢
        refine rdE_go (g := fun z => (o' d2 z).nox) (Post := PostE c .st G S σ H Q) (((rel.grow s1).grow s2).grow s3) p2 (fun _ z => z) (fun z => z) fun d4 v4 G4 H4 s4 q4 p4 => ?_
        cases eo' : o' d2 d4 with
        | exc x => rw [eo'] at p4; exact p4.elim
        | fail => rw [eo'] at p4; exact p4.elim
        | ok dr =>
          rw [eo'] at p4
          exact hr' G4 H4 d2 d4 v2 v4 dr s4.gh (q2.now.grow (s3.trans s4)) q4.now eo' Q fun w' G5 H5 s5 q5 => p4 w' G5 H5 ((((s1.trans s2).trans s3).trans s4).trans s5) q5
theorem d_tch {op op' : CmpOp} {cc : Expr} {o o' : D → D → R D} (ho : Op2 X c.k (compareOp op) .st o) (ho' : Op2 X c.k (compareOp op') .st o') (ha : PE' X c k1 a f) (hb : PE' X c k2 b g) (hc : PE' X c k3 cc h)
    (hm : lastMarks [op, op'] [b, cc] = false := by with_unfolding_all rfl) : PT' X c (.Compare a [op, op'] [b, cc] pos) (tB' (e3 o o' f g h)) := by
  obtain ⟨r, h1, h2⟩ := ho
  obtain ⟨r', h1', h2'⟩ := ho'
  exact ptI (pt_chain h1 h1' ha hb hc hm) fun σ H Q q => tB_go (t := tChain r r' (RdE c k1 f) (RdE c k2 g) (RdE c k3 h)) (fun σ H Q q => e3_go h2 h2' q) q
def tNo (t : FT) : FT := fun S => t S >>= fun b => .ok (!b)
def tA (t u : FT) : FT := fun S => t S >>= fun b => if b then u S else .ok false
def tO (t u : FT) : FT := fun S => t S >>= fun b => if b then .ok true else u S
variable {t u : FT}
theorem d_not (ha : PT' X c a t) : PT' X c (.UnaryOp .Not a pos) (tNo t) :=
  ptI (pt_not ha) fun σ H Q ⟨G, S, rel, p⟩ => rdT_go (g := fun b => .ok (!b)) (Post := PostT c G S σ H Q) rel p (fun _ z => z) (fun z => z) fun b G' H' s p1 => p1 G' H' s
abbrev PW' (X : Cx) (c : Cf) (e : Expr) (f : FT) : Prop := PW X e (RdT c f)
theorem PostT.grow {G H G' H' : Hp} {S : Env} {σ : St} {Q : Bool → Hp → Prop} {r : R Bool} (s : Step G H G' H') (p : PostT c G S σ H Q r) : PostT c G' S σ H' Q r := by
  cases r with
  | ok b => exact fun G2 H2 s2 => p G2 H2 (s.trans s2)
  | exc x => exact p
  | fail => exact p
theorem PostE.grow {G H G' H' : Hp} {S : Env} {σ : St} {Q : VK} {r : R D} (s : Step G H G' H') (p : PostE c kd G S σ H Q r) : PostE c kd G' S σ H' Q r := by
  cases r with
  | ok b => exact fun v G2 H2 s2 q => p v G2 H2 (s.trans s2) (q.mono s.h)
  | exc x => exact p
  | fail => exact p
theorem d_and1 (ha : PT' X c a t) : PW' X c (.BoolOp .And [a] pos) t := pw_and1 ha
theorem d_or1 (ha : PT' X c a t) : PW' X c (.BoolOp .Or [a] pos) t := pw_or1 ha
theorem d_and {rest : List Expr} (ha : PT' X c a t) (hb : PW' X c (.BoolOp .And (b :: rest) pos) u) : PW' X c (.BoolOp .And (a :: b :: rest) pos) (tA t u) :=
  pwI (pw_and ha hb) fun σ H Q ⟨G, S, rel, p⟩ => rdT_go (g := fun b => if b then u S else .ok false) (Post := PostT c G S σ H Q) rel p (fun _ z => z) (fun z => z) fun b G' H' s p1 => by
    cases b with
    | true => exact ⟨G', S, rel.grow s, PostT.grow s p1⟩
    | false => exact p1 G' H' s
theorem d_or {rest : List Expr} (ha : PT' X c a t) (hb : PW' X c (.BoolOp .Or (b :: rest) pos) u) : PW' X c (.BoolOp .Or (a :: b :: rest) pos) (tO t u) :=
  pwI (pw_or ha hb) fun σ H Q ⟨G, S, rel, p⟩ => rdT_go (g := fun b => if b then .ok true else u S) (Post := PostT c G S σ H Q) rel p (fun _ z => z) (fun z => z) fun b G' H' s p1 => by
    cases b with
    | true => exact p1 G' H' s
    | false => exact ⟨G', S, rel.grow s, PostT.grow s p1⟩
theorem d_pw (h : PW' X c a t) : PT' X c a t := h.pt
def eAnd (f g : FE) : FE := fun S => f S >>= toB >>= fun b => if b then g S else .ok (.bl false)
def eOr (f g : FE) : FE := fun S => f S >>= toB >>= fun b => if b then .ok (.bl true) else g S
def eNot (f : FE) : FE := fun S => f S >>= toB >>= fun b => .ok (.bl (!b))
def eIf (t : FT) (f g : FE) : FE := fun S => t S >>= fun b => if b then f S else g S
theorem bind_toB {β : Type} (r : R D) (k : Bool → R β) : (r >>= toB >>= k) = r >>= fun d => toB d >>= k := by cases r <;> rfl
theorem d_vone {op} (h : PE' X c .st a f) : PE' X c .st (.BoolOp op [a] pos) f := pe_one h
theorem d_vand {rest : List Expr} (ha : PE' X c .st a f) (hb : PE' X c .st (.BoolOp .And (b :: rest) pos) g) : PE' X c .st (.BoolOp .And (a :: b :: rest) pos) (eAnd f g) :=
  peI (pe_and ha hb) fun σ H Q ⟨G, S, rel, p⟩ => by
    unfold eAnd at p
    rw [bind_toB] at p
    refine rdE_go (Post := PostE c .st G S σ H Q) rel p (fun _ z => z) (fun z => z) fun d v G' H' s q p1 => ?_
    cases d with
    | bl k =>
      refine ⟨k, (Res.now (kd := .st) q).bl, ?_⟩
      cases k with
      | true => exact ⟨G', S, rel.grow s, PostE.grow s p1⟩
      | false => exact p1 _ G' H' s (.bl _)
    | _ => exact p1.elim
theorem d_vnot (ha : PE' X c .st a f) : PE' X c .st (.UnaryOp .Not a pos) (eNot f) :=
  peI (pe_not ha) fun σ H Q ⟨G, S, rel, p⟩ => by
    unfold eNot at p
    rw [bind_toB] at p
    refine rdE_go (Post := PostE c .st G S σ H Q) rel p (fun _ z => z) (fun z => z) fun d v G' H' s q p1 => ?_
    cases d with
    | bl k => exact ⟨k, (Res.now (kd := .st) q).bl, p1 _ G' H' s (.bl _)⟩
    | _ => exact p1.elim
theorem d_ite {cc : Expr} (hc : PT' X c cc t) (ha : PE' X c kd a f) (hb : PE' X c kd b g) : PE' X c kd (.IfExp cc a b pos) (eIf t f g) :=
  peI (pe_ifExp hc ha hb) fun σ H Q ⟨G, S, rel, p⟩ => rdT_go (g := fun b => if b then f S else g S) (Post := PostE c kd G S σ H Q) rel p (fun _ z => z) (fun z => z) fun b G' H' s p1 => by
    cases b with
    | true => exact ⟨G', S, rel.grow s, PostE.grow s p1⟩
    | false => exact ⟨G', S, rel.grow s, PostE.grow s p1⟩
end
end M
set_option Elab.async false
set_option linter.all false
set_option maxRecDepth 100000
set_option maxHeartbeats 4000000
namespace M
open PySem L2
abbrev PS' (X : Cx) (c : Cf) (fr : Bool) (as : List Nat) (st : Stmt) (s : FS) : Prop := PS X st (RdS c fr as s)
abbrev PB' (X : Cx) (c : Cf) (fr : Bool) (as : List Nat) (st : List Stmt) (s : FS) : Prop := PSs X st (RdS c fr as s)
section
variable {X : Cx} {c : Cf} {kd k1 k2 k3 : Kd} {a b e : Expr} {f g h : FE} {t u : FT} {pos : Pos} {fr : Bool} {as bs : List Nat} {s r : FS} {st : Stmt} {sts : List Stmt}
theorem PostS.mv {G G' H H' : Hp} {S S' : Env} {σ σ' : St} {Dn : Ends} {q : R (Fl × Env)} (hg : Ex G G') (fm : Frm as S σ H S' σ' H') (hs : ∀ i, i ∈ as ++ bs → i ∈ as ∨ i ∈ bs) (p : PostS c fr (as ++ bs) G S σ H Dn q) : PostS c fr bs G' S' σ' H' Dn q := by
  cases q with
  | exc x => exact p
  | fail => exact p
  | ok z =>
    obtain ⟨fl, S2⟩ := z
    cases fl with
    | nx => exact fun G2 σ2 H2 e r2 f2 => p G2 σ2 H2 (hg.trans e) r2 (fm.trans f2)
    | bk => exact fun G2 σ2 H2 e r2 f2 => p G2 σ2 H2 (hg.trans e) r2 (fm.trans f2)
    | ct => exact fun G2 σ2 H2 e r2 f2 => p G2 σ2 H2 (hg.trans e) r2 (fm.trans f2)
    | rt d => exact fun v G2 H2 st rv ow => p v G2 H2 st rv (ow.mv fm)
theorem PostS.sub {as' : List Nat} {G H : Hp} {S : Env} {σ : St} {Dn : Ends} {q : R (Fl × Env)} (hs : ∀ i, i ∈ as' → i ∈ as) (p : PostS c fr as G S σ H Dn q) : PostS c fr as' G S σ H Dn q := by
  cases q with
  | exc x => exact p
  | fail => exact p
  | ok z =>
    obtain ⟨fl, S2⟩ := z
    cases fl with
    | nx => exact fun G2 σ2 H2 e r2 f2 => p G2 σ2 H2 e r2 (f2.mono hs)
    | bk => exact fun G2 σ2 H2 e r2 f2 => p G2 σ2 H2 e r2 (f2.mono hs)
    | ct => exact fun G2 σ2 H2 e r2 f2 => p G2 σ2 H2 e r2 (f2.mono hs)
    | rt d => exact fun v G2 H2 st rv ow => p v G2 H2 st rv (ow.sub hs)
theorem PostS.gr {G H G' H' : Hp} {S : Env} {σ : St} {Dn : Ends} {q : R (Fl × Env)} (rel : Rel c G S σ H) (sp : Step G H G' H') (p : PostS c fr as G S σ H Dn q) : PostS c fr as G' S σ H' Dn q :=
  PostS.mv (as := []) (bs := as) sp.g (Frm.step rel sp) (fun i h => .inr (by simpa using h)) p
def sNil : FS := fun S => .ok (.nx, S)
def sSeq (s r : FS) : FS := fun S => s S >>= fun z => match z.1 with | .nx => r z.2 | _ => .ok z
def sSet (i : Nat) (f : FE) : FS := fun S => f S >>= fun d => .ok (.nx, S.set i (some ⟨false, d⟩))
def sOwn (i : Nat) (f : FE) : FS := fun S => f S >>= fun d => .ok (.nx, S.set i (some ⟨true, d⟩))
def sDrop (f : FE) : FS := fun S => f S >>= fun _ => .ok (.nx, S)
def sRet (f : FE) : FS := fun S => f S >>= fun d => .ok (.rt d, S)
def sRetN : FS := fun S => .ok (.rt .non, S)
def eO (i : Nat) : FE := fun S => match S[i]? with
  | some (some ⟨true, d⟩) => .ok d
  | _ => .fail
def sRetO (i : Nat) : FS := fun S => eO i S >>= fun d => .ok (.rt d, S)
def sIf (t : FT) (s r : FS) : FS := fun S => t S >>= fun b => if b then s S else r S
def sNo : FS := fun _ => .fail
def fzS (S : Env) (i : Nat) : Env := match S[i]? with
  | some (some ⟨true, d⟩) => S.set i (some ⟨false, d⟩)
  | _ => S
def sFz (i : Nat) (s : FS) : FS := fun S => s (fzS S i)
theorem b_nil : PB' X c fr [] [] sNil := pssI pss_nil fun Dn σ H ⟨G, S, rel, p⟩ => p G σ H (Ex.refl _) rel (Frm.refl _ _ _ _)
theorem b_cons (h1 : PS' X c fr as st s) (h2 : PB' X c fr bs sts r) : PB' X c fr (as ++ bs) (st :: sts) (sSeq s r) :=
  pssI (pss_cons h1 h2) fun Dn σ H ⟨G, S, rel, p⟩ => ⟨G, S, rel, by
    have p : PostS c fr (as ++ bs) G S σ H Dn (s S >>= fun z => match z.1 with | .nx => r z.2 | _ => .ok z) := p
    cases e1 : s S with
    | exc x => rw [e1] at p; exact p
    | fail => rw [e1] at p; exact p
    | ok z =>
      rw [e1] at p
      obtain ⟨fl, S1⟩ := z
      cases fl with
      | nx => exact fun G1 σ1 H1 ex r1 f1 => ⟨G1, S1, r1, PostS.mv (as := as) (bs := bs) ex f1 (fun i => List.mem_append.mp) p⟩
      | bk => exact PostS.sub (fun i q => List.mem_append_left _ q) p
      | ct => exact PostS.sub (fun i q => List.mem_append_left _ q) p
      | rt d => exact PostS.sub (fun i q => List.mem_append_left _ q) p⟩
theorem b_one (h1 : PS' X c fr as st s) : PB' X c fr as [st] s := pss_one h1
abbrev PG' (X : Cx) (c : Cf) (as : List Nat) (e : Expr) (g : FG) : Prop := PG X e (RdG c as g)
abbrev FGs := List D → Env → R Env
def RdGs (c : Cf) (as : List Nat) (g : FGs) : TGs := fun vs σ H Q => ∃ G S ds, Rel c G S σ H ∧ RDs c.k G ds vs ∧ PostG c as G S σ H Q (g ds S)
abbrev PGs' (X : Cx) (c : Cf) (as : List Nat) (e : List Expr) (g : FGs) : Prop := PGs X e (RdGs c as g)
def gN (i : Nat) : FG := fun d S => .ok (S.set i (some ⟨false, d⟩))
def gsN : FGs := fun ds S => match ds with | [] => .ok S | _ => .fail
def gsC (g : FG) (r : FGs) : FGs := fun ds S => match ds with | d :: ds => g d S >>= r ds | [] => .fail
def gT (n : Nat) (r : FGs) : FG := fun d S => match d with | .tup ds => if ds.length = n then r ds S else .fail | _ => .fail
theorem Frm.set {S : Env} {σ : St} {H : Hp} (i : Nat) (x : Option Sl) (v : Option V) : Frm [i] S σ H (S.set i x) (σ.set i v) H :=
  ⟨by simp, fun j hj => List.getElem?_set_ne (fun z => hj (by simp [z])), fun j hj _ => List.getElem?_set_ne (fun z => hj (by simp [z])), fun _ _ _ _ _ => rfl⟩
theorem g_n (i : Nat) {x : Str} (hN : X.N.Nodup) (hi : X.N[i]? = some x := by rfl) (hx : Loc X.env.scope x := by first | exact Or.inl rfl | exact Or.inr rfl) (hf : X.fn x = true ∨ X.env.scope.names.lookup x = some .local := by first | exact .inl rfl | exact .inr rfl) : PG' X c [i] (.Name x pos) (gN i) :=
  pgI (pg_name hN hi hx hf) fun v σ H Q ⟨G, S, d, rel, q, p⟩ => p G _ H (Step.refl rel.st.gh) (rel.setS i q) (Frm.set i _ _)
theorem gs_n : PGs' X c [] [] gsN :=
  pgsI pgs_nil fun vs σ H Q ⟨G, S, ds, rel, q, p⟩ => by
    cases q with
    | nil => exact ⟨rfl, p G σ H (Step.refl rel.st.gh) rel (Frm.refl _ _ _ _)⟩
    | cons _ _ => exact p.elim
theorem gs_c {e : Expr} {es : List Expr} {ga : FG} {ra : FGs} (h1 : PG' X c as e ga) (h2 : PGs' X c bs es ra) (hs : (assignEach (e :: es) X.env).map (·.2) = assign e X.env :: (assignEach es X.env).map (·.2) := by rfl) : PGs' X c (as ++ bs) (e :: es) (gsC ga ra) :=
  pgsI (pgs_cons h1 h2 hs) fun vs σ H Q ⟨G, S, ds, rel, q, p⟩ => by
    cases q with
    | nil => exact p.elim
    | @cons d ds v vs q1 q2 =>
      refine ⟨v, vs, rfl, G, S, d, rel, q1, ?_⟩
      have p : PostG c (as ++ bs) G S σ H Q (ga d S >>= ra ds) := p
      cases e1 : ga d S with
      | exc x => rw [e1] at p; exact p.elim
      | fail => rw [e1] at p; exact p.elim
      | ok S1 =>
        rw [e1] at p
        refine fun G1 σ1 H1 ex r1 f1 => ⟨G1, S1, ds, r1, q2.mono ex.g, ?_⟩
        have p : PostG c (as ++ bs) G S σ H Q (ra ds S1) := p
        cases e2 : ra ds S1 with
        | exc x => rw [e2] at p; exact p.elim
        | fail => rw [e2] at p; exact p.elim
        | ok S2 => rw [e2] at p; exact fun G2 σ2 H2 ex2 r2 f2 => p G2 σ2 H2 (ex.trans ex2) r2 (f1.trans f2)
theorem g_t {es : List Expr} {k : Nat} {ra : FGs} {n : Nat} (hk : c.k.K = X.K) (hc : X.calm = true) (h : PGs' X c as es ra) (hn : (assignEach es X.env).length = n := by rfl) (hst : (assignEach es X.env).findIdx? (·.1) = none := by rfl) : PG' X c as (.Tuple es k pos) (gT n ra) :=
  pgI (pg_tup hc h hn hst) fun v σ H Q ⟨G, S, d, rel, q, p⟩ => by
    cases q with
    | @tup ds a vs hs hr =>
      have p : PostG c as G S σ H Q (if ds.length = n then ra ds S else .fail) := p
      by_cases hl : ds.length = n
      · rw [if_pos hl] at p
        exact ⟨a, vs, rfl, hk ▸ rel.st.gh.sqT hs.t, by rw [← hr.length]; exact hl, G, S, ds, rel, hr, p⟩
      · rw [if_neg hl] at p; exact p.elim
    | _ => exact p.elim
def sAsg (g : FG) (f : FE) : FS := fun S => f S >>= fun d => (g d S).nox >>= fun S' => .ok (Fl.nx, S')
theorem asg_go {ga : FG} {tg : TG} {Dn : Ends} {σ : St} {H : Hp} (hg : ∀ v σ H Q, RdG c as ga v σ H Q → tg v σ H Q) (q : RdS c fr as (sAsg ga f) Dn σ H) : RdE c .st f σ H fun x H1 => tg x σ H1 Dn.nx := by
  obtain ⟨G, S, rel, p⟩ := q
  refine rdE_go (g := fun d => (ga d S).nox >>= fun S' => .ok (Fl.nx, S')) (Post := PostS c fr as G S σ H Dn) rel p (fun _ z => z _) (fun z => z) fun d v G' H' sp q p1 => ?_
  refine hg v σ H' _ ⟨G', S, d, rel.grow sp, q, ?_⟩
  cases e1 : ga d S with
  | exc x => rw [e1] at p1; exact p1.elim
  | fail => rw [e1] at p1; exact p1.elim
  | ok S1 =>
    rw [e1] at p1
    exact fun G2 σ2 H2 ex r2 f2 => p1 G2 σ2 H2 (sp.g.trans ex.g) r2 ((Frm.step (as := []) rel sp).trans f2)
theorem s_asg {tg : Expr} {ga : FG} (he : PE' X c .st e f) (hg : PG' X c as tg ga) (hs : swapsWithSole [tg] e pos.line X.env = pure false := by rfl) (hw : swappedStores [tg] e X.env = pure none := by rfl) (h1 : (assignEach [tg] X.env).map (·.2) = [assign tg X.env] := by rfl) : PS' X c fr as (.Assign [tg] e pos) (sAsg ga f) :=
  psI (ps_asg he hg hs hw h1) fun Dn σ H q => asg_go (fun _ _ _ _ z => z) q
theorem s_set (i : Nat) {x : Str} {pos' : Pos} (hN : X.N.Nodup) (he : PE' X c .st e f) (hi : X.N[i]? = some x := by rfl) (hx : Loc X.env.scope x := by first | exact Or.inl rfl | exact Or.inr rfl) (hs : swapsWith e (some (.Name x pos')) pos.line X.env = pure false := by rfl)
    (hf : X.fn x = true ∨ X.env.scope.names.lookup x = some .local := by first | exact .inl rfl | exact .inr rfl) : PS' X c fr [i] (.Assign [.Name x pos'] e pos) (sSet i f) :=
  psI (ps_set hN hi hx he hs hf) fun Dn σ H ⟨G, S, rel, p⟩ => by
    refine rdE_go (g := fun d => .ok (Fl.nx, S.set i (some ⟨false, d⟩))) (Post := PostS c fr [i] G S σ H Dn) rel p (fun _ z => z _) (fun z => z) fun d v G' H' sp q p1 => ?_
    exact p1 G' _ H' sp.g ((rel.grow sp).setS i q) ((Frm.step (as := []) rel sp).trans (Frm.set i _ _))
theorem own_go {i : Nat} {Dn : Ends} {σ : St} {H : Hp} (q : RdS c fr [i] (sOwn i f) Dn σ H) : RdE c .fr f σ H fun x H1 => gName i x σ H1 Dn.nx := by
  obtain ⟨G, S, rel, p⟩ := q
  refine rdE_go (g := fun d => .ok (Fl.nx, S.set i (some ⟨true, d⟩))) (Post := PostS c fr [i] G S σ H Dn) rel p (fun _ z => z _) (fun z => z) fun d v G' H' sp q p1 => ?_
  obtain ⟨a, o, rfl, hg, hn, ha, ct⟩ := q
  refine p1 G' _ H' sp.g ((rel.grow sp).setO i ha hg (rel.st.h.free hn) ct (fun j ow => ?_) (fun _ _ => rfl)) ((Frm.step (as := []) rel sp).trans (Frm.set i _ _))
  obtain ⟨_, _, u, _, q, _⟩ := rel.own ow
  rw [hn] at q; cases q
theorem s_own (i : Nat) {x : Str} {pos' : Pos} (hN : X.N.Nodup) (he : PE' X c .fr e f) (hi : X.N[i]? = some x := by rfl) (hx : Loc X.env.scope x := by first | exact Or.inl rfl | exact Or.inr rfl) (hs : swapsWith e (some (.Name x pos')) pos.line X.env = pure false := by rfl)
    (hf : X.fn x = true ∨ X.env.scope.names.lookup x = some .local := by first | exact .inl rfl | exact .inr rfl) : PS' X c fr [i] (.Assign [.Name x pos'] e pos) (sOwn i f) :=
  psI (ps_set hN hi hx he hs hf) fun Dn σ H q => own_go q
theorem s_drop (he : PE' X c kd e f) (hs : swapsWith e none pos.line X.env = pure false := by rfl) : PS' X c fr [] (.Expr e pos) (sDrop f) :=
  psI (ps_expr he hs) fun Dn σ H ⟨G, S, rel, p⟩ => by
    refine rdE_go (g := fun d => .ok (Fl.nx, S)) (Post := PostS c fr [] G S σ H Dn) rel p (fun _ z => z _) (fun z => z) fun d v G' H' sp q p1 => ?_
    exact p1 G' σ H' sp.g (rel.grow sp) (Frm.step rel sp)
theorem s_ret (he : PE' X c .st e f) : PS' X c false [] (.Return (some e) pos) (sRet f) :=
  psI (ps_ret he) fun Dn σ H ⟨G, S, rel, p⟩ => by
    refine rdE_go (g := fun d => .ok (Fl.rt d, S)) (Post := PostS c false [] G S σ H Dn) rel p (fun _ z => z _) (fun z => z) fun d v G' H' sp q p1 => ?_
    exact p1 v G' H' (rel.st.trans sp) q (rel.grow sp).owR
theorem s_retO (i : Nat) {x : Str} {p' : Pos} (hN : X.N[i]? = some x := by rfl) (hv : Vis X.env.scope x := by first | exact Or.inl rfl | exact Or.inr (Or.inl rfl) | exact Or.inr (Or.inr rfl)) (hd : (x == ("__debug__" : Str)) = false := by decide)
    (hcd : (x == ("__classdict__" : Str)) = false := by decide) : PS' X c true [] (.Return (some (.Name x p')) pos) (sRetO i) :=
  psI (ps_ret (pe_var hN hv hd hcd)) fun Dn σ H ⟨G, S, rel, p⟩ => by
    have p : PostS c true [] G S σ H Dn (eO i S >>= fun d => .ok (.rt d, S)) := p
    unfold eO at p
    split at p
    · rename_i d hd
      obtain ⟨a, o, e1, hg, h0, ho, ct⟩ := rel.ow i d hd
      exact ⟨_, e1, p _ G H rel.st ⟨a, o, rfl, hg, h0, ho, ct⟩ rel.owR⟩
    · exact p.elim
theorem s_if {cc : Expr} {aa bb : List Stmt} (hc : PT' X c cc t) (ha : PB' X c fr as aa s) (hb : PB' X c fr bs bb r) : PS' X c fr (as ++ bs) (.If cc aa bb pos) (sIf t s r) :=
  psI (ps_if hc ha hb) fun Dn σ H ⟨G, S, rel, p⟩ => rdT_go (g := fun b => if b then s S else r S) (Post := PostS c fr (as ++ bs) G S σ H Dn) rel p (fun _ z => z _) (fun z => z) fun b G' H' sp p1 => by
    cases b with
    | true => exact ⟨G', S, rel.grow sp, PostS.sub (fun i q => List.mem_append_left _ q) (PostS.gr rel sp p1)⟩
    | false => exact ⟨G', S, rel.grow sp, PostS.sub (fun i q => List.mem_append_right _ q) (PostS.gr rel sp p1)⟩
def Itm (k : Kn) (ki : List Nat) (G1 : Hp) (S : Env) (σ : St) (H1 : Hp) (J : It) (ds : List D) : Prop :=
  ∀ G H, Ex G1 G → Ex G H → (∀ i, i ∈ ki → ∀ a, OwnAt S σ i a → H a = H1 a) → (∀ i : Nat, ds.length ≤ i → J.stop i H) ∧ ∀ (i : Nat) (d : D), ds[i]? = some d → J.go i H ∧ ∀ x H', J.yld i H x H' → ∃ G', Step G H G' H' ∧ RD k G' d x
abbrev FI := Env → R (List D)
def PostI (c : Cf) (ki : List Nat) (G : Hp) (S : Env) (σ : St) (H : Hp) (Q : It → Hp → Prop) : R (List D) → Prop
  | .ok ds => ∀ J G' H', Step G H G' H' → Itm c.k ki G' S σ H' J ds → Q J H'
  | .exc x => PX c σ x
  | .fail => False
def RdI (c : Cf) (ki : List Nat) (f : FI) : TI := fun σ H Q => ∃ G S, Rel c G S σ H ∧ PostI c ki G S σ H Q (f S)
abbrev PI' (X : Cx) (c : Cf) (ki : List Nat) (tg e : Expr) (f : FI) : Prop := PI X tg e (RdI c ki f)
def forF (g : FG) (s : FS) : List D → FS
  | [] => fun S => .ok (.nx, S)
  | d :: ds => fun S => (g d S).nox >>= fun S1 => s S1 >>= fun z => match z.1 with
    | .nx => forF g s ds z.2
    | .ct => forF g s ds z.2
    | .bk => .ok (.nx, z.2)
    | .rt d => .ok (.rt d, z.2)
def sFor (i : FI) (g : FG) (s : FS) : FS := fun S => i S >>= fun ds => forF g s ds S
theorem s_for {tg iter : Expr} {body : List Stmt} {ki gs : List Nat} {fi : FI} {ga : FG} (hp : PassesOwn (model X.prog X.w) X.A X.env X.xe) (hc : X.calm = true) (hi : PI' X c ki tg iter fi) (hg : PG' X c gs tg ga) (hb : PB' X c fr as body s)
    (hki : ∀ i, i ∈ ki → i ∉ gs ++ as ∧ i + 1000 ∉ gs ++ as := by decide) (hs : ∀ x, foldedSetIterable iter X.env x = pure x := by intro _; rfl) : PS' X c fr (gs ++ as) (.For tg iter body [] pos) (sFor fi ga s) :=
  psI (ps_for hp hc hi hg hb hs) fun Dn σ H ⟨G, S, rel, p⟩ => by
    refine ⟨G, S, rel, ?_⟩
    have p : PostS c fr (gs ++ as) G S σ H Dn (fi S >>= fun ds => forF ga s ds S) := p
    cases e0 : fi S with
    | exc x => rw [e0] at p; exact p _
    | fail => rw [e0] at p; exact p
    | ok ds =>
      rw [e0] at p
      have p : PostS c fr (gs ++ as) G S σ H Dn (forF ga s ds S) := p
      intro J G0 H0 sp it
      refine ⟨fun i m σ1 H1 => m = ds.length - i ∧ i ≤ ds.length ∧ ∃ G1 S1, Rel c G1 S1 σ1 H1 ∧ Ex G0 G1 ∧ Frm (gs ++ as) S σ H0 S1 σ1 H1 ∧ PostS c fr (gs ++ as) G S σ H Dn (forF ga s (ds.drop i) S1),
        ⟨_, rfl, Nat.zero_le _, G0, S, rel.grow sp, Ex.refl _, Frm.refl _ _ _ _, by simpa using p⟩, ?_⟩
      rintro i m σ1 H1 ⟨rfl, hle, G1, S1, r1, ex1, f1, p1⟩
      have keep : ∀ j, j ∈ ki → ∀ a, OwnAt S σ j a → H1 a = H0 a := fun j hj a ow => f1.ow j a (hki j hj).1 (hki j hj).2 ow
      have itm := it G1 H1 ex1 r1.st.gh keep
      have fm : Frm (gs ++ as) S σ H S1 σ1 H1 := ((Frm.step (as := []) rel sp).trans f1).mono (fun i q => by simpa using q)
      by_cases hlt : i < ds.length
      · obtain ⟨d, hd⟩ : ∃ d, ds[i]? = some d := ⟨ds[i], List.getElem?_eq_getElem hlt⟩
        have hdrop : ds.drop i = d :: ds.drop (i + 1) := by
          rw [List.drop_eq_getElem_cons hlt]; congr 1; rw [List.getElem?_eq_getElem hlt] at hd; exact Option.some.inj hd
        rw [hdrop] at p1
        obtain ⟨hgo, hy⟩ := itm.2 i d hd
        refine .inr ⟨hgo, fun σ' H' => ∃ G3 S3, Rel c G3 S3 σ' H' ∧ Ex G0 G3 ∧ Frm (gs ++ as) S σ H0 S3 σ' H' ∧ PostS c fr (gs ++ as) G S σ H Dn (forF ga s (ds.drop (i + 1)) S3), fun σ' H' q => ⟨ds.length - (i + 1), by omega, rfl, hlt, q⟩, fun x H2 hx => ?_⟩
        obtain ⟨G2, sp2, hd2⟩ := hy x H2 hx
        refine ⟨G2, S1, d, r1.grow sp2, hd2, ?_⟩
        have p1 : PostS c fr (gs ++ as) G S σ H Dn ((ga d S1).nox >>= fun S1 => s S1 >>= fun z => match z.1 with
          | .nx => forF ga s (ds.drop (i + 1)) z.2
          | .ct => forF ga s (ds.drop (i + 1)) z.2
          | .bk => .ok (.nx, z.2)
          | .rt d => .ok (.rt d, z.2)) := p1
        cases e1 : ga d S1 with
        | exc x => rw [e1] at p1; exact p1.elim
        | fail => rw [e1] at p1; exact p1.elim
        | ok S2 =>
          rw [e1] at p1
          refine fun G3 σ3 H3 e3 r3 f3 => ⟨G3, S2, r3, ?_⟩
          have f03 : Frm (gs ++ as) S σ H0 S2 σ3 H3 := (f1.trans ((Frm.step (as := []) r1 sp2).trans f3)).mono (fun i q => by simp only [List.mem_append, List.not_mem_nil, false_or] at q ⊢; rcases q with q | q; exact q; exact .inl q)
          have p1 : PostS c fr (gs ++ as) G S σ H Dn (s S2 >>= fun z => match z.1 with
            | .nx => forF ga s (ds.drop (i + 1)) z.2
            | .ct => forF ga s (ds.drop (i + 1)) z.2
            | .bk => .ok (.nx, z.2)
            | .rt d => .ok (.rt d, z.2)) := p1
          have g03 : Ex G0 G3 := (ex1.trans sp2.g).trans e3.g
          cases e2 : s S2 with
          | exc x => rw [e2] at p1; exact p1
          | fail => rw [e2] at p1; exact p1
          | ok z =>
            rw [e2] at p1
            obtain ⟨fl, S4⟩ := z
            have fin : ∀ {σ4 : St} {H4 : Hp}, Frm as S2 σ3 H3 S4 σ4 H4 → Frm (gs ++ as) S σ H0 S4 σ4 H4 := fun f4 => (f03.trans f4).mono (fun i q => by simp only [List.mem_append] at q ⊢; rcases q with q | q; exact q; exact .inr q)
            have fin2 : ∀ {σ4 : St} {H4 : Hp}, Frm as S2 σ3 H3 S4 σ4 H4 → Frm (gs ++ as) S σ H S4 σ4 H4 := fun f4 => ((Frm.step (as := []) rel sp).trans (fin f4)).mono (fun i q => by simpa using q)
            cases fl with
            | nx => exact fun G4 σ4 H4 e4 r4 f4 => ⟨G4, S4, r4, g03.trans e4, fin f4, p1⟩
            | ct => exact fun G4 σ4 H4 e4 r4 f4 => ⟨G4, S4, r4, g03.trans e4, fin f4, p1⟩
            | bk => exact fun G4 σ4 H4 e4 r4 f4 => p1 G4 σ4 H4 ((sp.g.trans g03).trans e4) r4 (fin2 f4)
            | rt d => exact fun v G4 H4 st rv ow => p1 v G4 H4 st rv ((ow.mv f03).sub fun i q => by simp only [List.mem_append] at q ⊢; rcases q with q | q; exact q; exact .inr q)
      · have hi : i = ds.length := by omega
        subst hi
        rw [List.drop_length] at p1
        exact .inl ⟨itm.1 _ (Nat.le_refl _), p1 G1 σ1 H1 (sp.g.trans ex1) r1 fm⟩
end
end M
set_option Elab.async false
set_option linter.all false
set_option maxRecDepth 100000
set_option maxHeartbeats 4000000
namespace M
open PySem L2
section
variable {X : Cx} {c : Cf} {kd k1 k2 k3 : Kd} {a b e tg : Expr} {f g h : FE} {t u : FT} {pos : Pos} {fr : Bool} {as bs : List Nat} {s r : FS}
def chrs (x : Str) : List D := x.cps.toList.map fun n => .str ⟨#[n]⟩
def itemsD : D → R (List D)
  | .lst ds => .ok ds
  | .tup ds => .ok ds
  | .scr ns => .ok (ns.map .int)
  | .str x => .ok (chrs x)
  | _ => .fail
theorem itm_list {k : Kn} {ki : List Nat} {G1 H1 : Hp} {S : Env} {σ : St} {K : PySem.W.Frag} {ds : List D} {vs : List V} {p : Addr} (hr : RDs k G1 ds vs) (hs : ∀ G H, Ex G1 G → Ex G H → (∀ i, i ∈ ki → ∀ a, OwnAt S σ i a → H a = H1 a) → SqL K H p vs)
    : Itm k ki G1 S σ H1 (Itl K p) ds := fun G H e1 e2 kp => by
  have q := hs G H e1 e2 kp
  refine ⟨fun i hi => ⟨vs, q, by rw [← hr.length]; exact hi⟩, fun i d hd => ?_⟩
  obtain ⟨v, hv, r⟩ := (hr.mono e1).get hd
  refine ⟨⟨vs, v, q, hv⟩, fun x H' hx => ?_⟩
  obtain ⟨rfl, hy⟩ := hx
  have := hy vs q
  rw [hv] at this; cases this
  exact ⟨G, Step.refl e2, r⟩
theorem itm_tup {k : Kn} {ki : List Nat} {G1 H1 : Hp} {S : Env} {σ : St} {K : PySem.W.Frag} {ds : List D} {vs : List V} {p : Addr} (hr : RDs k G1 ds vs) (hs : SqT K G1 p vs) : Itm k ki G1 S σ H1 (Itt K p) ds := fun G H e1 e2 kp => by
  have q := e2.sqT (e1.sqT hs)
  refine ⟨fun i hi => ⟨vs, q, by rw [← hr.length]; exact hi⟩, fun i d hd => ?_⟩
  obtain ⟨v, hv, r⟩ := (hr.mono e1).get hd
  refine ⟨⟨vs, v, q, hv⟩, fun x H' hx => ?_⟩
  obtain ⟨rfl, hy⟩ := hx
  have := hy vs q
  rw [hv] at this; cases this
  exact ⟨G, Step.refl e2, r⟩
theorem itm_str {k : Kn} {ki : List Nat} {G1 H1 : Hp} {S : Env} {σ : St} (x : Str) : Itm k ki G1 S σ H1 (Its x) (chrs x) := fun G H e1 e2 kp => by
  refine ⟨fun i hi => ?_, fun i d hd => ?_⟩
  · show x.cps.size ≤ i
    simpa [chrs] using hi
  · unfold chrs at hd
    rw [List.getElem?_map] at hd
    cases q : x.cps.toList[i]? with
    | none => rw [q] at hd; cases hd
    | some n =>
      rw [q] at hd; cases hd
      have q' : x.cps[i]? = some n := by simpa using q
      refine ⟨?_, fun y H' hy => ?_⟩
      · have := (Array.getElem?_eq_some_iff.mp q').1
        exact this
      · obtain ⟨e3, n', q2, e4⟩ := hy
        subst e3; subst e4
        rw [q'] at q2; cases q2
        exact ⟨G, Step.refl e2, .str _⟩
theorem i_seq (hk : c.k.K = X.K) (he : PE' X c .st e f) : PI' X c [] tg e (fun S => f S >>= itemsD) := by
  refine ⟨fun pins st σ H Rq I q => ?_⟩
  obtain ⟨G, S, rel, p⟩ := q
  have p : PostI c [] G S σ H Rq (f S >>= itemsD) := p
  cases e1 : f S with
  | exc x => exact (pi_list he).run pins st σ H Rq I ⟨G, S, rel, by rw [e1] at p ⊢; exact p⟩
  | fail => rw [e1] at p; exact p.elim
  | ok d =>
    rw [e1] at p
    cases d with
    | lst ds =>
      refine (pi_list he).run pins st σ H Rq I ⟨G, S, rel, ?_⟩
      rw [e1]
      intro v G' H' sp q
      cases q with
      | lst h r => exact ⟨_, rfl, ⟨_, SqL.of (sp.gh _ _ h)⟩, p _ G' H' sp (itm_list r fun G2 H2 a1 a2 _ => SqL.of (a2 _ _ (a1 _ _ h)))⟩
    | scr ns =>
      refine (pi_list he).run pins st σ H Rq I ⟨G, S, rel, ?_⟩
      rw [e1]
      intro v G' H' sp q
      cases q with
      | scr h => exact ⟨_, rfl, ⟨_, hk ▸ sp.gh.sqL h⟩, p _ G' H' sp (itm_list (RDs.ints ns) fun G2 H2 a1 a2 _ => hk ▸ a2.sqL (a1.sqL h))⟩
    | tup ds =>
      refine (pi_tup he).run pins st σ H Rq I ⟨G, S, rel, ?_⟩
      rw [e1]
      intro v G' H' sp q
      cases q with
      | tup h r => exact ⟨_, rfl, ⟨_, hk ▸ sp.gh.sqT h.t⟩, p _ G' H' sp (itm_tup r (hk ▸ h.t))⟩
    | str x =>
      refine (pi_str he).run pins st σ H Rq I ⟨G, S, rel, ?_⟩
      rw [e1]
      intro v G' H' sp q
      cases q with
      | str => exact ⟨_, rfl, p _ G' H' sp (itm_str x)⟩
    | _ => exact p.elim
def rngL (lo : Int) (n : Nat) : List D := (List.range n).map fun (i : Nat) => .int (lo + i)
def rng1 : List D → R (List D)
  | [.int j] => if -(2 ^ 62) ≤ j ∧ j < 2 ^ 62 then .ok (rngL 0 j.toNat) else .fail
  | _ => .fail
theorem itm_rng {k : Kn} {ki : List Nat} {G1 H1 : Hp} {S : Env} {σ : St} (lo : Int) (n : Nat) : Itm k ki G1 S σ H1 (Itr lo n) (rngL lo n) := fun G H e1 e2 kp => by
  refine ⟨fun i hi => (by simpa [rngL] using hi : n ≤ i), fun i d hd => ?_⟩
  unfold rngL at hd
  rw [List.getElem?_map] at hd
  have hi : i < n := by
    rcases Nat.lt_or_ge i n with z | z
    · exact z
    · rw [List.getElem?_eq_none (by simpa using z)] at hd; cases hd
  rw [List.getElem?_range hi] at hd
  cases hd
  refine ⟨hi, fun x H' hx => ?_⟩
  obtain ⟨rfl, rfl⟩ := hx
  exact ⟨G, Step.refl e2, .int _⟩
theorem i_rng1 {p : Pos} {fa : FA} {ba : Bool} (hm : X.mg "range" = none) (ha : PA' X c ba [a] fa) (hg : Gl X "range" := by rfl) (hs : starEach [a] X.env = [(false, eval a X.env)] := by rfl) : PI' X c [] tg (.Call (.Name "range" p) [a] [] pos) (fun S => fa S >>= rng1) :=
  piI (pi_range1 hg hm ha hs) fun σ H Rq ⟨G, S, rel, p⟩ => by
    refine rdA_go (g := rng1) (Post := PostI c [] G S σ H Rq) rel p (fun _ z => z) (fun z => z) fun ds vs G' H' sp q p1 => ?_
    rcases ds with _ | ⟨d1, _ | ⟨d2, dr⟩⟩
    · exact p1.elim
    · cases d1 with
      | int j =>
        have p1 : PostI c [] G S σ H Rq (if -(2 ^ 62) ≤ j ∧ j < 2 ^ 62 then .ok (rngL 0 j.toNat) else .fail) := p1
        cases q.nows with
        | cons n1 n2 =>
          cases n2
          obtain rfl := n1.int
          by_cases hj : -(2 ^ 62) ≤ j ∧ j < 2 ^ 62
          · rw [if_pos hj] at p1
            exact ⟨j, rfl, hj.1, hj.2, p1 _ G' H' sp (itm_rng 0 _)⟩
          · rw [if_neg hj] at p1; exact p1.elim
      | _ => exact p1.elim
    · cases d1 <;> exact p1.elim
theorem Rel.cw {c : Cf} {W : WX} {G H : Hp} {S : Env} {σ : St} (r : Rel c G S σ H) : Rel { c with W := W } G S σ H := ⟨r.st, r.len, r.fz, r.ow, r.nd⟩
theorem wipe_in {i : Nat} : ∀ {vs : List Nat} {σ : St}, i ∈ vs → i < σ.length → (L2.wipe σ vs)[i]? = some none
  | v :: vs, σ, hm, hi => by
    unfold L2.wipe
    by_cases h : v = i
    · subst h; rw [List.getElem?_set_self (by rw [wipe_length]; exact hi)]
    · rw [List.getElem?_set_ne h]
      exact wipe_in (by rcases List.mem_cons.mp hm with z | z; exact absurd z.symm h; exact z) hi
theorem wipe_eq {vs : List Nat} {σ σ' : St} (hl : σ'.length = σ.length) (h : ∀ (i : Nat), i ∉ vs → σ'[i]? = (L2.wipe σ vs)[i]?) : L2.wipe σ' vs = L2.wipe σ vs := by
  apply List.ext_getElem?
  intro i
  by_cases hm : i ∈ vs
  · by_cases hi : i < σ.length
    · rw [wipe_in hm hi, wipe_in hm (by rw [hl]; exact hi)]
    · rw [List.getElem?_eq_none (by rw [wipe_length, hl]; omega), List.getElem?_eq_none (by rw [wipe_length]; omega)]
  · rw [wipe_out hm, h i hm]
abbrev Cf.nx (c : Cf) : Cf := { c with W := liftX E0 }
abbrev PTs' (X : Cx) (c : Cf) (ifs : List Expr) (t : FT) : Prop := PTs X ifs (RdT c t)
def tY : FT := fun _ => .ok true
theorem ts_n : PTs' X c [] tY := ptsI pts_nil fun σ H Q ⟨G, S, rel, p⟩ => p G H (Step.refl rel.st.gh)
theorem ts_1 (h : PT' X c a t) : PTs' X c [a] t := pts_one h
def lcF (ga : FG) (t : FT) (fe : FE) (S : Env) : List D → R (List D)
  | [] => .ok []
  | d :: ds => (ga d S).nox >>= fun S1 => (t S1).nox >>= fun b => if b then (fe S1).nox >>= fun y => lcF ga t fe S ds >>= fun ys => .ok (y :: ys) else lcF ga t fe S ds
def lcE (fi : FI) (ga : FG) (t : FT) (fe : FE) (vs : List Nat) : FE := fun S => fi S >>= fun ds => if ds.length ≤ sizeLine then lcF ga t fe (wipeS S vs) ds >>= fun ys => .ok (.lst ys) else .fail
theorem lcF_exc {ga : FG} {t : FT} {fe : FE} {S : Env} {x : Exc} : ∀ ds, lcF ga t fe S ds ≠ .exc x
  | [] => by intro h; cases h
  | d :: ds => by
    intro h
    unfold lcF at h
    cases e1 : ga d S <;> rw [e1] at h <;> first | (cases h; done) | skip
    simp only [R.nox_ok, R.ok_bind] at h
    rename_i S1
    cases e2 : t S1 <;> rw [e2] at h <;> first | (cases h; done) | skip
    simp only [R.nox_ok, R.ok_bind] at h
    rename_i b
    cases b with
    | false => exact lcF_exc ds h
    | true =>
      rw [if_pos rfl] at h
      cases e3 : fe S1 <;> rw [e3] at h <;> first | (cases h; done) | skip
      simp only [R.nox_ok, R.ok_bind] at h
      cases e4 : lcF ga t fe S ds with
      | ok ys => rw [e4] at h; cases h
      | exc y => exact lcF_exc ds e4
      | fail => rw [e4] at h; cases h
theorem lc_go {ki gs vs : List Nat} {fi : FI} {ga : FG} {fe : FE} {σ : St} {H : Hp} {Q : VK} {gi : TG} {tt : TT} {te : TE} (hg : ∀ v σ H Q, RdG c.nx gs ga v σ H Q → gi v σ H Q) (ht : ∀ σ H Q, RdT c.nx t σ H Q → tt σ H Q) (he : ∀ σ H Q, RdE c.nx .st fe σ H Q → te σ H Q)
    (hgs : ∀ i, i ∈ gs → i ∈ vs) (q : RdE c .fr (lcE fi ga t fe vs) σ H Q) : tLc (RdI c ki fi) gi tt te vs σ H Q := by
  obtain ⟨G, S, rel, p⟩ := q
  refine ⟨G, S, rel, ?_⟩
  have p : PostE c .fr G S σ H Q (fi S >>= fun ds => if ds.length ≤ sizeLine then lcF ga t fe (wipeS S vs) ds >>= fun ys => .ok (.lst ys) else .fail) := p
  cases e0 : fi S with
  | exc x => rw [e0] at p; exact p
  | fail => rw [e0] at p; exact p
  | ok ds =>
    rw [e0, R.ok_bind] at p
    by_cases hz : ds.length ≤ sizeLine
    · rw [if_pos hz] at p
      intro J G1 H1 sp it Dl hD
      have relb := ((rel.grow sp).wipe vs).cw (W := liftX E0)
      have hD0 : H Dl = none := sp.h.free hD
      refine ⟨fun i m H2 => m = ds.length - i ∧ i ≤ ds.length ∧ ∃ G2 ac av, Step G1 H1 G2 H2 ∧ G2 Dl = none ∧ H2 Dl = some (.lst av) ∧ RDs c.k G2 ac av ∧ ac.length ≤ i ∧
          PostE c .fr G S σ H Q (lcF ga t fe (wipeS S vs) (ds.drop i) >>= fun ys => .ok (.lst (ac ++ ys))),
        ⟨_, rfl, Nat.zero_le _, G1, [], [], Step.new' sp.gh hD, sp.gh.free hD, upd_same, .nil, Nat.zero_le _, by simpa using p⟩, ?_⟩
      rintro i m H2 ⟨rfl, hle, G2, ac, av, sp2, hGD, hHD, hr, hal, p2⟩
      have rel2 : Rel c.nx G2 (wipeS S vs) (L2.wipe σ vs) H2 := relb.grow sp2
      have itm := it G2 H2 sp2.g sp2.gh fun j hj x ow => by
        obtain ⟨_, _, o, _, ho, _⟩ := (rel.grow sp).own ow
        rw [ho, sp2.h _ _ ho]
      by_cases hlt : i < ds.length
      · obtain ⟨d, hd⟩ : ∃ d, ds[i]? = some d := ⟨ds[i], List.getElem?_eq_getElem hlt⟩
        have hdrop : ds.drop i = d :: ds.drop (i + 1) := by
          rw [List.drop_eq_getElem_cons hlt]; congr 1; rw [List.getElem?_eq_getElem hlt] at hd; exact Option.some.inj hd
        rw [hdrop] at p2
        obtain ⟨hgo, hy⟩ := itm.2 i d hd
        refine .inr ⟨hgo, fun H' => ∃ G3 ac av, Step G1 H1 G3 H' ∧ G3 Dl = none ∧ H' Dl = some (.lst av) ∧ RDs c.k G3 ac av ∧ ac.length ≤ i + 1 ∧
          PostE c .fr G S σ H Q (lcF ga t fe (wipeS S vs) (ds.drop (i + 1)) >>= fun ys => .ok (.lst (ac ++ ys))), fun H' ⟨G3, r3⟩ => ⟨_, by omega, rfl, hlt, G3, r3⟩, fun x H3 hx => ?_⟩
        obtain ⟨G3, sp3, hd3⟩ := hy x H3 hx
        refine hg x _ H3 _ ⟨G3, wipeS S vs, d, rel2.grow sp3, hd3, ?_⟩
        unfold lcF at p2
        cases e1 : ga d (wipeS S vs) with
        | exc x => rw [e1] at p2; exact p2.elim
        | fail => rw [e1] at p2; exact p2.elim
        | ok S1 =>
          rw [e1, R.nox_ok, R.ok_bind] at p2
          intro G4 σ4 H4 sp4 rel4 f4
          refine ⟨wipe_eq (by rw [f4.len, wipe_length]) fun j hj => f4.sg j fun z => hj (hgs j z), ht σ4 H4 _ ⟨G4, S1, rel4, ?_⟩⟩
          cases e2 : t S1 with
          | exc x => rw [e2] at p2; exact p2.elim
          | fail => rw [e2] at p2; exact p2.elim
          | ok b =>
            rw [e2, R.nox_ok, R.ok_bind] at p2
            intro G5 H5 sp5
            have spA : Step G2 H2 G5 H5 := (sp3.trans sp4).trans sp5
            have nD : ∀ {G6 H6 : Hp}, Step G2 H2 G6 H6 → G6 Dl = none ∧ H6 Dl = some (.lst av) := fun {G6 H6} z => by
              refine ⟨?_, z.h _ _ hHD⟩
              cases q : G6 Dl with
              | none => rfl
              | some o =>
                rcases z.gr _ _ q with w | w
                · rw [hGD] at w; cases w
                · rw [hHD] at w; cases w
            cases b with
            | false =>
              rw [if_neg Bool.false_ne_true] at p2 ⊢
              exact ⟨G5, ac, av, sp2.trans spA, (nD spA).1, (nD spA).2, hr.mono spA.g, by omega, p2⟩
            | true =>
              rw [if_pos rfl] at p2 ⊢
              refine he σ4 H5 _ ⟨G5, S1, rel4.grow sp5, ?_⟩
              cases e3 : fe S1 with
              | exc x => rw [e3] at p2; exact p2.elim
              | fail => rw [e3] at p2; exact p2.elim
              | ok y =>
                rw [e3, R.nox_ok, R.ok_bind] at p2
                intro v G6 H6 sp6 hv
                have spB := spA.trans sp6
                refine ⟨av, (nD spB).2, by rw [← hr.length]; omega, ?_⟩
                have spC : Step G1 H1 G6 (upd H6 Dl (.lst (av ++ [v]))) := by
                  have z := sp2.trans spB
                  exact ⟨z.g, z.h.upd hD, z.gh.upd (nD spB).1, z.gr⟩
                refine ⟨G6, ac ++ [y], av ++ [v], spC, (nD spB).1, upd_same, (hr.mono spB.g).append (.cons hv .nil), by rw [List.length_append]; simp; omega, ?_⟩
                cases e4 : lcF ga t fe (wipeS S vs) (ds.drop (i + 1)) with
                | exc x => exact absurd e4 (lcF_exc _)
                | fail => rw [e4] at p2; exact p2.elim
                | ok ys => rw [e4] at p2; simpa using p2
      · have hi : i = ds.length := by omega
        subst hi
        rw [List.drop_length] at p2
        refine .inl ⟨itm.1 _ (Nat.le_refl _), ?_⟩
        have p2 : PostE c .fr G S σ H Q (.ok (.lst (ac ++ []))) := p2
        rw [List.append_nil] at p2
        exact p2 _ G2 H2 (sp.trans sp2) ⟨Dl, _, rfl, hGD, hD0, hHD, .lst hr⟩
    · rw [if_neg hz] at p; exact p.elim
theorem d_lc {elt iter : Expr} {ifs : List Expr} {scope : Scope} (own : List (Str × Nat)) {ki gs : List Nat} {fi : FI} {ga : FG} {fe : FE} (hc : X.calm = true) (hN : X.N.Nodup) (hi : PI' X c ki tg iter fi) (ok : BlkOk X.N X.env.scope scope own)
    (hg : ∀ (s : Shared) (H : Hp) (C : Addr) (cl : List (Str × Addr)) (fp : List Addr), PG' (X.blk s H scope (compEnvC scope cl C X.env) fp) c.nx gs tg ga) (ht : ∀ (s : Shared) (H : Hp) (C : Addr) (cl : List (Str × Addr)) (fp : List Addr), PTs' (X.blk s H scope (compEnvC scope cl C X.env) fp) c.nx ifs t)
    (he : ∀ (s : Shared) (H : Hp) (C : Addr) (cl : List (Str × Addr)) (fp : List Addr), PE' (X.blk s H scope (compEnvC scope cl C X.env) fp) c.nx .st elt fe) (hgs : ∀ i, i ∈ gs → i ∈ own.map (·.2) := by decide) (hs : ∀ x, foldedSetIterable iter X.env x = pure x := by intro _; rfl) :
    PE' X c .fr (.ListComp elt [⟨tg, iter, ifs, 0⟩] scope pos) (lcE fi ga t fe (own.map (·.2))) :=
  peI (pe_lc hc hN hi ok hg ht he hs) fun σ H Q q => lc_go (fun _ _ _ _ z => z) (fun _ _ _ z => z) (fun _ _ _ z => z) hgs q
end
end M
set_option Elab.async false
set_option linter.all false
set_option maxRecDepth 100000
set_option maxHeartbeats 4000000
namespace M
open PySem L2
abbrev kdOf (fr : Bool) : Kd := if fr then .fr else .st
def PostF (k : Kn) (fr : Bool) (G0 H : Hp) (Q : VK) (E : XK) : R D → Prop
  | .ok d => ∀ v G' H', Step G0 H G' H' → Res k H G' H' d v (kdOf fr) → Q v H'
  | .exc x => PXs ⟨k, H, G0, liftX E⟩ x
  | .fail => False
def SpF (k : Kn) (fr : Bool) (n : Nat) (den : List D → R D) : Sp := fun vs H Q E => vs.length = n ∧ ∃ G0 ds, Ex G0 H ∧ RDs k G0 ds vs ∧ PostF k fr G0 H Q E (den ds)
def startS (n : Nat) (ds : List D) : Env := ds.map (fun d => some ⟨false, d⟩) ++ List.replicate (n - ds.length) none
def endF (fr : Bool) : R (Fl × Env) → R D
  | .ok (.rt d, _) => .ok d
  | .ok (.nx, _) => if fr then .fail else .ok .non
  | .ok _ => .fail
  | .exc x => .exc x
  | .fail => .fail
def runF (fr : Bool) (n : Nat) (s : FS) (ds : List D) : R D := endF fr (s (startS n ds))
theorem rel_start {c : Cf} {N : List Str} {ds : List D} {vs : List V} (e : Ex c.G0 c.H0) (r : RDs c.k c.G0 ds vs) : Rel c c.G0 (startS N.length ds) (L2.start N vs) c.H0 := by
  have own : ∀ (i : Nat) (d : D), (startS N.length ds)[i]? ≠ some (some ⟨true, d⟩) := fun i d q => by
    unfold startS at q
    rw [List.getElem?_append] at q
    split at q
    · rw [List.getElem?_map] at q
      cases h : ds[i]? <;> rw [h] at q <;> cases q
    · rw [List.getElem?_replicate] at q
      split at q <;> cases q
  refine ⟨Step.refl e, by simp [startS, L2.start, r.length], fun i d q => ?_, fun i d q => absurd q (own i d), fun i j a o => ?_⟩
  · unfold startS at q
    rw [List.getElem?_append] at q
    split at q
    · rename_i hlt
      rw [List.getElem?_map] at q
      cases h : ds[i]? with
      | none => rw [h] at q; cases q
      | some d' =>
        rw [h] at q; cases q
        obtain ⟨v, h1, h2⟩ := r.get h
        refine ⟨v, ?_, h2⟩
        unfold L2.start
        rw [List.getElem?_append_left (by rw [List.length_map]; exact (List.getElem?_eq_some_iff.mp h1).1), List.getElem?_map, h1]; rfl
    · rw [List.getElem?_replicate] at q
      split at q <;> cases q
  · obtain ⟨⟨d, q⟩, _⟩ := o
    exact absurd q (own i d)
theorem body_ok {k : Kn} {fr : Bool} {as : List Nat} {N : List Str} {X : Cx} {body : List Stmt} {s : FS} {H : Hp} {vs : List V} {Q : VK} {E : XK} {n : Nat} (hb : ∀ G0, PB' X ⟨k, H, G0, liftX E⟩ fr as body s) (q : SpF k fr n (runF fr N.length s) vs H Q E) :
    ∃ t, PSs X body t ∧ t { nx := fun _ H' => Q .non H', rt := Q } (L2.start N vs) H := by
  obtain ⟨hl, G0, ds, e, r, p⟩ := q
  refine ⟨_, hb G0, G0, _, rel_start (c := ⟨k, H, G0, liftX E⟩) e r, ?_⟩
  unfold runF at p
  cases e1 : s (startS N.length ds) with
  | exc x => rw [e1] at p; exact p
  | fail => rw [e1] at p; exact p.elim
  | ok z =>
    rw [e1] at p
    obtain ⟨fl, S1⟩ := z
    cases fl with
    | nx =>
      cases fr with
      | true => exact p.elim
      | false => exact fun G' σ' H' _ rel _ => p .non G' H' rel.st .non
    | bk => exact p.elim
    | ct => exact p.elim
    | rt d =>
      intro v G' H' st rv _
      refine p v G' H' st ?_
      cases fr with
      | true => exact rv
      | false => exact rv
section
variable {P : Program} {w : World} {K : PySem.W.Frag} {mg : Str → Option Value} {base : Heap}
theorem fn_ok {k : Kn} {fr : Bool} {as : List Nat} {x qual : Str} {params : Arguments} {body : List Stmt} {scope : Scope} {dvs : List V} {kws : List (Str × V)} {f : Addr} {fd : FuncData} {N ps : List Str} {lv : Nat} {s : FS} (F : FunD K x qual params body scope dvs kws f fd) (S : FnScope N ps scope)
    (hb : ∀ (cdv : Value) (A : Around) (outer : List PySem.Env) (sh : Shared) (H G0 : Hp), Room lv (A.deeper (PyProof.Rows.envOfC qual scope sh.heap.objs.size f cdv)) → PB' (cxOf CX0 P w K mg base N qual scope f cdv A outer sh H E0).nox ⟨k, H, G0, liftX E0⟩ fr as body s) :
    FnOk P w K mg base CX0 (lv + 1) f fd ps (SpF k fr ps.length (fun ds => (runF fr N.length s ds).nox)) := by
  refine F.ok S (fun vs H Q E q => q.1) fun cdv A outer sh H vs Q E hr q => ?_
  have q' : SpF k fr ps.length (runF fr N.length s) vs H Q E0 := by
    obtain ⟨hl, G0, ds, e, r, p⟩ := q
    refine ⟨hl, G0, ds, e, r, ?_⟩
    dsimp only at p
    cases e1 : runF fr N.length s ds with
    | ok d => rw [e1] at p; exact p
    | exc x => rw [e1] at p; exact p.elim
    | fail => rw [e1] at p; exact p.elim
  obtain ⟨t, h1, h2⟩ := body_ok (X := (cxOf CX0 P w K mg base N qual scope f cdv A outer sh H E0).nox) (fun G0 => hb cdv A outer sh H G0 hr) q'
  exact ⟨t, h1.nox, h2⟩
end
structure Fn0 (X : Cx) (k : Kn) (x : Str) (n : Nat) (fr : Bool) (den : List D → R D) : Prop where
  ex : ∃ (f : Addr) (fd : FuncData) (lv : Nat) (ps : List Str), ps.length = n ∧ FnOk X.prog X.w X.K X.mg X.base CX0 lv f fd ps (SpF k fr n den) ∧ Room lv X.A ∧ X.mg x = some (.ref f) ∧ PySem.W.keepIn X.K (.ref f) = true ∧ Binds X.K fd ps []
section
variable {X : Cx} {c : Cf} {kd k1 k2 k3 : Kd} {a b e : Expr} {pos : Pos} {fr : Bool} {den : List D → R D}
theorem call_go {n : Nat} {fa : FA} {σ : St} {H : Hp} {Q : VK} (hl : ∀ S ds, fa S = .ok ds → ds.length = n) (q : RdE c (kdOf fr) (eC den fa) σ H Q) : RdA c false fa σ H fun vs H1 => SpF c.k fr n den (vs ++ []) H1 Q E0 := by
  obtain ⟨G, S, rel, p⟩ := q
  have p : PostE c (kdOf fr) G S σ H Q (fa S >>= fun ds => (den ds).nox) := p
  refine ⟨G, S, rel, ?_⟩
  cases e0 : fa S with
  | exc x => rw [e0] at p; exact p
  | fail => rw [e0] at p; exact p
  | ok ds =>
    rw [e0] at p
    intro vs G1 H1 s1 q1
    have q1 : RDs c.k G1 ds vs := q1
    rw [List.append_nil]
    refine ⟨by rw [← q1.length]; exact hl S ds e0, G1, ds, s1.gh, q1, ?_⟩
    have p : PostE c (kdOf fr) G S σ H Q (den ds).nox := p
    cases e1 : den ds with
    | ok d => rw [e1] at p; exact fun v G' H' s2 r2 => p v G' H' (s1.trans s2) (r2.mono s1.h)
    | exc x => rw [e1] at p; exact p.elim
    | fail => rw [e1] at p; exact p.elim
def Len (n : Nat) (fa : FA) : Prop := ∀ S ds, fa S = .ok ds → ds.length = n
theorem len_n : Len 0 aN := fun S ds h => by cases h; rfl
theorem len_c {n : Nat} {f : FE} {fa : FA} (h : Len n fa) : Len (n + 1) (aC f fa) := fun S ds q => by
  unfold aC at q
  cases e1 : f S with
  | exc x => rw [e1] at q; cases q
  | fail => rw [e1] at q; cases q
  | ok d =>
    rw [e1] at q
    have q : (fa S >>= fun xs => R.ok (d :: xs)) = .ok ds := q
    cases e2 : fa S with
    | exc x => rw [e2] at q; cases q
    | fail => rw [e2] at q; cases q
    | ok xs => rw [e2] at q; cases q; simp [h S xs e2]
theorem d_call {x : Str} {n : Nat} {p : Pos} {es : List Expr} {fa : FA} (F : Fn0 X c.k x n fr den) (ha : PA' X c false (e :: es) fa) (hl : Len n fa) (hg : Gl X x := by rfl) (hdb : (x == ("__debug__" : Str)) = false := by decide)
    (hs : starEach (e :: es) X.env = (false, eval e X.env) :: starEach es X.env := by rfl) (hs2 : ((backTo pos (starEach es X.env)).any fun x => x.1) = false := by rfl) : PE' X c (kdOf fr) (.Call (.Name x p) (e :: es) [] pos) (eC den fa) := by
  obtain ⟨f, fd, lv, ps, hn, ok, hr, hm, hk, hb⟩ := F.ex
  exact peI (pe_call ok hr hg hm hk hb .nil pass0 ha hdb hs hs2) fun σ H Q q => call_go hl q
mutual
def D.noMut : D → Bool
  | .lst _ => false
  | .dic _ _ => false
  | .dit _ _ => false
  | .dkf _ _ => false
  | .dig _ _ => false
  | .tup xs => D.noMuts xs
  | .obj _ _ => false
  | .scr _ => false
  | _ => true
def D.noMuts : List D → Bool
  | [] => true
  | x :: xs => x.noMut && D.noMuts xs
end
noncomputable def cut (S : Env) (σ : St) (H : Hp) : Hp := fun b => open Classical in if ∃ i, OwnAt S σ i b then none else H b
theorem cut_get {S : Env} {σ : St} {H : Hp} {b : Addr} (h : ∀ i, ¬ OwnAt S σ i b) : cut S σ H b = H b := by
  unfold cut; rw [if_neg (fun ⟨i, q⟩ => h i q)]
theorem Cont.notup {k : Kn} {G : Hp} {d : D} {o : HO} (c : Cont k G d o) : (∀ vs, o ≠ .tup vs) ∧ (∀ q vs, o ≠ .frz q vs) := by
  cases c <;> exact ⟨fun _ z => (by cases z), fun _ _ z => (by cases z)⟩
mutual
theorem RD.cut {c : Cf} {G H H' : Hp} {S : Env} {σ : St} (rel : Rel c G S σ H) (e : Ex H H') : ∀ {d : D} {v : V}, RD c.k H' d v → d.noMut = true → RD c.k (M.cut S σ H') d v
  | _, _, .non, _ => .non
  | _, _, .bl b, _ => .bl b
  | _, _, .int b, _ => .int b
  | _, _, .str b, _ => .str b
  | _, _, .ty b, _ => .ty b
  | _, _, .cls b, _ => .cls b
  | _, _, .tup h r, q => by
    simp only [D.noMut] at q
    refine .tup ?_ (RDs.cut rel e r q)
    rcases h with h | h
    · refine .inl ?_
      rw [cut_get]; exact h
      intro i ow
      obtain ⟨_, _, o, d, ho, _, ct⟩ := rel.own ow
      have := e _ _ ho
      rw [h] at this; cases this
      exact ct.notup.1 _ rfl
    · exact .inr h
  | _, _, .scr _, q => by simp [D.noMut] at q
  | _, _, .lst _ _, q => by simp [D.noMut] at q
  | _, _, .dic _ _ _, q => by simp [D.noMut] at q
  | _, _, .dit _ _ _, q => by simp [D.noMut] at q
  | _, _, .dkf _ _ _, q => by simp [D.noMut] at q
  | _, _, .dig _ _ _ _, q => by simp [D.noMut] at q
  | _, _, .obj _ _ _, q => by simp [D.noMut] at q
theorem RDs.cut {c : Cf} {G H H' : Hp} {S : Env} {σ : St} (rel : Rel c G S σ H) (e : Ex H H') : ∀ {ds : List D} {vs : List V}, RDs c.k H' ds vs → D.noMuts ds = true → RDs c.k (M.cut S σ H') ds vs
  | _, _, .nil, _ => .nil
  | _, _, .cons a b, q => by
    simp only [D.noMuts, Bool.and_eq_true] at q
    exact .cons (RD.cut rel e a q.1) (RDs.cut rel e b q.2)
end
end
end M
set_option Elab.async false
set_option linter.all false
set_option maxRecDepth 100000
set_option maxHeartbeats 4000000
namespace M
open PySem L2
section
variable {X : Cx} {k : Kn}
theorem CallR.or {f : Value} {r r' : List V → Hp → VK → Prop} (h : CallR X f r) (h' : CallR X f r') : CallR X f (fun xs H Q => r xs H Q ∨ r' xs H Q) := fun pins s σ H xs us Q I rx q => by
  rcases q with q | q
  · exact h pins s σ H xs us Q I rx q
  · exact h' pins s σ H xs us Q I rx q
theorem cl1 {f : Value} {kd : Kd} {g : D → R D} {r : List V → Hp → VK → Prop} (h : CallR X f r) (q : ∀ G H x v d, Ex G H → Now k G H x v → g x = .ok d → ∀ Q : VK, (∀ w G' H', Step G H G' H' → Res k H G' H' d w kd → Q w H') → r [v] H Q) :
    ClR X k f kd (fun xs => match xs with | [x] => g x | _ => .fail) := by
  refine ⟨r, h, ?_⟩
  intro G H ds vs d e ns hg Q p
  cases ns with
  | nil => cases hg
  | cons n1 n2 =>
    cases n2 with
    | nil => exact q G H _ _ d e n1 hg Q p
    | cons _ _ => cases hg
theorem cl2 {f : Value} {kd : Kd} {g : D → D → R D} {r : List V → Hp → VK → Prop} (h : CallR X f r) (q : ∀ G H x v y u d, Ex G H → Now k G H x v → Now k G H y u → g x y = .ok d → ∀ Q : VK, (∀ w G' H', Step G H G' H' → Res k H G' H' d w kd → Q w H') → r [v, u] H Q) :
    ClR X k f kd (fun xs => match xs with | [x, y] => g x y | _ => .fail) := by
  refine ⟨r, h, ?_⟩
  intro G H ds vs d e ns hg Q p
  cases ns with
  | nil => cases hg
  | cons n1 n2 =>
    cases n2 with
    | nil => cases hg
    | cons n2 n3 =>
      cases n3 with
      | nil => exact q G H _ _ _ _ d e n1 n2 hg Q p
      | cons _ _ => cases hg
def f1 (g : D → R D) : List D → R D := fun xs => match xs with | [x] => g x | _ => .fail
def f2 (g : D → D → R D) : List D → R D := fun xs => match xs with | [x, y] => g x y | _ => .fail
def lenD : D → R D
  | .str x => if x.length ≤ sizeLine then .ok (.int x.length) else .fail
  | .lst xs => .ok (.int xs.length)
  | .tup xs => .ok (.int xs.length)
  | .scr ns => .ok (.int ns.length)
  | .dic ks _ => .ok (.int ks.length)
  | .dkf ks _ => .ok (.int ks.length)
  | _ => .fail
theorem call_lenFz : CallR X (.builtin "len") (fun xs H Q => ∃ a o kvs, xs = [V.ref a] ∧ H a = some (.frz o (.dK kvs)) ∧ Q (.int kvs.length) H) := by
  intro pins s σ H xs us Q I r h
  obtain ⟨a, o, kvs, rfl, ha, q⟩ := h
  obtain ⟨u, rfl, ru⟩ := vals1 r
  cases ru
  exact d_len I (.inr ⟨o, ha⟩) fun t s' I' => ⟨.int kvs.length, H, I', ⟨t, rfl⟩, q⟩
theorem c_len (hk : k.K = X.K) : ClR X k (.builtin "len") .st (f1 lenD) := cl1 ((call_len.or call_lenD).or call_lenFz) fun G H x v d e n hg Q p => by
  unfold lenD at hg
  split at hg
  · split at hg
    · rename_i hl
      cases hg; obtain rfl := n.str
      exact .inl (.inl ⟨_, _, rfl, ⟨hl, rfl⟩, p _ G H (Step.refl e) (.int _)⟩)
    · cases hg
  · cases hg; obtain ⟨a, vs, rfl, ha, r⟩ := n.lst e
    exact .inl (.inl ⟨_, _, rfl, .inl ⟨vs, SqL.of ha, rfl⟩, by rw [← r.length]; exact p _ G H (Step.refl e) (.int _)⟩)
  · cases hg; obtain ⟨a, vs, rfl, ha, r⟩ := n.tup
    exact .inl (.inl ⟨_, _, rfl, .inr ⟨vs, hk ▸ e.sqT ha.t, rfl⟩, by rw [← r.length]; exact p _ G H (Step.refl e) (.int _)⟩)
  · cases hg; obtain ⟨a, rfl, ha⟩ := n.scr
    exact .inl (.inl ⟨_, _, rfl, .inl ⟨_, hk ▸ e.sqL ha, rfl⟩, by rw [List.length_map]; exact p _ G H (Step.refl e) (.int _)⟩)
  · cases hg; obtain ⟨a, vs, rfl, ha, l, r⟩ := n.dic e
    refine .inl (.inr ⟨a, _, rfl, ha, ?_⟩)
    rw [List.length_zip, ← r.length, ← l, Nat.min_self]; exact p _ G H (Step.refl e) (.int _)
  · cases hg; obtain ⟨a, o, vs, rfl, ha, l, r⟩ := n.dkf e
    refine .inr ⟨a, o, _, rfl, ha, ?_⟩
    rw [List.length_zip, ← r.length, ← l, Nat.min_self]; exact p _ G H (Step.refl e) (.int _)
  · cases hg
def absD : D → R D
  | .int i => .ok (.int (if i < 0 then -i else i))
  | _ => .fail
theorem c_abs : ClR X k (.builtin "abs") .st (f1 absD) := cl1 call_abs fun G H x v d e n hg Q p => by
  cases x <;> simp only [absD] at hg <;> first | (cases hg; done) | skip
  cases hg; obtain rfl := n.int
  exact ⟨_, rfl, p _ G H (Step.refl e) (.int _)⟩
def intD : D → R D
  | .int i => .ok (.int i)
  | .bl b => .ok (.int (if b then 1 else 0))
  | _ => .fail
theorem c_int : ClR X k (.type "int") .st (f1 intD) := cl1 call_int1 fun G H x v d e n hg Q p => by
  cases x <;> simp only [intD] at hg <;> first | (cases hg; done) | skip
  · cases hg; obtain rfl := n.bl
    exact .inr ⟨_, rfl, p _ G H (Step.refl e) (.int _)⟩
  · cases hg; obtain rfl := n.int
    exact .inl ⟨_, rfl, p _ G H (Step.refl e) (.int _)⟩
def min2D : D → D → R D
  | .int i, .int j => .ok (.int (if j < i then j else i))
  | _, _ => .fail
theorem c_min2 (hc : X.calm = true) : ClR X k (.builtin "min") .st (f2 min2D) := cl2 (call_min2 hc) fun G H x v y u d e n m hg Q p => by
  unfold min2D at hg
  split at hg
  · cases hg; obtain rfl := n.int; obtain rfl := m.int
    exact ⟨_, _, rfl, p _ G H (Step.refl e) (.int _)⟩
  · cases hg
def asI : List D → Option (List Int)
  | [] => some []
  | .int i :: r => (asI r).map (i :: ·)
  | _ => none
def asB : List D → Option (List Bool)
  | [] => some []
  | .bl i :: r => (asB r).map (i :: ·)
  | _ => none
def asS : List D → Option (List Str)
  | [] => some []
  | .str i :: r => (asS r).map (i :: ·)
  | _ => none
theorem asI_of {G : Hp} : ∀ {ds : List D} {vs : List V} {ns : List Int}, RDs k G ds vs → asI ds = some ns → vs = ns.map V.int
  | _, _, ns, .nil, h => by cases h; rfl
  | _, _, ns, .cons a b, h => by
    cases a with
    | int i =>
      simp only [asI, Option.map_eq_some_iff] at h
      obtain ⟨r, h1, rfl⟩ := h
      rw [asI_of b h1]; rfl
    | _ => simp [asI] at h
theorem asB_of {G : Hp} : ∀ {ds : List D} {vs : List V} {ns : List Bool}, RDs k G ds vs → asB ds = some ns → vs = ns.map V.bl
  | _, _, ns, .nil, h => by cases h; rfl
  | _, _, ns, .cons a b, h => by
    cases a with
    | bl i =>
      simp only [asB, Option.map_eq_some_iff] at h
      obtain ⟨r, h1, rfl⟩ := h
      rw [asB_of b h1]; rfl
    | _ => simp [asB] at h
theorem asS_of {G : Hp} : ∀ {ds : List D} {vs : List V} {ns : List Str}, RDs k G ds vs → asS ds = some ns → vs = ns.map V.str
  | _, _, ns, .nil, h => by cases h; rfl
  | _, _, ns, .cons a b, h => by
    cases a with
    | str i =>
      simp only [asS, Option.map_eq_some_iff] at h
      obtain ⟨r, h1, rfl⟩ := h
      rw [asS_of b h1]; rfl
    | _ => simp [asS] at h
@[simp] theorem asI_map (ns : List Int) : asI (ns.map D.int) = some ns := by
  induction ns with
  | nil => rfl
  | cons n ns ih => simp [asI, ih]
@[simp] theorem asB_map (ns : List Bool) : asB (ns.map D.bl) = some ns := by
  induction ns with
  | nil => rfl
  | cons n ns ih => simp [asB, ih]
@[simp] theorem asS_map (ns : List Str) : asS (ns.map D.str) = some ns := by
  induction ns with
  | nil => rfl
  | cons n ns ih => simp [asS, ih]
def sumD : D → R D
  | .lst ds => match asI ds with | some ns => .ok (.int ns.sum) | none => .fail
  | _ => .fail
theorem c_sum (hc : X.calm = true) : ClR X k (.builtin "sum") .st (f1 sumD) := cl1 (cr_sum hc) fun G H x v d e n hg Q p => by
  cases x <;> simp only [sumD] at hg <;> first | (cases hg; done) | skip
  split at hg
  · rename_i ns hn
    cases hg; obtain ⟨a, vs, rfl, ha, r⟩ := n.lst e
    have := asI_of r hn; subst this
    exact ⟨a, ns, rfl, SqL.of ha, p _ G H (Step.refl e) (.int _)⟩
  · cases hg
def anyD : D → R D
  | .lst ds => match asB ds with | some ns => .ok (.bl (ns.any id)) | none => .fail
  | _ => .fail
theorem c_any (hc : X.calm = true) : ClR X k (.builtin "any") .st (f1 anyD) := cl1 (cr_any hc) fun G H x v d e n hg Q p => by
  cases x <;> simp only [anyD] at hg <;> first | (cases hg; done) | skip
  split at hg
  · rename_i ns hn
    cases hg; obtain ⟨a, vs, rfl, ha, r⟩ := n.lst e
    have := asB_of r hn; subst this
    exact ⟨a, ns, rfl, SqL.of ha, p _ G H (Step.refl e) (.bl _)⟩
  · cases hg
def allD : D → R D
  | .lst ds => match asB ds with | some ns => .ok (.bl (ns.all id)) | none => .fail
  | _ => .fail
theorem c_all (hc : X.calm = true) : ClR X k (.builtin "all") .st (f1 allD) := cl1 (cr_all hc) fun G H x v d e n hg Q p => by
  cases x <;> simp only [allD] at hg <;> first | (cases hg; done) | skip
  split at hg
  · rename_i ns hn
    cases hg; obtain ⟨a, vs, rfl, ha, r⟩ := n.lst e
    have := asB_of r hn; subst this
    exact ⟨a, ns, rfl, SqL.of ha, p _ G H (Step.refl e) (.bl _)⟩
  · cases hg
def maxL : List Int → Int
  | [] => 0
  | x :: r => r.foldl (fun a b => if b > a then b else a) x
theorem maxL_fold : ∀ (r : List Int) (x : Int), (∀ y, y ∈ x :: r → y ≤ r.foldl (fun a b => if b > a then b else a) x) ∧ r.foldl (fun a b => if b > a then b else a) x ∈ x :: r
  | [], x => by simp
  | y :: r, x => by
    simp only [List.foldl_cons]
    by_cases h : y > x
    · rw [if_pos h]
      obtain ⟨h1, h2⟩ := maxL_fold r y
      refine ⟨fun z hz => ?_, List.mem_cons_of_mem _ h2⟩
      rcases List.mem_cons.mp hz with rfl | hz
      · have := h1 y (by simp); omega
      · exact h1 z hz
    · rw [if_neg h]
      obtain ⟨h1, h2⟩ := maxL_fold r x
      refine ⟨fun z hz => ?_, ?_⟩
      · rcases List.mem_cons.mp hz with rfl | hz
        · exact h1 z (by simp)
        · rcases List.mem_cons.mp hz with rfl | hz
          · have := h1 x (by simp); omega
          · exact h1 z (by simp [hz])
      · rcases List.mem_cons.mp h2 with z | z
        · rw [z]; simp
        · exact List.mem_cons_of_mem _ (List.mem_cons_of_mem _ z)
def maxD : D → R D
  | .lst ds => match asI ds with | some (n :: ns) => .ok (.int (maxL (n :: ns))) | _ => .fail
  | _ => .fail
theorem c_max (hc : X.calm = true) : ClR X k (.builtin "max") .st (f1 maxD) := cl1 (cr_max hc) fun G H x v d e n hg Q p => by
  cases x <;> simp only [maxD] at hg <;> first | (cases hg; done) | skip
  split at hg
  · rename_i n0 ns hn
    cases hg; obtain ⟨a, vs, rfl, ha, r⟩ := n.lst e
    have := asI_of r hn; subst this
    refine ⟨a, n0 :: ns, rfl, SqL.of ha, by simp, fun m hm hle => ?_⟩
    have q := maxL_fold ns n0
    have : m = maxL (n0 :: ns) := Int.le_antisymm (q.1 m hm) (hle _ q.2)
    rw [this]; exact p _ G H (Step.refl e) (.int _)
  · cases hg
def tupD : D → R D
  | .lst ds => .ok (.tup ds)
  | .tup ds => .ok (.tup ds)
  | _ => .fail
theorem c_tup (hk : k.K = X.K) : ClR X k (.type "tuple") .st (f1 tupD) := cl1 call_tuple_of fun G H x v d e n hg Q p => by
  cases x <;> simp only [tupD] at hg <;> first | (cases hg; done) | skip
  · cases hg; obtain ⟨a, vs, rfl, ha, r⟩ := n.tup
    exact ⟨a, vs, rfl, .inr ⟨hk ▸ e.sqT ha.t, p _ G H (Step.refl e) (.tup ha r)⟩⟩
  · cases hg; obtain ⟨a, vs, rfl, ha, r⟩ := n.lst e
    exact ⟨a, vs, rfl, .inl ⟨SqL.of ha, fun l hl => p _ _ _ (Step.new e hl) (.tup (SqU.of upd_same) (r.mono (Ex.new (e.free hl))))⟩⟩
def lstD : D → R D
  | .lst ds => .ok (.lst ds)
  | .tup ds => .ok (.lst ds)
  | _ => .fail
def flatD : D → Bool
  | .non => true
  | .bl _ => true
  | .int _ => true
  | .str _ => true
  | _ => false
theorem RD.flat {G : Hp} {d : D} {v : V} (r : RD k G d v) (h : flatD d = true) : flatV v = true := by
  cases r <;> first | rfl | (simp [flatD] at h; done)
theorem RDs.flat {G : Hp} : ∀ {ds : List D} {vs : List V}, RDs k G ds vs → ds.all flatD = true → vs.all flatV = true
  | _, _, .nil, _ => rfl
  | _, _, .cons a b, h => by
    simp only [List.all_cons, Bool.and_eq_true] at h ⊢
    exact ⟨a.flat h.1, RDs.flat b h.2⟩
theorem RD.eqV {G : Hp} {d d' : D} {v v' : V} (r : RD k G d v) (r' : RD k G d' v') (h : flatD d = true) (h' : flatD d' = true) : L2.eqV v v' = deq d d' := by
  cases r <;> first | (simp [flatD] at h; done) | skip
  all_goals (cases r' <;> first | (simp [flatD] at h'; done) | (simp [L2.eqV, deq]; done))
theorem RDs.inV {G : Hp} {x : D} {u : V} (r : RD k G x u) (hx : flatD x = true) : ∀ {ds : List D} {vs : List V}, RDs k G ds vs → ds.all flatD = true → L2.inV u vs = ds.any fun z => deq z x
  | _, _, .nil, _ => rfl
  | _, _, .cons a b, h => by
    simp only [List.all_cons, Bool.and_eq_true] at h
    have ih := RDs.inV r hx b h.2
    simp only [L2.inV, List.any_cons] at ih ⊢
    rw [ih, a.eqV r h.1 hx]
theorem toPs_any (n : Nat) (x : D) (hx : dok n x = true) : ∀ {ds : List D} {m : Nat}, doks m ds = true → ((D.toPs ds).any fun z => PyData.eqv z x.toP) = ds.any fun z => deq z x
  | [], _, _ => by simp [D.toPs]
  | d :: ds, m, h => by
    simp only [doks, Bool.and_eq_true] at h
    simp only [D.toPs, List.any_cons]
    rw [toPs_any n x hx h.2, deq_eqv m n d x h.1 hx]
def signD : D → Str → Option Bool
  | .str a, z => match a.cps.toList with
    | [c] => some (decide (c ∈ z.cps.toList))
    | _ => none
  | _, _ => none
theorem signD_of {x : D} {z : Str} {b : Bool} (h : signD x z = some b) : ∃ c, x = .str ⟨#[c]⟩ ∧ b = decide (c ∈ z.cps.toList) := by
  cases x with
  | str a =>
    simp only [signD] at h
    split at h
    · rename_i c hc
      cases h
      obtain ⟨⟨l⟩⟩ := a
      cases hc
      exact ⟨c, rfl, rfl⟩
    · cases h
  | _ => simp [signD] at h
def inD' (x : D) : D → Option Bool
  | .lst ds => if flatD x && ds.all flatD then some (ds.any fun z => deq z x) else if dok 60 x && doks 59 ds then some (ds.any fun z => deq z x) else none
  | .tup ds => if flatD x && ds.all flatD then some (ds.any fun z => deq z x) else none
  | .str z => signD x z
  | _ => none
def inD (x y : D) : R D := match inD' x y with | some b => .ok (.bl b) | none => .fail
def notInD (x y : D) : R D := match inD' x y with | some b => .ok (.bl (!b)) | none => .fail
def rSign (neg : Bool) : R2 := fun x y H Q => ∃ (c : Nat) (z : Str), x = .str ⟨#[c]⟩ ∧ y = .str z ∧ Q (.bl (if neg = true then !decide (c ∈ z.cps.toList) else decide (c ∈ z.cps.toList))) H
theorem in_go {neg : Bool} (hk : k.K = X.K) {G H : Hp} {x y : D} {u v : V} {b : Bool} {Q : VK} (e : Ex G H) (nx : Now k G H x u) (ny : Now k G H y v) (hg : inD' x y = some b) (q : Q (.bl (if neg = true then !b else b)) H) :
    (rIn X.K neg u v H Q ∨ ∃ d ds, Dp X.K H u d ∧ Dp X.K H v (.list ds) ∧ SeqAt.shaped d = true ∧ SeqAt.shaped (.list ds) = true ∧ Q (.bl (if neg = true then !(ds.any fun z => PyData.eqv z d) else ds.any fun z => PyData.eqv z d)) H) ∨ rSign neg u v H Q := by
  cases y with
  | str z =>
    simp only [inD'] at hg
    obtain ⟨c, rfl, rfl⟩ := signD_of hg
    obtain rfl := nx.str
    obtain rfl := ny.str
    exact .inr ⟨c, z, rfl, rfl, q⟩
  | lst ds =>
    simp only [inD'] at hg
    obtain ⟨a, vs, rfl, ha, r⟩ := ny.lst e
    split at hg
    · rename_i hf
      simp only [Bool.and_eq_true] at hf
      cases hg
      have rx := nx.rd e
      have r' := r.mono e
      exact .inl <| .inl ⟨a, vs, rfl, .inl (SqL.of ha), rx.flat hf.1, r'.flat hf.2, by rw [RDs.inV rx hf.1 r' hf.2]; exact q⟩
    · split at hg
      · rename_i hf
        simp only [Bool.and_eq_true] at hf
        cases hg
        have hl : dok 60 (.lst ds) = true := by simp only [dok]; exact hf.2
        have ds' : SeqAt.shaped (.list (D.toPs ds)) = true := by
          have := dok_shaped hl
          simpa only [D.toP] using this
        exact .inl <| .inr ⟨x.toP, D.toPs ds, hk ▸ (nx.rd e).dp 60 hf.1, hk ▸ .lst (SqL.of ha) ((r.mono e).dp 59 hf.2), dok_shaped hf.1, ds', by rw [toPs_any 60 x hf.1 hf.2]; exact q⟩
      · cases hg
  | tup ds =>
    simp only [inD'] at hg
    obtain ⟨a, vs, rfl, ha, r⟩ := ny.tup
    split at hg
    · rename_i hf
      simp only [Bool.and_eq_true] at hf
      cases hg
      have rx := nx.rd e
      have r' := r.mono e
      exact .inl <| .inl ⟨a, vs, rfl, .inr (hk ▸ e.sqT ha.t), rx.flat hf.1, r'.flat hf.2, by rw [RDs.inV rx hf.1 r' hf.2]; exact q⟩
    · cases hg
  | _ => simp [inD'] at hg
theorem o_notin (hk : k.K = X.K) (hu : X.A.units + 65 < cLine) : Op2 X k (compareOp .NotIn) .st notInD := by
  refine ⟨_, (op_notIn_seq.or (op_notInD hu)).or op_notIn_sign, ?_⟩
  intro G H x y u v d e nx ny hg Q q
  unfold notInD at hg
  split at hg
  · rename_i b hb
    cases hg
    exact in_go (neg := true) hk e nx ny hb (q _ G H (Step.refl e) (.bl _))
  · cases hg
end
end M
set_option Elab.async false
set_option linter.all false
set_option maxRecDepth 100000
set_option maxHeartbeats 4000000
namespace M
open PySem L2
section
variable {X : Cx} {c : Cf} {kd k1 k2 k3 : Kd} {a b e : Expr} {f g h : FE} {pos apos cpos p' : Pos} {fr : Bool} {x : Str}
def ownL (i : Nat) (S : Env) : R (List D) := match S[i]? with
  | some (some ⟨true, .lst ds⟩) => .ok ds
  | _ => .fail
theorem ownL_of {i : Nat} {S : Env} {ds : List D} (h : ownL i S = .ok ds) : S[i]? = some (some ⟨true, .lst ds⟩) := by
  unfold ownL at h
  split at h
  · cases h; assumption
  · cases h
theorem ownL_exc {i : Nat} {S : Env} {x : Exc} : ownL i S ≠ .exc x := by unfold ownL; split <;> intro h <;> cases h
def sApp (i : Nat) (f : FE) : FS := fun S => ownL i S >>= fun ds => f S >>= fun d => if ds.length < sizeLine then .ok (.nx, S.set i (some ⟨true, .lst (ds ++ [d])⟩)) else .fail
theorem s_app (i : Nat) (he : PE' X c .st e f) (hN : X.N[i]? = some x := by rfl) (hv : Vis X.env.scope x := by first | exact Or.inl rfl | exact Or.inr (Or.inl rfl) | exact Or.inr (Or.inr rfl)) (hd : (x == ("__debug__" : Str)) = false := by decide)
    (hcd : (x == ("__classdict__" : Str)) = false := by decide) (h2 : (apos.endLine == cpos.line) = true := by rfl) (h3 : starEach [e] X.env = [(false, eval e X.env)] := by rfl) (hs : swapsWith (.Call (.Attribute (.Name x p') "append" apos) [e] [] cpos) none pos.line X.env = pure false := by rfl) :
    PS' X c fr [i + 1000] (.Expr (.Call (.Attribute (.Name x p') "append" apos) [e] [] cpos) pos) (sApp i f) :=
  psI (ps_expr (pe_bm PySem.F.plainAttrs_list PySem.F.slot_list_append PySem.F.type_list_append mt_append (pe_var hN hv hd hcd) (pa_cons he pa_nil h3) rfl (by rw [h3]; rfl) h2 h3 rfl) hs) fun Dn σ H ⟨G, S, rel, p⟩ => by
    have p : PostS c fr [i + 1000] G S σ H Dn (ownL i S >>= fun ds => f S >>= fun d => if ds.length < sizeLine then .ok (.nx, S.set i (some ⟨true, .lst (ds ++ [d])⟩)) else .fail) := p
    cases e0 : ownL i S with
    | exc x => exact absurd e0 ownL_exc
    | fail => rw [e0] at p; exact p.elim
    | ok ds =>
      rw [e0, R.ok_bind] at p
      have hS := ownL_of e0
      obtain ⟨l, o, es, hg, h0, ho, ct⟩ := rel.ow i _ hS
      cases ct with
      | @lst ds' vs r =>
        refine ⟨_, es, .inl ⟨rfl, vs, SqL.of ho⟩, ?_⟩
        refine rdE_go (g := fun d => if ds.length < sizeLine then .ok (Fl.nx, S.set i (some ⟨true, .lst (ds ++ [d])⟩)) else .fail) (Post := PostS c fr [i + 1000] G S σ H Dn) rel p (fun _ z => z _) (fun z => z) fun d v G' H' sp q p1 => ?_
        by_cases hl : ds.length < sizeLine
        · rw [if_pos hl] at p1
          have rel' := rel.grow sp
          have ow : OwnAt S σ i l := ⟨⟨_, hS⟩, es⟩
          refine ⟨l, vs, v, rfl, rfl, sp.h _ _ ho, by rw [← r.length]; exact hl, p1 G' σ _ sp.g (rel'.mut ow (.lst ((r.mono sp.g).append (.cons q .nil)))) ((Frm.step (as := []) rel sp).trans (Frm.mut rel' ow))⟩
        · rw [if_neg hl] at p1; exact p1.elim
def sExt (i : Nat) (f : FE) : FS := fun S => ownL i S >>= fun ds => f S >>= fun d => match d with
  | .lst es => if ds.length + es.length ≤ sizeLine then .ok (.nx, S.set i (some ⟨true, .lst (ds ++ es)⟩)) else .fail
  | _ => .fail
end
end M
set_option Elab.async false
set_option linter.all false
set_option maxRecDepth 100000
set_option maxHeartbeats 4000000
namespace M
open PySem L2
theorem zip_lookup : ∀ {nm : List Str} {vs : List V} {j : Nat} {f : Str} {v : V}, nm.Nodup → nm[j]? = some f → vs[j]? = some v → (nm.zip vs).lookup f = some v
  | [], _, j, _, _, _, h, _ => by simp at h
  | _ :: _, [], j, _, _, _, _, h => by simp at h
  | n :: nm, u :: vs, 0, f, v, _, h1, h2 => by
    simp at h1 h2; subst h1; subst h2; simp [List.lookup]
  | n :: nm, u :: vs, j + 1, f, v, hn, h1, h2 => by
    simp only [List.getElem?_cons_succ] at h1 h2
    have hne : f ≠ n := fun z => (List.nodup_cons.mp hn).1 (by rw [← z]; exact List.mem_of_getElem? h1)
    rw [List.zip_cons_cons, List.lookup_cons, beq_eq_false_iff_ne.mpr hne]
    exact zip_lookup (List.nodup_cons.mp hn).2 h1 h2
theorem zip_put : ∀ {nm : List Str} {vs : List V} {f : Str} {v : V}, nm.Nodup → nm[vs.length]? = some f → putF f v (nm.zip vs) = nm.zip (vs ++ [v])
  | [], vs, _, _, _, h => by simp at h
  | n :: nm, [], f, v, _, h => by
    simp at h; subst h
    simp [putF]
  | n :: nm, u :: vs, f, v, hn, h => by
    simp only [List.length_cons, List.getElem?_cons_succ] at h
    have hne : ¬ n = f := fun z => (List.nodup_cons.mp hn).1 (by rw [z]; exact List.mem_of_getElem? h)
    rw [List.zip_cons_cons, List.cons_append, List.zip_cons_cons, ← zip_put (List.nodup_cons.mp hn).2 h]
    simp only [putF]
    rw [if_neg hne]
structure ClsI (K : PySem.W.Frag) (k : Kn) (c : Nat) (nm : List Str) : Prop where
  ex : ∃ C, k.cl c = some (C, nm) ∧ Cls K C ∧ ∀ f, f ∈ nm → NoAttr K C f
  nd : nm.Nodup
  few : nm.length < 1000
section
variable {X : Cx} {c : Cf} {kd k1 k2 k3 : Kd} {a b e o : Expr} {f g h : FE} {pos apos cpos p' : Pos} {fr : Bool} {x : Str} {nm : List Str} {ci : Nat}
def fldD (ci j : Nat) : D → R D
  | .obj c ds => if c = ci then match ds[j]? with | some d => .ok d | none => .fail else .fail
  | _ => .fail
theorem d_fld (ci j : Nat) {fn : Str} (C : ClsI X.K c.k ci nm) (hj : nm[j]? = some fn) (he : PE' X c k1 o f) (hb : attributeBase o fn X.env (eval o X.env) = eval o X.env := by rfl) : PE' X c .st (.Attribute o fn pos) (e1 (fldD ci j) f) :=
  peI (pe_fld he hb) fun σ H Q q => e1_go (r := fun x H1 Q => ∃ a C dx fs v, x = .ref a ∧ H1 a = some (.ins C dx fs) ∧ Cls X.K C ∧ NoAttr X.K C fn ∧ fs.lookup fn = some v ∧ Q v H1) (fun G H d u r ex n hg Q p => by
    cases d with
    | obj c' ds =>
      simp only [fldD] at hg
      split at hg
      · rename_i hc
        subst hc
        split at hg
        · rename_i d' hd
          cases hg
          obtain ⟨ad, CA, dx, nm', vs, rfl, hcl, ha, hr⟩ := n.obj ex
          obtain ⟨CA', hcl', cl, na⟩ := C.ex
          rw [hcl] at hcl'; cases hcl'
          obtain ⟨v, hv, rv⟩ := hr.get hd
          exact ⟨ad, CA, dx, _, v, rfl, ha, cl, na _ (List.mem_of_getElem? hj), zip_lookup C.nd hj hv, p v G H (Step.refl ex) rv⟩
        · cases hg
      · cases hg
    | _ => simp [fldD] at hg) q
def ownO (ci i : Nat) (S : Env) : R (List D) := match S[i]? with
  | some (some ⟨true, .obj c ds⟩) => if c = ci then .ok ds else .fail
  | _ => .fail
theorem ownO_of {ci i : Nat} {S : Env} {ds : List D} (h : ownO ci i S = .ok ds) : S[i]? = some (some ⟨true, .obj ci ds⟩) := by
  unfold ownO at h
  split at h
  · split at h
    · rename_i hc; subst hc; cases h; assumption
    · cases h
  · cases h
theorem ownO_exc {ci i : Nat} {S : Env} {x : Exc} : ownO ci i S ≠ .exc x := by unfold ownO; split; split <;> intro h <;> cases h; intro h; cases h
def sFldN (ci i j : Nat) (f : FE) : FS := fun S => ownO ci i S >>= fun ds => f S >>= fun d => if ds.length = j then .ok (.nx, S.set i (some ⟨true, .obj ci (ds ++ [d])⟩)) else .fail
theorem s_fld (ci i j : Nat) {fn : Str} {px : Pos} (C : ClsI X.K c.k ci nm) (hj : nm[j]? = some fn) (he : PE' X c .st e f) (hN : X.N[i]? = some x := by rfl) (hv : Vis X.env.scope x := by first | exact Or.inl rfl | exact Or.inr (Or.inl rfl) | exact Or.inr (Or.inr rfl)) (hd : (x == ("__debug__" : Str)) = false := by decide)
    (hcd : (x == ("__classdict__" : Str)) = false := by decide) (hs : swapsWith e (some (.Attribute (.Name x px) fn p')) pos.line X.env = pure false := by rfl) : PS' X c fr [i + 1000] (.Assign [.Attribute (.Name x px) fn p'] e pos) (sFldN ci i j f) :=
  psI (ps_fld (pe_var hN hv hd hcd) he hs) fun Dn σ H ⟨G, S, rel, p⟩ => by
    have p : PostS c fr [i + 1000] G S σ H Dn (ownO ci i S >>= fun ds => f S >>= fun d => if ds.length = j then .ok (.nx, S.set i (some ⟨true, .obj ci (ds ++ [d])⟩)) else .fail) := p
    cases e0 : ownO ci i S with
    | exc x => exact absurd e0 ownO_exc
    | fail => rw [e0] at p; exact p.elim
    | ok ds =>
      rw [e0, R.ok_bind] at p
      have hS := ownO_of e0
      obtain ⟨l, ob, es, hg, h0, ho, ct⟩ := rel.ow i _ hS
      have ow : OwnAt S σ i l := ⟨⟨_, hS⟩, es⟩
      cases ct with
      | @obj _ _ CA dx nm' vs hcl hr =>
        obtain ⟨CA', hcl', cl, na⟩ := C.ex
        rw [hcl] at hcl'; cases hcl'
        refine rdE_go (g := fun d => if ds.length = j then .ok (Fl.nx, S.set i (some ⟨true, .obj ci (ds ++ [d])⟩)) else .fail) (Post := PostS c fr [i + 1000] G S σ H Dn) rel p (fun _ z => z _) (fun z => z) fun d v G1 H1 s1 q1 p1 => ?_
        by_cases hl : ds.length = j
        · rw [if_pos hl] at p1
          have rel' := rel.grow s1
          have hl2 : vs.length = j := by rw [← hr.length]; exact hl
          refine ⟨_, es, l, CA, dx, _, rfl, s1.h _ _ ho, cl, na _ (List.mem_of_getElem? hj), ?_, ?_⟩
          · rw [List.length_zip]; exact Nat.lt_of_le_of_lt (Nat.min_le_left _ _) C.few
          · rw [zip_put C.nd (by rw [hl2]; exact hj)]
            exact p1 G1 σ _ s1.g (rel'.mut ow (.obj hcl ((hr.mono s1.g).append (.cons q1 .nil)))) ((Frm.step (as := []) rel s1).trans (Frm.mut rel' ow))
        · rw [if_neg hl] at p1; exact p1.elim
end
noncomputable def less (H : Hp) (x : Addr) : Hp := fun b => open Classical in if b = x then none else H b
def PostN (k : Kn) (x : Addr) (G0 H : Hp) (Q : VK) (E : XK) : R D → Prop
  | .ok d => ∀ G' H' o, Ex G0 G' → (∀ b u, b ≠ x → H b = some u → H' b = some u) → Ex G' H' → G' x = none → (∀ b u, G' b = some u → G0 b = some u ∨ H b = none) → H' x = some o → Cont k G' d o → Q .non H'
  | .exc e => PXs ⟨k, less H x, G0, liftX E⟩ e
  | .fail => False
def SpN (k : Kn) (ci n : Nat) (den : List D → R D) : Sp := fun vs H Q E => vs.length = n ∧ ∃ x rest G0 ds C dx nm, vs = .ref x :: rest ∧ k.cl ci = some (C, nm) ∧ H x = some (.ins C dx []) ∧ G0 x = none ∧ Ex G0 H ∧ RDs k G0 ds rest ∧ PostN k x G0 H Q E (den ds)
def startN (n ci : Nat) (ds : List D) : Env := some ⟨true, .obj ci []⟩ :: (ds.map (fun d => some ⟨false, d⟩) ++ List.replicate (n - (ds.length + 1)) none)
def endN : R (Fl × Env) → R D
  | .ok (.nx, S) => match (S[(0 : Nat)]? : Option (Option Sl)) with
    | some (some ⟨true, d⟩) => .ok d
    | _ => .fail
  | .ok _ => .fail
  | .exc x => .exc x
  | .fail => .fail
def runN (n ci : Nat) (s : FS) (ds : List D) : R D := endN (s (startN n ci ds))
theorem less_self {H : Hp} {x : Addr} : less H x x = none := by unfold less; rw [if_pos rfl]
theorem less_ne {H : Hp} {x b : Addr} (h : b ≠ x) : less H x b = H b := by unfold less; rw [if_neg h]
theorem less_ex {H : Hp} {x : Addr} : Ex (less H x) H := fun b o h => by
  by_cases hb : b = x
  · subst hb; rw [less_self] at h; cases h
  · rw [less_ne hb] at h; exact h
theorem rel_startN {k : Kn} {E : XK} {H G0 : Hp} {N : List Str} {x C dx : Addr} {nm : List Str} {ci : Nat} {ds : List D} {rest : List V} (hcl : k.cl ci = some (C, nm)) (hx : H x = some (.ins C dx [])) (hg : G0 x = none) (e : Ex G0 H) (r : RDs k G0 ds rest) :
    Rel ⟨k, less H x, G0, liftX E⟩ G0 (startN N.length ci ds) (L2.start N (.ref x :: rest)) H := by
  have own : ∀ (i : Nat) (d : D), (startN N.length ci ds)[i]? = some (some ⟨true, d⟩) → i = 0 ∧ d = .obj ci [] := fun i d q => by
    unfold startN at q
    cases i with
    | zero => simp at q; exact ⟨rfl, q.symm⟩
    | succ i =>
      rw [List.getElem?_cons_succ, List.getElem?_append] at q
      split at q
      · rw [List.getElem?_map] at q
        cases h : ds[i]? <;> rw [h] at q <;> cases q
      · rw [List.getElem?_replicate] at q
        split at q <;> cases q
  have e0 : Ex G0 (less H x) := fun b o h => by rw [less_ne (ne_of_none h hg)]; exact e b o h
  refine ⟨⟨Ex.refl _, less_ex, e, fun _ _ h => .inl h⟩, by simp [startN, L2.start, r.length], fun i d q => ?_, fun i d q => ?_, fun i j a o1 o2 => ?_⟩
  · unfold startN at q
    cases i with
    | zero => simp at q
    | succ i =>
      rw [List.getElem?_cons_succ, List.getElem?_append] at q
      split at q
      · rw [List.getElem?_map] at q
        cases h : ds[i]? with
        | none => rw [h] at q; cases q
        | some d' =>
          rw [h] at q; cases q
          obtain ⟨v, h1, h2⟩ := r.get h
          refine ⟨v, ?_, h2⟩
          unfold L2.start
          rw [List.map_cons, List.cons_append, List.getElem?_cons_succ, List.getElem?_append_left (by rw [List.length_map]; exact (List.getElem?_eq_some_iff.mp h1).1), List.getElem?_map, h1]; rfl
      · rw [List.getElem?_replicate] at q
        split at q <;> cases q
  · obtain ⟨rfl, rfl⟩ := own i d q
    refine ⟨x, _, by simp [L2.start], hg, less_self, hx, ?_⟩
    have z : Cont k G0 (.obj ci []) (.ins C dx (nm.zip [])) := .obj hcl .nil
    rw [List.zip_nil_right] at z; exact z
  · obtain ⟨⟨d1, q1⟩, _⟩ := o1
    obtain ⟨⟨d2, q2⟩, _⟩ := o2
    rw [(own i d1 q1).1, (own j d2 q2).1]
theorem body_init {k : Kn} {as : List Nat} {N : List Str} {X : Cx} {body : List Stmt} {s : FS} {H : Hp} {vs : List V} {Q : VK} {E : XK} {n ci : Nat} (h0 : 0 ∉ as) (hb : ∀ H0 G0, PB' X ⟨k, H0, G0, liftX E⟩ false as body s) (q : SpN k ci n (runN N.length ci s) vs H Q E) :
    ∃ t, PSs X body t ∧ t { nx := fun _ H' => Q .non H', rt := Q } (L2.start N vs) H := by
  obtain ⟨hl, x, rest, G0, ds, C, dx, nm, rfl, hcl, hx, hg, e, r, p⟩ := q
  refine ⟨_, hb (less H x) G0, G0, _, rel_startN hcl hx hg e r, ?_⟩
  unfold runN at p
  cases e1 : s (startN N.length ci ds) with
  | exc y =>
    rw [e1] at p
    exact p
  | fail => rw [e1] at p; exact p.elim
  | ok z =>
    rw [e1] at p
    obtain ⟨fl, S1⟩ := z
    cases fl with
    | nx =>
      intro G' σ' H' ex rel fm
      have p : PostN k x G0 H Q E (match (S1[(0 : Nat)]? : Option (Option Sl)) with
        | some (some ⟨true, d⟩) => .ok d
        | _ => .fail) := p
      split at p
      · rename_i d hd
        obtain ⟨a, o, es, hg', h0', ho, ct⟩ := rel.ow 0 d hd
        have : σ'[0]? = some (some (.ref x)) := by rw [fm.sg 0 h0]; simp [L2.start]
        rw [this] at es; cases es
        refine p G' H' o ex (fun b u hb q => rel.st.h b u (by show less H x b = some u; rw [less_ne hb]; exact q)) rel.st.gh hg' (fun b u q => ?_) ho ct
        rcases rel.st.gr b u q with z | z
        · exact .inl z
        · by_cases hb : b = x
          · subst hb; rw [hg'] at q; cases q
          · exact .inr (by rw [← less_ne (H := H) hb]; exact z)
      · exact p.elim
    | bk => exact p.elim
    | ct => exact p.elim
    | rt d => exact p.elim
section
variable {P : Program} {w : World} {K : PySem.W.Frag} {mg : Str → Option Value} {base : Heap}
end
structure Mk0 (X : Cx) (k : Kn) (x : Str) (ci n : Nat) (den : List D → R D) : Prop where
  ex : ∃ (C f : Addr) (fd : FuncData) (lv : Nat) (ps : List Str) (nm : List Str), ps.length = n ∧ k.cl ci = some (C, nm) ∧ Mk X.K C f ∧ FnOk X.prog X.w X.K X.mg X.base CX0 lv f fd ps (SpN k ci n den) ∧ Room (lv + 1) X.A ∧ X.mg x = some (.ref C) ∧ Binds X.K fd ps []
section
variable {X : Cx} {c : Cf} {kd k1 k2 k3 : Kd} {a b e : Expr} {pos : Pos} {den : List D → R D} {ci : Nat}
end
end M
set_option Elab.async false
set_option linter.all false
set_option maxRecDepth 100000
set_option maxHeartbeats 4000000
namespace M
open PySem L2
section
variable {X : Cx} {k : Kn} {c : Cf} {kd k1 k2 k3 : Kd} {a b e o : Expr} {f g h : FE} {pos apos cpos p' : Pos} {fr : Bool}
theorem DpAll.zip {K : PySem.W.Frag} {H : Hp} : ∀ {xs : List V} {ds : List PyData}, DpAll K H xs ds → ∀ {us : List Value}, Vals xs us → PySem.W.EachIs (fun (u : Value) (b : V × PyData) => RelV b.1 u ∧ Dp K H b.1 b.2) us (xs.zip ds)
  | _, _, .nil, _, .nil => .nil
  | _, _, .cons a b, _, .cons r t => .cons ⟨r, a⟩ (DpAll.zip b t)
theorem EachIs.imp {α β : Type} {R R' : α → β → Prop} (h : ∀ a b, R a b → R' a b) : ∀ {as : List α} {bs : List β}, PySem.W.EachIs R as bs → PySem.W.EachIs R' as bs
  | _, _, .nil => .nil
  | _, _, .cons a b => .cons (h _ _ a) (EachIs.imp h b)
theorem each_vals : ∀ {us : List Value} {bs : List (V × PyData)}, PySem.W.EachIs (fun u b => RelV b.1 u) us bs → Vals (bs.map (·.1)) us
  | _, _, .nil => .nil
  | _, _, .cons a b => .cons a (each_vals b)
theorem DpAll.length {K : PySem.W.Frag} {H : Hp} : ∀ {xs : List V} {ds : List PyData}, DpAll K H xs ds → xs.length = ds.length
  | _, _, .nil => rfl
  | _, _, .cons _ b => by simp [DpAll.length b]
def rSrt (X : Cx) : List V → Hp → VK → Prop := fun vs H Q => ∃ a xs ds, vs = [V.ref a] ∧ SqL X.K H a xs ∧ DpAll X.K H xs ds ∧ PySem.W.AllAlike ds ∧ PySem.W.Sortable ds ∧ (∀ d, d ∈ ds → d.depth ≤ 60) ∧
  ∀ p, H p = none → Q (.ref p) (upd H p (.lst (((xs.zip ds).mergeSort (PySem.W.dataLe false (·.2))).map (·.1))))
theorem cr_srt (hu : X.A.units + 64 < cLine) : CallR X (.builtin "sorted") (rSrt X) := by
  intro pins s σ H vs us Q I r h
  obtain ⟨a, xs, ds, rfl, hs, hd, hal, hso, hdp, q⟩ := h
  obtain ⟨u, rfl, ru⟩ := vals1 r
  cases ru
  obtain ⟨its, rv, pl, hz⟩ := I.list hs
  have hlen := DpAll.length hd
  have hm : (xs.zip ds).map (·.2) = ds := by rw [List.map_snd_zip]; omega
  have ea := DpAll.zip hd rv
  refine PySem.W.sorted_data (enc := fun (b : V × PyData) => b.2) (R := fun u (b : V × PyData) => RelV b.1 u) (bs := xs.zip ds) pl.isList (EachIs.imp (fun _ _ z => z.1) ea) (EachIs.imp (fun u b z => Dp.reads I b.2 b.1 u z.2 z.1) ea) (by rw [hm]; exact hal) (by rw [hm]; exact hso) (by rw [List.length_zip]; omega) ?_ ?_
  · intro b hb
    have : b.2 ∈ ds := by rw [← hm]; exact List.mem_map.mpr ⟨b, hb, rfl⟩
    have := hdp _ this
    omega
  · intro out ho eo
    obtain ⟨m, F⟩ := I.fr
    obtain ⟨cn, _, N, _, kp⟩ := PySem.W.sorted_news (news := []) F (fun p hp => nomatch hp) its out
    have hobj := (N _ List.mem_cons_self).1
    have hv := each_vals eo
    refine ⟨.ref (s.heap.objs.size + 1), _, I.laid (a := s.heap.objs.size + 1) (t' := s.toks) (o := .lst _) kp (Nat.le_succ _) ⟨?_, out, cn, hv, hobj⟩, rfl, q _ (I.hok.fresh (Nat.le_succ _))⟩
    rw [List.length_map, List.length_mergeSort, List.length_zip]; omega
end
def dlt (x y : D) : Bool := PySem.W.dataLt x.toP y.toP
def dle (x y : D) : Bool := !dlt y x
mutual
def alikeD : D → D → Bool
  | .non, .non => true
  | .bl _, .bl _ => true
  | .int _, .int _ => true
  | .str _, .str _ => true
  | .lst xs, .lst ys => alikeDs xs ys
  | .tup xs, .tup ys => alikeDs xs ys
  | _, _ => false
def alikeDs : List D → List D → Bool
  | x :: xs, y :: ys => alikeD x y && alikeDs xs ys
  | [], _ => true
  | _ :: _, [] => true
end
mutual
theorem alikeD_of : ∀ (x y : D), alikeD x y = true → PySem.W.alike x.toP y.toP = true
  | .non, y, h => by cases y <;> first | (simp [D.toP, PySem.W.alike]; done) | (simp [alikeD] at h; done)
  | .bl _, y, h => by cases y <;> first | (simp [D.toP, PySem.W.alike]; done) | (simp [alikeD] at h; done)
  | .int _, y, h => by cases y <;> first | (simp [D.toP, PySem.W.alike]; done) | (simp [alikeD] at h; done)
  | .str _, y, h => by cases y <;> first | (simp [D.toP, PySem.W.alike]; done) | (simp [alikeD] at h; done)
  | .lst xs, y, h => by
    cases y with
    | lst ys => simp only [alikeD] at h; simp only [D.toP, PySem.W.alike]; exact alikeDs_of xs ys h
    | _ => simp [alikeD] at h
  | .tup xs, y, h => by
    cases y with
    | tup ys => simp only [alikeD] at h; simp only [D.toP, PySem.W.alike]; exact alikeDs_of xs ys h
    | _ => simp [alikeD] at h
  | .ty _, _, h => by simp [alikeD] at h
  | .dic _ _, _, h => by simp [alikeD] at h
  | .dit _ _, _, h => by simp [alikeD] at h
  | .dkf _ _, _, h => by simp [alikeD] at h
  | .dig _ _, _, h => by simp [alikeD] at h
  | .obj _ _, _, h => by simp [alikeD] at h
  | .scr _, _, h => by simp [alikeD] at h
  | .cls _, _, h => by simp [alikeD] at h
theorem alikeDs_of : ∀ (xs ys : List D), alikeDs xs ys = true → PySem.W.alikeAll (D.toPs xs) (D.toPs ys) = true
  | [], _, _ => by simp [D.toPs, PySem.W.alikeAll]
  | _ :: _, [], _ => by simp [D.toPs, PySem.W.alikeAll]
  | x :: xs, y :: ys, h => by
    simp only [alikeDs, Bool.and_eq_true] at h
    simp only [D.toPs, PySem.W.alikeAll, Bool.and_eq_true]
    exact ⟨alikeD_of x y h.1, alikeDs_of xs ys h.2⟩
end
def srtItem : D → Bool
  | .non => false
  | .tup [] => false
  | _ => true
def srtOk (ds : List D) : Bool := doks 59 ds && ds.all (fun x => ds.all fun y => alikeD x y) && ds.all srtItem
def srt (ds : List D) : List D := ds.mergeSort dle
theorem toPs_mem : ∀ {ds : List D} {p : PyData}, p ∈ D.toPs ds → ∃ d, d ∈ ds ∧ d.toP = p
  | [], _, h => by simp [D.toPs] at h
  | d :: ds, p, h => by
    simp only [D.toPs, List.mem_cons] at h
    rcases h with h | h
    · exact ⟨d, by simp, h.symm⟩
    · obtain ⟨d', h1, h2⟩ := toPs_mem h; exact ⟨d', by simp [h1], h2⟩
theorem doks_mem {n : Nat} : ∀ {ds : List D} {d : D}, doks n ds = true → d ∈ ds → dok n d = true
  | [], _, _, h => by simp at h
  | x :: ds, d, h, hm => by
    simp only [doks, Bool.and_eq_true] at h
    rcases List.mem_cons.mp hm with rfl | hm
    · exact h.1
    · exact doks_mem h.2 hm
theorem srt_sortable {ds : List D} (h : srtOk ds = true) : PySem.W.Sortable (D.toPs ds) := by
  unfold srtOk at h
  simp only [Bool.and_eq_true, List.all_eq_true] at h
  obtain ⟨⟨h1, h2⟩, h3⟩ := h
  cases ds with
  | nil => exact .inl fun d hd => by simp [D.toPs] at hd
  | cons d0 ds =>
    cases d0 with
    | tup xs =>
      refine .inl fun p hp => ?_
      obtain ⟨d, hd, rfl⟩ := toPs_mem hp
      have ha := h2 _ (List.mem_cons_self) d hd
      cases d with
      | tup ys =>
        have := h3 _ hd
        cases ys with
        | nil => simp [srtItem] at this
        | cons y ys => exact ⟨y.toP, D.toPs ys, by simp [D.toP, D.toPs]⟩
      | _ => simp [alikeD] at ha
    | _ =>
      refine .inr fun p hp => ?_
      obtain ⟨d, hd, rfl⟩ := toPs_mem hp
      have ha := h2 _ (List.mem_cons_self) d hd
      have hi := h3 _ hd
      cases d <;> first | (simp [alikeD] at ha; done) | (simp [srtItem] at hi; done) | (simp [D.toP]; done)
section
variable {X : Cx} {k : Kn}
theorem RDs.srt {G : Hp} {ds : List D} {vs : List V} (r : RDs k G ds vs) : RDs k G (M.srt ds) (((vs.zip (D.toPs ds)).mergeSort (PySem.W.dataLe false (·.2))).map (·.1)) := by
  have key : ∀ (bs : List (D × V)), (∀ b, b ∈ bs → RD k G b.1 b.2) → RDs k G (bs.map (·.1)) (bs.map (·.2)) := fun bs => by
    induction bs with
    | nil => intro _; exact .nil
    | cons b bs ih => intro h; exact .cons (h b (by simp)) (ih fun x hx => h x (by simp [hx]))
  have hl := r.length
  have z1 : (ds.zip vs).map (·.1) = ds := by rw [List.map_fst_zip]; omega
  have z2 : vs.zip (D.toPs ds) = (ds.zip vs).map fun b => (b.2, b.1.toP) := by
    clear r z1
    induction ds generalizing vs with
    | nil => cases vs <;> simp [D.toPs]
    | cons d ds ih =>
      cases vs with
      | nil => simp at hl
      | cons v vs => simp only [D.toPs, List.zip_cons_cons, List.map_cons]; rw [ih (by simpa using hl)]
  have e1 : M.srt ds = ((ds.zip vs).mergeSort fun a b => dle a.1 b.1).map (·.1) := by
    unfold M.srt
    rw [List.map_mergeSort (s := dle) (fun _ _ _ _ => rfl), z1]
  have e2 : ((vs.zip (D.toPs ds)).mergeSort (PySem.W.dataLe false (·.2))).map (·.1) = ((ds.zip vs).mergeSort fun a b => dle a.1 b.1).map (·.2) := by
    rw [z2, ← List.map_mergeSort (r := fun a b => dle a.1 b.1) (f := fun (b : D × V) => (b.2, b.1.toP)) (fun a _ b _ => by rw [PySem.W.dataLe_eq]; rfl), List.map_map]
    rfl
  rw [e1, e2]
  refine key _ fun b hb => ?_
  have hb : b ∈ ds.zip vs := List.mem_mergeSort.mp hb
  have : ∀ {ds : List D} {vs : List V}, RDs k G ds vs → ∀ b, b ∈ ds.zip vs → RD k G b.1 b.2 := fun {ds vs} r => by
    intro b hb
    obtain ⟨i, hi, rfl⟩ := List.mem_iff_getElem.mp hb
    rw [List.getElem_zip]
    have h1 : i < ds.length := by rw [List.length_zip] at hi; omega
    obtain ⟨v, hv, rv⟩ := r.get (List.getElem?_eq_getElem h1)
    have h2 : i < vs.length := by rw [List.length_zip] at hi; omega
    rw [List.getElem?_eq_getElem h2] at hv; cases hv
    exact rv
  exact this r b hb
end
end M
set_option Elab.async false
set_option linter.all false
set_option maxRecDepth 100000
set_option maxHeartbeats 4000000
namespace M
open PySem L2
theorem _root_.L2.Room.units5 {k : Nat} {A : Around} (r : Room k A) : A.units + 65 < cLine := by have := r.un; omega
structure Callee (P : Program) (w : World) (K : PySem.W.Frag) (mg : Str → Option Value) (base : Heap) (k : Kn) (lv : Nat) (x : Str) (n : Nat) (fr : Bool) (den : List D → R D) : Prop where
  ex : ∃ (f : Addr) (fd : FuncData) (ps : List Str), ps.length = n ∧ FnOk P w K mg base CX0 lv f fd ps (SpF k fr n den) ∧ mg x = some (.ref f) ∧ PySem.W.keepIn K (.ref f) = true ∧ Binds K fd ps []
theorem Callee.at {X : Cx} {k : Kn} {lv m : Nat} {x : Str} {n : Nat} {fr : Bool} {den : List D → R D} (h : Callee X.prog X.w X.K X.mg X.base k lv x n fr den) (hr : Room m X.A) (hle : lv ≤ m) : Fn0 X k x n fr den := by
  obtain ⟨f, fd, ps, hn, h1, h2, h3, h4⟩ := h.ex
  exact ⟨f, fd, lv, ps, hn, h1, hr.mono hle, h2, h3, h4⟩
structure Gc (mg : Str → Option Value) (k : Kn) (x : Str) (d : D) : Prop where
  ex : ∃ v u, mg x = some u ∧ RelV v u ∧ ∀ G, RD k G d v
section
variable {X : Cx} {c : Cf} {k : Kn} {kd k1 k2 k3 : Kd} {a b e o : Expr} {f g h : FE} {pos apos cpos p' : Pos} {fr : Bool} {x y : Str}
def eG (d : D) : FE := fun _ => .ok d
theorem d_g {d : D} (h : Gc X.mg c.k x d) (hg : Gl X x := by rfl) (hd : (x == ("__debug__" : Str)) = false := by decide) : PE' X c .st (.Name x pos) (eG d) := by
  obtain ⟨v, u, hm, r, rd⟩ := h.ex
  exact cst_of (pe_glob hg hm r hd) rd
def eY (n : String) : FE := fun _ => .ok (.ty n)
theorem d_ty (n : String) (hm : X.mg x = none) (hv : bootBuiltins x = some (.type n) := by decide +kernel) (hg : Gl X x := by rfl) (hn : x ≠ "__name__" := by decide) (hd : (x == ("__debug__" : Str)) = false := by decide) : PE' X c .st (.Name x pos) (eY n) :=
  cst_of (pe_bltn (v := .ty n) hg hm hv rfl hn hd) fun _ => .ty n
def tyN : D → Option String
  | .non => some "NoneType"
  | .bl _ => some "bool"
  | .int _ => some "int"
  | .str _ => some "str"
  | .tup _ => some "tuple"
  | .lst _ => some "list"
  | .dic _ _ => some "dict"
  | .dit _ _ => some "dict"
  | .dkf _ _ => some "dict"
  | _ => none
def isiD : D → D → R D
  | x, .ty b => (match tyN x with
    | some a => (match kitB a b with
      | some r => .ok (.bl r)
      | none => .fail)
    | none => .fail)
  | _, _ => .fail
theorem SlR.or {r r' : V → Option Int → Option Int → Hp → VK → Prop} (h : SlR X r) (h' : SlR X r') : SlR X (fun x l u H Q => r x l u H Q ∨ r' x l u H Q) := fun pins s σ H x v vl vu lo hi sl Q I rx hs h1 h2 q => by
  rcases q with q | q
  · exact h pins s σ H x v vl vu lo hi sl Q I rx hs h1 h2 q
  · exact h' pins s σ H x v vl vu lo hi sl Q I rx hs h1 h2 q
abbrev FO := Env → R (Option Int)
def PostO (c : Cf) (G : Hp) (S : Env) (σ : St) (H : Hp) (Q : Option Int → Hp → Prop) : R (Option Int) → Prop
  | .ok b => ∀ G' H', Step G H G' H' → Q b H'
  | .exc x => PX c σ x
  | .fail => False
def RdO (c : Cf) (f : FO) : TO := fun σ H Q => ∃ G S, Rel c G S σ H ∧ PostO c G S σ H Q (f S)
abbrev PO' (X : Cx) (c : Cf) (e : Option Expr) (f : FO) : Prop := PO X e (RdO c f)
def oN : FO := fun _ => .ok none
def toI : D → R (Option Int)
  | .int i => .ok (some i)
  | _ => .fail
def oS (f : FE) : FO := fun S => f S >>= toI
theorem d_on : PO' X c none oN := poI po_none fun σ H Q ⟨G, S, rel, p⟩ => p G H (Step.refl rel.st.gh)
theorem d_os (he : PE' X c k1 e f) : PO' X c (some e) (oS f) := poI (po_some he) fun σ H Q ⟨G, S, rel, p⟩ => by
  refine rdE_go (g := toI) (Post := PostO c G S σ H Q) rel p (fun _ z => z) (fun z => z) fun d v G' H' s q p1 => ?_
  cases d with
  | int i => exact ⟨i, q.now.int, p1 G' H' s⟩
  | _ => exact p1.elim
def cutL {α : Type} (xs : List α) (lo hi : Option Int) : List α := List.take (HT.sIx xs.length xs.length hi - HT.sIx xs.length 0 lo) (List.drop (HT.sIx xs.length 0 lo) xs)
def slD (x : D) (lo hi : Option Int) : R D := match x with
  | .lst xs => .ok (.lst (cutL xs lo hi))
  | .tup xs => .ok (.tup (cutL xs lo hi))
  | .str z => if z.length ≤ sizeLine then .ok (.str (cutS z lo hi)) else .fail
  | _ => .fail
def eSl (f : FE) (l h : FO) : FE := fun S => f S >>= fun x => l S >>= fun lo => h S >>= fun hi => (slD x lo hi).nox
theorem RDs.cutL {G : Hp} {ds : List D} {vs : List V} (r : RDs k G ds vs) (lo hi : Option Int) : RDs k G (M.cutL ds lo hi) (cutV vs lo hi) := by
  unfold M.cutL cutV
  rw [← r.length]
  exact (r.drop _).take _
theorem rdO_go {f : FO} {G H : Hp} {S : Env} {σ : St} {Q : Option Int → Hp → Prop} {β : Type} {g : Option Int → R β} {Post : R β → Prop} (r : Rel c G S σ H) (p : Post (f S >>= g))
    (hx : ∀ x, Post (.exc x) → PX c σ x) (hf : Post .fail → False) (k : ∀ d G' H', Step G H G' H' → Post (g d) → Q d H') : RdO c f σ H Q := by
  refine ⟨G, S, r, ?_⟩
  cases e : f S with
  | ok d => rw [e] at p; exact fun G' H' s => k d G' H' s p
  | exc x => rw [e] at p; exact hx x p
  | fail => rw [e] at p; exact hf p
theorem d_sl {lo hi : Option Expr} {fl fh : FO} {p2 : Pos} (hk : c.k.K = X.K) (he : PE' X c k1 e f) (hl : PO' X c lo fl) (hh : PO' X c hi fh) : PE' X c .st (.Subscript e (.Slice lo hi none p2) pos) (eSl f fl fh) :=
  peI (pe_slice (SlR.or sl_list (SlR.or sl_tupA sl_str)) he hl hh) fun σ H Q ⟨G, S, rel, p⟩ => by
    refine rdE_go (g := fun x => fl S >>= fun lo => fh S >>= fun hi => (slD x lo hi).nox) (Post := PostE c .st G S σ H Q) rel p (fun _ z => z) (fun z => z) fun d v G1 H1 s1 q1 p1 => ?_
    refine rdO_go (g := fun lo => fh S >>= fun hi => (slD d lo hi).nox) (Post := PostE c .st G S σ H Q) (rel.grow s1) p1 (fun _ z => z) (fun z => z) fun lo G2 H2 s2 p2 => ?_
    refine rdO_go (g := fun hi => (slD d lo hi).nox) (Post := PostE c .st G S σ H Q) ((rel.grow s1).grow s2) p2 (fun _ z => z) (fun z => z) fun hi G3 H3 s3 p3 => ?_
    have n := (q1.now.grow s2).grow s3
    have sp := (s1.trans s2).trans s3
    cases d with
    | lst xs =>
      obtain ⟨a, vs, rfl, ha, r⟩ := n.lst s3.gh
      exact .inl ⟨a, vs, rfl, SqL.of ha, fun p hp => p3 _ _ _ (sp.trans (Step.new s3.gh hp)) (.lst upd_same ((r.cutL lo hi).mono (Ex.new (s3.gh.free hp))))⟩
    | tup xs =>
      obtain ⟨a, vs, rfl, ha, r⟩ := n.tup
      refine .inr (.inl ⟨a, vs, rfl, hk ▸ s3.gh.sqT ha.t, fun z => ?_, fun _ p hp => p3 _ _ _ (sp.trans (Step.new s3.gh hp)) (.tup (SqU.of upd_same) ((r.cutL lo hi).mono (Ex.new (s3.gh.free hp))))⟩)
      have e1 : cutL xs lo hi = xs := by
        unfold cutL
        rw [r.length, z.1, z.2, List.drop_zero, Nat.sub_zero, ← r.length, List.take_length]
      have p3 : PostE c .st G S σ H Q (.ok (.tup (cutL xs lo hi))) := p3
      rw [e1] at p3
      exact p3 _ _ _ sp (.tup ha r)
    | str z =>
      obtain rfl := n.str
      have p3 : PostE c .st G S σ H Q (if z.length ≤ sizeLine then .ok (.str (cutS z lo hi)) else .fail : R D).nox := p3
      by_cases hz : z.length ≤ sizeLine
      · rw [if_pos hz] at p3
        exact .inr (.inr ⟨z, rfl, hz, p3 _ _ _ sp (.str _)⟩)
      · rw [if_neg hz] at p3; exact p3.elim
    | _ => exact p3.elim
theorem setF_go {i : Nat} {Dn : Ends} {σ : St} {H : Hp} (q : RdS c fr [i] (sSet i f) Dn σ H) : RdE c .fr f σ H fun x H1 => gName i x σ H1 Dn.nx := by
  obtain ⟨G, S, rel, p⟩ := q
  refine rdE_go (g := fun d => .ok (Fl.nx, S.set i (some ⟨false, d⟩))) (Post := PostS c fr [i] G S σ H Dn) rel p (fun _ z => z _) (fun z => z) fun d v G' H' sp q p1 => ?_
  obtain ⟨a, o, rfl, hg, hn, ha, ct⟩ := q
  have sp2 : Step G H (upd G' a o) H' := sp.frz ha hn hg
  exact p1 _ _ H' sp2.g ((rel.grow sp2).setS i ((ct.mono (Ex.new hg)).rd upd_same)) ((Frm.step (as := []) rel sp2).trans (Frm.set i _ _))
theorem s_lcZ (i : Nat) {py spos : Pos} {tg elt iter : Expr} {t : FT} {ifs : List Expr} {scope : Scope} (own : List (Str × Nat)) {ki gs : List Nat} {fi : FI} {ga : FG} {fe : FE} (hc : X.calm = true) (hN : X.N.Nodup) (hi : PI' X c ki tg iter fi) (ok : BlkOk X.N X.env.scope scope own)
    (hg : ∀ (s : Shared) (H : Hp) (C : Addr) (cl : List (Str × Addr)) (fp : List Addr), PG' (X.blk s H scope (compEnvC scope cl C X.env) fp) c.nx gs tg ga) (ht : ∀ (s : Shared) (H : Hp) (C : Addr) (cl : List (Str × Addr)) (fp : List Addr), PTs' (X.blk s H scope (compEnvC scope cl C X.env) fp) c.nx ifs t)
    (he : ∀ (s : Shared) (H : Hp) (C : Addr) (cl : List (Str × Addr)) (fp : List Addr), PE' (X.blk s H scope (compEnvC scope cl C X.env) fp) c.nx .st elt fe) (hy : X.N[i]? = some y := by rfl) (hyl : X.env.scope.names.lookup y = some .local := by rfl)
    (hsw : swapsWith (.ListComp elt [⟨tg, iter, ifs, 0⟩] scope pos) (some (.Name y py)) spos.line X.env = pure true := by exact sw_true rfl rfl rfl (by decide +kernel)) (hgs : ∀ i, i ∈ gs → i ∈ own.map (·.2) := by decide) (hs : ∀ x, foldedSetIterable iter X.env x = pure x := by intro _; rfl) :
    PS' X c fr [i] (.Assign [.Name y py] (.ListComp elt [⟨tg, iter, ifs, 0⟩] scope pos) spos) (sSet i (lcE fi ga t fe (own.map (·.2)))) :=
  psI (ps_setLc hc hN hy hyl hsw hi ok hg ht he hs) fun Dn σ H q => lc_go (fun _ _ _ _ z => z) (fun _ _ _ z => z) (fun _ _ _ z => z) hgs (setF_go q)
theorem eV_exc {i : Nat} {S : Env} {x : Exc} : eV i S ≠ .exc x := by unfold eV; split <;> intro h <;> cases h
theorem eV_of {i : Nat} {S : Env} {d : D} (h : eV i S = .ok d) : S[i]? = some (some ⟨false, d⟩) := by
  unfold eV at h
  split at h
  · cases h; assumption
  · cases h
def bothI : D → D → Bool
  | .int _, .int _ => true
  | _, _ => false
def sAugI (i : Nat) (o : D → D → R D) (f : FE) : FS := fun S => eV i S >>= fun x => f S >>= fun y => if bothI x y then (o x y).nox >>= fun z => .ok (.nx, S.set i (some ⟨false, z⟩)) else .fail
def putS (S : Env) : List Nat → List D → Env
  | i :: is, d :: ds => putS (S.set i (some ⟨false, d⟩)) is ds
  | _, _ => S
def sPar (is : List Nat) (fa : FA) : FS := fun S => fa S >>= fun ds => if ds.length = is.length then .ok (.nx, putS S is ds) else .fail
theorem s_par2 (i j : Nat) {fa : FA} {px py pt pt2 : Pos} {kt kk : Nat} (hN : X.N.Nodup) (ha : PA' X c false [a, b] fa) (hi : X.N[i]? = some x := by rfl) (hj : X.N[j]? = some y := by rfl) (hij : i ≠ j := by decide) (hx : X.env.scope.names.lookup x = some .local := by rfl) (hy : X.env.scope.names.lookup y = some .local := by rfl)
    (hc : X.calm = true := by rfl) (hsw : swappedStores [.Tuple [.Name x px, .Name y py] kt pt] (.Tuple [a, b] kk pt2) X.env = pure (some [x, y]) := by rfl) (hs : swapsWithSole [.Tuple [.Name x px, .Name y py] kt pt] (.Tuple [a, b] kk pt2) pos.line X.env = pure false := by rfl) :
    PS' X c fr [i, j] (.Assign [.Tuple [.Name x px, .Name y py] kt pt] (.Tuple [a, b] kk pt2) pos) (sPar [i, j] fa) :=
  psI (ps_par hc hN hi hj hij hx hy ha hsw hs) fun Dn σ H ⟨G, S, rel, p⟩ => by
    refine rdA_go (g := fun ds => if ds.length = [i, j].length then .ok (Fl.nx, putS S [i, j] ds) else .fail) (Post := PostS c fr [i, j] G S σ H Dn) rel p (fun _ z => z _) (fun z => z) fun ds vs G' H' sp q p1 => ?_
    have q : RDs c.k G' ds vs := q
    rcases q with _ | ⟨r1, _ | ⟨r2, _ | ⟨r3, r4⟩⟩⟩
    · exact p1.elim
    · exact p1.elim
    · exact ⟨_, _, rfl, p1 G' _ H' sp.g (((rel.grow sp).setS i r1).setS j r2) ((Frm.step (as := []) rel sp).trans ((Frm.set i _ _).trans (Frm.set j _ _)))⟩
    · simp only [List.length_cons, List.length_nil] at p1; rw [if_neg (by omega)] at p1; exact p1.elim
end
end M
set_option Elab.async false
set_option linter.all false
set_option maxRecDepth 100000
set_option maxHeartbeats 4000000
namespace M
open PySem L2
section
variable {τ κ : Type}
def freshSet (w : World) : Obj := { cls := .type "set", dict := none, data := .set #[] 0 (.fresh 0 0 (!w.params.followText "set-order")) }
structure Fam (P : Program) (w : World) (K : PySem.W.Frag) (τ κ : Type) where
  ob : τ → Addr → HO
  t0 : τ
  pre : τ → V → κ → Hp → Prop
  post : τ → V → κ → τ → Prop
  new : ∀ (H : Hp) (h : Heap) (a : Addr), h.get? a = some (freshSet w) → ObjOk P w H h a (ob t0 a)
  add : ∀ (X : Cx), X.prog = P → X.w = w → X.K = K → X.A.units + 64 < cLine → ∀ (pins : List (Addr × Obj)) (s : Shared) (σ : L2.St) (H : Hp) (S : Addr) (t : τ) (y : V) (kk : κ) (u : Value) (Q : Value → Shared → Prop) (E : Value → Shared → Prop), Inv X pins σ H s → H S = some (ob t S) → RelV y u → pre t y kk H →
    (∀ t' s', post t y kk t' → Inv X pins σ (upd H S (ob t' S)) s' → Q .none s') → wpAny (model P w) X.A (call (.builtin "set.add") [.ref S, u]) Q E s
def tScG {P : Program} {w : World} {K : PySem.W.Frag} (F : Fam P w K τ κ) (wi : TI) (g : TG) (tt : TT) (te : TE) (vs : List Nat) : TE := fun σ H Q => wi σ H fun J H1 => ∀ S, H1 S = none → ∃ W : Nat → Nat → Hp → Prop, (∃ m, W 0 m (upd H1 S (F.ob F.t0 S))) ∧ ∀ i m H, W i m H →
  (J.stop i H ∧ Q (.ref S) H) ∨ (J.go i H ∧ ∃ Nx : Hp → Prop, (∀ H', Nx H' → ∃ m', m' < m ∧ W (i + 1) m' H') ∧ ∀ x H', J.yld i H x H' → g x (L2.wipe σ vs) H' fun σ2 H2 => L2.wipe σ2 vs = L2.wipe σ vs ∧ tt σ2 H2 fun b H3 =>
    if b = true then te σ2 H3 fun y H4 => ∃ t kk, H4 S = some (F.ob t S) ∧ F.pre t y kk H4 ∧ ∀ t', F.post t y kk t' → Nx (upd H4 S (F.ob t' S)) else Nx H3)
variable {X : Cx}
theorem pe_scG (F : Fam X.prog X.w X.K τ κ) {elt tg iter : Expr} {ifs : List Expr} {scope : Scope} {own : List (Str × Nat)} {pos : Pos} {wi : TI} {g : TG} {tt : TT} {te : TE} (hu : X.A.units + 64 < cLine) (hc : X.calm = true) (hN : X.N.Nodup) (hi : PI X tg iter wi) (ok : BlkOk X.N X.env.scope scope own)
    (hg : ∀ (s : Shared) (H : Hp) (C : Addr) (cl : List (Str × Addr)) (fp : List Addr), PG (X.blk s H scope (compEnvC scope cl C X.env) fp) tg g) (ht : ∀ (s : Shared) (H : Hp) (C : Addr) (cl : List (Str × Addr)) (fp : List Addr), PTs (X.blk s H scope (compEnvC scope cl C X.env) fp) ifs tt)
    (he : ∀ (s : Shared) (H : Hp) (C : Addr) (cl : List (Str × Addr)) (fp : List Addr), PE (X.blk s H scope (compEnvC scope cl C X.env) fp) elt te) (hs : ∀ x, foldedSetIterable iter X.env x = pure x := by intro _; rfl) :
    PE X (.SetComp elt [⟨tg, iter, ifs, 0⟩] scope pos) (tScG F wi g tt te (own.map (·.2))) := by
  constructor
  intro pins s σ H Q I rd
  rw [PpSet.eval_SetComp]
  have cells : ∀ y ∈ scope.names, y.2 = .free → ∃ c, X.env.cells.lookup y.1 = some c := fun y hy e => (ok.free y hy e).elim (fun k => I.ok.has _ (.inl k)) fun k => I.ok.has _ (.inr k)
  refine wpAny_comprehension_free (use := none) rfl hs (closure_ok cells) ok.kind (fun y hy e => by rw [ok.uniq y hy, e]) (thn (hi.run pins s σ H _ I rd) fun xv s1 hx => thn hx fun itv s2 h2 => ?_)
  obtain ⟨it, fp, tn, J, H2, rfl, I2, T, st2, f2, q⟩ := h2
  refine PpSet.newSet_ok (newEnv_comp ?_)
  have hfr : H2 s2.heap.objs.size = none := I2.hok.fresh (Nat.le_refl _)
  generalize hA : s2.heap.objs.size = A0 at hfr
  obtain ⟨W, ⟨m0, w0⟩, turn⟩ := q A0 hfr
  obtain ⟨s3, hs3⟩ : ∃ s3 : Shared, s3 = { s2 with heap := s2.heap.push (freshSet X.w) } := ⟨_, rfl⟩
  obtain ⟨H3, hH3⟩ : ∃ H3 : Hp, H3 = upd H2 A0 (F.ob F.t0 A0) := ⟨_, rfl⟩
  have old : ∀ b o, s2.heap.get? b = some o → s3.heap.get? b = some o := fun b o e => by rw [hs3]; exact Heap.get?_push_of_some _ e
  have I3 : Inv X pins σ H3 s3 := by
    rw [hs3, hH3]
    exact I2.laid (t' := s2.toks) (fun b o e => Heap.get?_push_of_some _ e) (Nat.le_of_eq hA) (F.new _ _ _ (by rw [← hA]; exact Heap.get?_push_size _ rfl))
  have there : ∀ b ∈ fp, b < s2.heap.objs.size := fun b hb => by
    obtain ⟨o, e, _⟩ := T.obj _ _ st2 b hb
    exact Heap.lt_size e
  have f3 : ∀ b ∈ fp, FpOk X pins H3 b ∧ b < s3.heap.objs.size := fun b hb => by
    have lt := there b hb
    refine ⟨⟨?_, (f2 b hb).2⟩, by rw [hs3]; exact (Heap.size_push ..).symm ▸ Nat.lt_succ_of_lt lt⟩
    rw [hH3, upd_ne (by rw [← hA]; exact Nat.ne_of_lt lt)]
    exact (f2 b hb).1
  have st3 : tn 0 s3.heap := T.keep _ _ _ st2 fun b _ o e => old b o e
  have I4 := block_start I3 ok hN f3
  have pg := hg s3 H3 s3.heap.objs.size (cellsFrom (s3.heap.objs.size + 1) scope.names (cloFrom X.env.cells scope.names [])) fp
  have pt := ht s3 H3 s3.heap.objs.size (cellsFrom (s3.heap.objs.size + 1) scope.names (cloFrom X.env.cells scope.names [])) fp
  have pe := he s3 H3 s3.heap.objs.size (cellsFrom (s3.heap.objs.size + 1) scope.names (cloFrom X.env.cells scope.names [])) fp
  have goal : codeAny (model X.prog X.w) X.A (.compStart (.SetComp elt [⟨tg, iter, ifs, 0⟩] scope pos) 0 (.ref it) (.ref A0) (compEnvC scope (cellsFrom (s3.heap.objs.size + 1) scope.names (cloFrom X.env.cells scope.names [])) s3.heap.objs.size X.env))
      (compPost (model X.prog X.w) X.A X.xe none (EP X pins σ Q) (.ref A0) s3.heap.objs.size) { s3 with heap := pushCells (s3.heap.push { cls := .type "dict", data := .dict #[] }) scope.names } := by
    generalize hce : compEnvC scope (cellsFrom (s3.heap.objs.size + 1) scope.names (cloFrom X.env.cells scope.names [])) s3.heap.objs.size X.env = ce at I4 pg pt pe ⊢
    have cL : ce.locals = s3.heap.objs.size := by subst hce; rfl
    generalize hs4 : ({ s3 with heap := pushCells (s3.heap.push { cls := .type "dict", data := .dict #[] }) scope.names } : Shared) = s4 at I4 ⊢
    have st4 : tn 0 s4.heap := T.keep _ _ _ st3 fun b _ o e => by rw [← hs4]; exact pushCells_keeps _ _ _ _ (Heap.get?_push_of_some _ e)
    have fpo : ∀ {σ' : L2.St} {H' : Hp} {s' : Shared}, Inv (X.blk s3 H3 scope ce fp) [] σ' H' s' → (∀ b ∈ fp, H' b = none) → ∀ b ∈ fp, FpOk (X.blk s3 H3 scope ce fp) [] H' b := fun {σ' H' s'} J' hn b hb =>
      ⟨hn b hb, (J'.ok.exf b hb).1, J'.ok.exfs b hb, .inl hb, (J'.ok.exf b hb).2, fun p hp => by cases (show p ∈ ([] : List (Addr × Obj)) from hp)⟩
    have loop : codeAny (model X.prog X.w) X.A (.compLoop (.SetComp elt [⟨tg, iter, ifs, 0⟩] scope pos) 0 (.ref it) (.ref A0) ce) (compPost (model X.prog X.w) X.A X.xe none (EP X pins σ Q) (.ref A0) s3.heap.objs.size) s4 := by
      refine PpSet.compLoopS_any (fun n s' => ∃ i H', Inv (X.blk s3 H3 scope ce fp) [] (L2.wipe σ (own.map (·.2))) H' s' ∧ tn i s'.heap ∧ (∀ b ∈ fp, H' b = none) ∧ W i n H') ?_ m0 ⟨0, H3, I4, st4, fun b hb => (f3 b hb).1.1, by rw [hH3]; exact w0⟩
      rintro n s5 ⟨i, H5, I5, st5, n5, w5⟩
      rcases turn i n H5 w5 with ⟨stop, qq⟩ | ⟨go, Nx, hNx, step⟩
      · refine thnF (T.done (X.blk s3 H3 scope ce fp) rfl rfl rfl hc i [] s5 _ H5 (fun _ _ => False) I5 (fpo I5 n5) st5 stop) fun r s6 ⟨hr, I6⟩ => ?_
        subst hr
        have I7 : Inv X pins σ H5 s6 := I3.call' (ch := fp) I6.os I6.base I6.hok I6.bare fun b hb => ⟨(f3 b hb).1.2.2.2.1, (f3 b hb).1.2.1, (f3 b hb).1.2.2.2.2.1, (f3 b hb).1.2.2.2.2.2⟩
        have nC : H5 s3.heap.objs.size = none := by rw [← cL]; exact I6.free
        obtain ⟨m, hn, _⟩ := I6.loc
        have hn : s6.heap.Ns ce.locals m := hn
        rw [cL] at hn
        have fC := I3.fpOk (Nat.le_refl _) nC
        exact ⟨m, hn, fun h'' sb => ⟨.ref A0, H5, I7.turned (t' := s6.toks) (fun b o hb e => (sb.2 b hb).trans e) fC.1 fC.2.1 fC.2.2.2.1 fC.2.2.2.2.1 fC.2.2.2.2.2, rfl, qq⟩⟩
      · refine thnF (T.item (X.blk s3 H3 scope ce fp) rfl rfl rfl hc i [] s5 _ H5 (fun _ _ => False) I5 (fpo I5 n5) st5 go) fun r s6 ⟨u, hr, h6⟩ => ?_
        subst hr
        refine thnF h6 fun _ s7 ⟨x, H7, I7, r7, y7, st7, n7⟩ => ?_
        have I7' := I7.pinned (fpo I7 n7) (T.obj _ _ st7)
        refine thnF (pg.run _ s7 _ H7 x u _ I7' r7 (step x H7 y7)) fun _ s8 ⟨σ8, H8, I8, hw8, q8⟩ => ?_
        refine thnF (pt.run _ s8 σ8 H8 _ I8 q8) fun b s9 ⟨H9, I9, q9⟩ => ?_
        have fin : ∀ {s' : Shared} {H' : Hp}, Inv (X.blk s3 H3 scope ce fp) ([] ++ pinsAt fp s7.heap) σ8 H' s' → Nx H' → ∃ m, m < n ∧ ∃ i H', Inv (X.blk s3 H3 scope ce fp) [] (L2.wipe σ (own.map (·.2))) H' s' ∧ tn i s'.heap ∧ (∀ b ∈ fp, H' b = none) ∧ W i m H' := fun {s' H'} I' nx => by
          obtain ⟨m', hm, w'⟩ := hNx H' nx
          have pinned : ∀ b ∈ fp, ∀ o, s7.heap.get? b = some o → s'.heap.get? b = some o ∧ H' b = none := fun b hb o e =>
            let z := I'.pin (b, o) (List.mem_append_right _ (List.mem_append_right _ (mem_pinsAt hb e)))
            ⟨z.1, z.2.1⟩
          refine ⟨m', hm, i + 1, H', (I'.unpinned (pins := [])).weak (by rw [← hw8, wipe_length]) (fun j v e => ?_), T.keep _ _ _ st7 fun b hb o e => (pinned b hb o e).1, fun b hb => ?_, w'⟩
          · rw [← hw8] at e
            exact (wipe_some e).1
          · obtain ⟨o, e, _⟩ := T.obj _ _ st7 b hb
            exact (pinned b hb o e).2
        cases b with
        | false =>
          rw [if_neg Bool.false_ne_true] at q9 ⊢
          exact fin I9 q9
        | true =>
          rw [if_pos rfl] at q9 ⊢
          refine thnF (pe.run _ s9 σ8 H9 _ I9 q9) fun z s10 ⟨yv, H10, I10, r10, t, kk, ht10, hp10, nx⟩ => ?_
          exact F.add (X.blk s3 H3 scope ce fp) rfl rfl rfl hu _ s10 σ8 H10 A0 t yv kk z _ _ I10 ht10 r10 hp10 fun t' s11 hpost I11 => fin I11 (nx t' hpost)
    exact PpSet.codeAny_compStart_set loop (T.self X.A 0 _ _ _ st4 loop)
  rw [hs3] at goal
  exact goal
end
section
theorem set_add_tup {P : Program} {w : World} {A : Around} {E : Value → Shared → Prop} {s : Shared} {a x : Addr} {L : List (Addr × List Int)} {es : Array (Int × Value)} {ep : Nat} {t : SetTable} {k : List Int} {Q : Value → Shared → Prop} (R : SetTR P w s.heap a L es ep t) (hx : IsT P w s.heap k x) (hu : A.units + 2 < cLine) (hfew : L.length + 1 < 64)
    (hQ : ∀ h' tk L' es' ep' t', Heap.SameBut a s.heap h' → SetTR P w h' a L' es' ep' t' → (k ∈ L.map (·.2) → L' = L) → (k ∉ L.map (·.2) → L'.Perm ((x, k) :: L)) → Q .none { s with heap := h', toks := tk }) : wpAny (model P w) A (call (.builtin "set.add") [.ref a, .ref x]) Q E s := by
  obtain ⟨o, ho, hex, hd⟩ := R.ob
  have hT : s.TypeIs (.ref a) "set" := ⟨o, ho, hex.1⟩
  refine wpAny_call_entry F.slot_set_add hT F.entry_set_add ?_ (F.args_set_add_2 _ _)
  unfold Builtin.«set.add» Builtin.Frozenset.oneOther
  simp only [List.isEmpty_nil, bind_assoc]
  unfold Builtin.Frozenset.addrOf setAdd
  refine wpAny_bind (wpAny_pure ?_)
  try dsimp only
  refine wpAny_bind (wpAny_pure ?_)
  try dsimp only
  refine wpAny_bind ?_
  refine wpAny_holding ?_
  refine wpAny_bind (wpAny_pyHash_tuple (by first | exact Nat.lt_of_le_of_lt (Nat.le_add_right _ _) hu | (show A.units + 1 < cLine; omega) | omega) hx ?_)
  refine add_at (s := { s with toks := s.toks + (k.length + 1) }) R hx (by first | exact Nat.lt_of_le_of_lt (Nat.le_add_right _ _) hu | (show A.units + 1 < cLine; omega) | omega) hfew fun b h' L' es' ep' t' sb R' c1 c2 => ?_
  show wpAny _ _ (ret Value.none) _ _ _
  exact wpAny_pure ⟨_, rfl, hQ h' _ L' es' ep' t' sb R' c1 c2⟩
def famT (P : Program) (w : World) (K : PySem.W.Frag) : Fam P w K (List (Addr × List Int)) (List Int) where
  ob := fun L a => SetTO P w a L
  t0 := []
  pre := fun L y k H => (∀ p ∈ L, SqT K H p.1 (p.2.map V.int)) ∧ L.length + 1 < 64 ∧ ∃ x, y = .ref x ∧ SqT K H x (k.map V.int)
  post := fun L y k L' => ∃ x, y = .ref x ∧ (k ∈ L.map (·.2) → L' = L) ∧ (k ∉ L.map (·.2) → L'.Perm ((x, k) :: L))
  new := fun H h a e => setTO_new (setTR_fresh e).t0
  add := by
    intro X hP hw hK hu pins s σ H S L y k u Q E I hS ry hp hq
    subst hP hw hK
    obtain ⟨h1, h2, x, rfl, h3⟩ := hp
    cases ry
    have R0 : SetT0 X.prog X.w s.heap S L := (I.hok S _ hS).1
    obtain ⟨es, ep, t, R⟩ := R0.full fun p hp => I.isT (h1 p hp)
    refine set_add_tup R (I.isT h3) (by omega) h2 fun h' tk L' es' ep' t' sb R' c1 c2 => ?_
    have he : ∃ u, h'.get? S = some u := by
      obtain ⟨o, ho, _⟩ := R'.ob
      exact ⟨o, ho⟩
    exact hq L' _ ⟨x, rfl, c1, c2⟩ (I.write (e := S) (t' := tk) (by rw [hS]; trivial) (.inl rfl) (fun b u hb hu => (sb.2 b hb).trans hu) he (setTO_new R'.t0))
theorem call_lenT {X : Cx} : CallR X (.builtin "len") (fun xs H Q => ∃ a L, xs = [V.ref a] ∧ H a = some (SetTO X.prog X.w a L) ∧ (∀ p ∈ L, SqT X.K H p.1 (p.2.map V.int)) ∧ Q (.int L.length) H) := by
  intro pins s σ H xs us Q I r h
  obtain ⟨a, L, rfl, ha, ht, q⟩ := h
  rw [Vals.ref1 r]
  have R0 : SetT0 X.prog X.w s.heap a L := (I.hok a _ ha).1
  obtain ⟨es, ep, t, R⟩ := R0.full fun p hp => I.isT (ht p hp)
  obtain ⟨o, ho, hex, hd⟩ := R.ob
  have hs := R.size
  have hf := R.few
  refine call_len_set ho hex hd R.fits (by omega) ⟨.int L.length, H, I.tok _, ⟨_, by rw [hs]⟩, q⟩
def nubT (acc : List (List Int)) (k : List Int) : List (List Int) := if k ∈ acc then acc else k :: acc
def nub (ks : List (List Int)) : List (List Int) := ks.foldl nubT []
def asT : D → Option (List Int)
  | .tup ds => asI ds
  | _ => none
def asTs : List D → Option (List (List Int))
  | [] => some []
  | d :: ds => match asT d, asTs ds with
    | some k, some ks => some (k :: ks)
    | _, _ => none
def lenSc (fi : FI) (ga : FG) (t : FT) (fe : FE) (vs : List Nat) : FE := fun S => fi S >>= fun ds => if ds.length < 60 then lcF ga t fe (wipeS S vs) ds >>= fun ys => (match asTs ys with
  | some ks => .ok (.int (nub ks).length)
  | none => .fail) else .fail
theorem RD.asT {k : Kn} {G : Hp} {d : D} {v : V} {ns : List Int} (r : RD k G d v) (h : M.asT d = some ns) : ∃ a, v = .ref a ∧ SqU k.K G a (ns.map V.int) := by
  cases d <;> simp only [M.asT] at h <;> first | (cases h; done) | skip
  cases r with
  | tup hs hr =>
    have := asI_of hr h
    subst this
    exact ⟨_, rfl, hs⟩
theorem lenSc_go {X : Cx} {c : Cf} {t : FT} {ki gs vs : List Nat} {fi : FI} {ga : FG} {fe : FE} {σ : L2.St} {H : Hp} {Q : VK} {gi : TG} {tt : TT} {te : TE} (hk : c.k.K = X.K) (hg : ∀ v σ H Q, RdG c.nx gs ga v σ H Q → gi v σ H Q) (ht : ∀ σ H Q, RdT c.nx t σ H Q → tt σ H Q) (he : ∀ σ H Q, RdE c.nx .st fe σ H Q → te σ H Q)
    (hgs : ∀ i, i ∈ gs → i ∈ vs) (q : RdE c .st (lenSc fi ga t fe vs) σ H Q) :
    tScG (famT X.prog X.w X.K) (RdI c ki fi) gi tt te vs σ H fun v H1 => ∃ a L, [v] = [V.ref a] ∧ H1 a = some (SetTO X.prog X.w a L) ∧ (∀ p ∈ L, SqT X.K H1 p.1 (p.2.map V.int)) ∧ Q (.int L.length) H1 := by
  obtain ⟨G, S, rel, p⟩ := q
  refine ⟨G, S, rel, ?_⟩
  have p : PostE c .st G S σ H Q (fi S >>= fun ds => if ds.length < 60 then lcF ga t fe (wipeS S vs) ds >>= fun ys => (match asTs ys with
    | some ks => .ok (.int (nub ks).length)
    | none => .fail) else .fail) := p
  cases e0 : fi S with
  | exc x => rw [e0] at p; exact p
  | fail => rw [e0] at p; exact p
  | ok ds =>
    rw [e0, R.ok_bind] at p
    by_cases hz : ds.length < 60
    · rw [if_pos hz] at p
      intro J G1 H1 sp it Dl hD
      have relb := ((rel.grow sp).wipe vs).cw (W := liftX E0)
      refine ⟨fun i m H2 => m = ds.length - i ∧ i ≤ ds.length ∧ ∃ G2 L ac, Step G1 H1 G2 H2 ∧ G2 Dl = none ∧ H2 Dl = some (SetTO X.prog X.w Dl L) ∧ (∀ p ∈ L, SqU c.k.K G2 p.1 (p.2.map V.int)) ∧ (L.map (·.2)).Perm ac ∧ ac.length ≤ i ∧
          PostE c .st G S σ H Q (lcF ga t fe (wipeS S vs) (ds.drop i) >>= fun ys => (match asTs ys with
            | some ks => .ok (.int (ks.foldl nubT ac).length)
            | none => .fail)),
        ⟨_, rfl, Nat.zero_le _, G1, [], [], Step.new' sp.gh hD, sp.gh.free hD, upd_same, fun p hp => (by cases hp), List.Perm.nil, Nat.zero_le _, by simpa [nub] using p⟩, ?_⟩
      rintro i m H2 ⟨rfl, hle, G2, L, ac, sp2, hGD, hHD, hr, hpm, hal, p2⟩
      have rel2 : Rel c.nx G2 (wipeS S vs) (L2.wipe σ vs) H2 := relb.grow sp2
      have itm := it G2 H2 sp2.g sp2.gh fun j hj x ow => by
        obtain ⟨_, _, o, _, ho, _⟩ := (rel.grow sp).own ow
        rw [ho, sp2.h _ _ ho]
      have nD : ∀ {G6 H6 : Hp}, Step G2 H2 G6 H6 → G6 Dl = none ∧ H6 Dl = some (SetTO X.prog X.w Dl L) := fun {G6 H6} z => by
        refine ⟨?_, z.h _ _ hHD⟩
        cases q : G6 Dl with
        | none => rfl
        | some o =>
          rcases z.gr _ _ q with w | w
          · rw [hGD] at w; cases w
          · rw [hHD] at w; cases w
      by_cases hlt : i < ds.length
      · obtain ⟨d, hd⟩ : ∃ d, ds[i]? = some d := ⟨ds[i], List.getElem?_eq_getElem hlt⟩
        have hdrop : ds.drop i = d :: ds.drop (i + 1) := by
          rw [List.drop_eq_getElem_cons hlt]; congr 1; rw [List.getElem?_eq_getElem hlt] at hd; exact Option.some.inj hd
        rw [hdrop] at p2
        obtain ⟨hgo, hy⟩ := itm.2 i d hd
        refine .inr ⟨hgo, fun H' => ∃ G3 L ac, Step G1 H1 G3 H' ∧ G3 Dl = none ∧ H' Dl = some (SetTO X.prog X.w Dl L) ∧ (∀ p ∈ L, SqU c.k.K G3 p.1 (p.2.map V.int)) ∧ (L.map (·.2)).Perm ac ∧ ac.length ≤ i + 1 ∧
          PostE c .st G S σ H Q (lcF ga t fe (wipeS S vs) (ds.drop (i + 1)) >>= fun ys => (match asTs ys with
            | some ks => .ok (.int (ks.foldl nubT ac).length)
            | none => .fail)), fun H' ⟨G3, r3⟩ => ⟨_, by omega, rfl, hlt, G3, r3⟩, fun x H3 hx => ?_⟩
        obtain ⟨G3, sp3, hd3⟩ := hy x H3 hx
        refine hg x _ H3 _ ⟨G3, wipeS S vs, d, rel2.grow sp3, hd3, ?_⟩
        unfold lcF at p2
        cases e1 : ga d (wipeS S vs) with
        | exc x => rw [e1] at p2; exact p2.elim
        | fail => rw [e1] at p2; exact p2.elim
        | ok S1 =>
          rw [e1, R.nox_ok, R.ok_bind] at p2
          intro G4 σ4 H4 sp4 rel4 f4
          refine ⟨wipe_eq (by rw [f4.len, wipe_length]) fun j hj => f4.sg j fun z => hj (hgs j z), ht σ4 H4 _ ⟨G4, S1, rel4, ?_⟩⟩
          cases e2 : t S1 with
          | exc x => rw [e2] at p2; exact p2.elim
          | fail => rw [e2] at p2; exact p2.elim
          | ok b =>
            rw [e2, R.nox_ok, R.ok_bind] at p2
            intro G5 H5 sp5
            have spA : Step G2 H2 G5 H5 := (sp3.trans sp4).trans sp5
            cases b with
            | false =>
              rw [if_neg Bool.false_ne_true] at p2 ⊢
              exact ⟨G5, L, ac, sp2.trans spA, (nD spA).1, (nD spA).2, fun p hp => spA.g.sqU (hr p hp), hpm, by omega, p2⟩
            | true =>
              rw [if_pos rfl] at p2 ⊢
              refine he σ4 H5 _ ⟨G5, S1, rel4.grow sp5, ?_⟩
              cases e3 : fe S1 with
              | exc x => rw [e3] at p2; exact p2.elim
              | fail => rw [e3] at p2; exact p2.elim
              | ok y =>
                rw [e3, R.nox_ok, R.ok_bind] at p2
                intro v G6 H6 sp6 hv
                have hv : RD c.k G6 y v := hv
                have spB := spA.trans sp6
                cases e4 : lcF ga t fe (wipeS S vs) (ds.drop (i + 1)) with
                | exc x => exact absurd e4 (lcF_exc _)
                | fail => rw [e4] at p2; exact p2.elim
                | ok ys =>
                  rw [e4] at p2
                  have p2 : PostE c .st G S σ H Q (match asTs (y :: ys) with
                    | some ks => .ok (.int (ks.foldl nubT ac).length)
                    | none => .fail) := p2
                  simp only [asTs] at p2
                  cases ek : asT y with
                  | none => rw [ek] at p2; exact p2.elim
                  | some kk =>
                    cases es : asTs ys with
                    | none => rw [ek, es] at p2; exact p2.elim
                    | some ks =>
                      rw [ek, es] at p2
                      obtain ⟨xa, rfl, hxa⟩ := hv.asT ek
                      have hlen : L.length = ac.length := by rw [← List.length_map (f := fun (p : Addr × List Int) => p.2)]; exact hpm.length_eq
                      have hr6 : ∀ p ∈ L, SqU c.k.K G6 p.1 (p.2.map V.int) := fun p hp => spB.g.sqU (hr p hp)
                      refine ⟨L, kk, (nD spB).2, ⟨fun p hp => hk ▸ (sp6.gh.sqU (hr6 p hp)).t, by omega, xa, rfl, hk ▸ (sp6.gh.sqU hxa).t⟩, ?_⟩
                      rintro L' ⟨xb, hxb, c1, c2⟩
                      cases hxb
                      have spC : Step G1 H1 G6 (upd H6 Dl (SetTO X.prog X.w Dl L')) := by
                        have z := sp2.trans spB
                        exact ⟨z.g, z.h.upd hD, z.gh.upd (nD spB).1, z.gr⟩
                      by_cases hm : kk ∈ L.map (·.2)
                      · have := c1 hm
                        subst this
                        refine ⟨G6, L', ac, spC, (nD spB).1, upd_same, hr6, hpm, by omega, ?_⟩
                        rw [R.ok_bind, es]
                        have hm' : kk ∈ ac := hpm.mem_iff.mp hm
                        simpa only [List.foldl_cons, nubT, if_pos hm'] using p2
                      · have hp' := c2 hm
                        refine ⟨G6, L', kk :: ac, spC, (nD spB).1, upd_same, fun p hp => ?_, ?_, by simp only [List.length_cons]; omega, ?_⟩
                        · rcases List.mem_cons.mp (hp'.mem_iff.mp hp) with rfl | hp
                          · exact hxa
                          · exact hr6 p hp
                        · exact (hp'.map _).trans (List.Perm.cons _ hpm)
                        · rw [R.ok_bind, es]
                          have hm' : kk ∉ ac := fun z => hm (hpm.mem_iff.mpr z)
                          simpa only [List.foldl_cons, nubT, if_neg hm'] using p2
      · have hi : i = ds.length := by omega
        subst hi
        rw [List.drop_length] at p2
        refine .inl ⟨itm.1 _ (Nat.le_refl _), Dl, L, rfl, hHD, fun p hp => hk ▸ (sp2.gh.sqU (hr p hp)).t, ?_⟩
        have p2 : PostE c .st G S σ H Q (.ok (.int ac.length)) := p2
        have hlen : L.length = ac.length := by rw [← List.length_map (f := fun (p : Addr × List Int) => p.2)]; exact hpm.length_eq
        rw [hlen]
        exact p2 _ G2 H2 (sp.trans sp2) (.int _)
    · rw [if_neg hz] at p; exact p.elim
theorem d_lenSc {X : Cx} {c : Cf} {t : FT} {tg elt iter : Expr} {ifs : List Expr} {scope : Scope} {p1 p2 pos : Pos} {x : Str} (own : List (Str × Nat)) {ki gs : List Nat} {fi : FI} {ga : FG} {fe : FE} (hk : c.k.K = X.K) (hu : X.A.units + 64 < cLine) (hm : X.mg x = none) (hc : X.calm = true) (hN : X.N.Nodup) (hi : PI' X c ki tg iter fi) (ok : BlkOk X.N X.env.scope scope own)
    (hg : ∀ (s : Shared) (H : Hp) (C : Addr) (cl : List (Str × Addr)) (fp : List Addr), PG' (X.blk s H scope (compEnvC scope cl C X.env) fp) c.nx gs tg ga) (ht : ∀ (s : Shared) (H : Hp) (C : Addr) (cl : List (Str × Addr)) (fp : List Addr), PTs' (X.blk s H scope (compEnvC scope cl C X.env) fp) c.nx ifs t)
    (he : ∀ (s : Shared) (H : Hp) (C : Addr) (cl : List (Str × Addr)) (fp : List Addr), PE' (X.blk s H scope (compEnvC scope cl C X.env) fp) c.nx .st elt fe) (hgs : ∀ i, i ∈ gs → i ∈ own.map (·.2) := by decide) (hs : ∀ x, foldedSetIterable iter X.env x = pure x := by intro _; rfl)
    (hv : bootBuiltins x = some (.builtin "len") := by decide +kernel) (hgl : Gl X x := by rfl) (hn : x ≠ "__name__" := by decide) (hdb : (x == ("__debug__" : Str)) = false := by decide) :
    PE' X c .st (.Call (.Name x p1) [.SetComp elt [⟨tg, iter, ifs, 0⟩] scope p2] [] pos) (lenSc fi ga t fe (own.map (·.2))) :=
  peI (pe_callB call_lenT hgl hm hv (pa_cons (pe_scG (famT X.prog X.w X.K) hu hc hN hi ok hg ht he hs) pa_nil rfl) hn hdb rfl rfl) fun σ H Q q => lenSc_go hk (fun _ _ _ _ z => z) (fun _ _ _ z => z) (fun _ _ _ z => z) hgs q
end
end M
set_option Elab.async false
set_option linter.all false
set_option maxRecDepth 100000
set_option maxHeartbeats 4000000
namespace M
open PySem L2
open AutoSeq1 (wpAny_loadPart')
theorem enum_new1 {v : Value} {o : Obj} {H : Heap → Prop} (B : Begins v o H) :
    Meets (Builtin.«enumerate.__new__» ⟨[.type "enumerate", v], []⟩) (fun _ R s => H s.heap ∧
      R (.ok (.ret (.ref (s.heap.push o).objs.size))) { s with heap := (s.heap.push o).push { cls := .type "enumerate", data := .fields #[.none, .bool false, .ref s.heap.objs.size, rawInt 0, .none, .none] } }) :=
  .of_wp fun prog w A R s h => by
    obtain ⟨hp, g, d, tk, os⟩ := s; obtain ⟨h1, h⟩ := h
    have hsub := sub_enumerate
    have q1 : ∀ {A' : Around} {E : Value → Shared → Prop} {Q : Value → Shared → Prop}, Q (.ref hp.objs.size) ⟨hp.push o, g, d, tk, os⟩ → wpAny (model prog w) A' (pyIter v) Q E ⟨hp, g, d, tk, os⟩ :=
      fun q => B.iter prog w _ _ ⟨hp, g, d, tk, os⟩ _ h1 q
    wp_walk using q1
    refine wpAny_stack_any fun st => wpAny_pure ?_
    split
    · rename_i c _ _ _ _ _
      cases (c == Value.type "enumerate")
      · wp_walk using q1
        exact ⟨_, rfl, h⟩
      · wp_walk using q1
        exact ⟨_, rfl, h⟩
    · wp_walk using q1
      exact ⟨_, rfl, h⟩
theorem enum_begins1 {prog : Program} {w : World} {A : Around} {E : Value → Shared → Prop} {s : Shared} {v : Value} {o : Obj} {H : Heap → Prop} {Q : Value → Shared → Prop} (B : Begins v o H) (h1 : H s.heap)
    (h : ∀ h', IsEnum h' (s.heap.objs.size + 1) s.heap.objs.size 0 .none → h'.get? s.heap.objs.size = some o → (∀ b o, s.heap.get? b = some o → h'.get? b = some o) → Q (.ref (s.heap.objs.size + 1)) { s with heap := h' }) :
    wpAny (model prog w) A (call (.type "enumerate") [v]) Q E s := by
  refine callType_new F.called_enumerate (by decide) (F.typeCall_enumerate_1 _) (F.newCall_enumerate_1 _) (fun obj => F.args_object_init_2 obj _) F.entry_enumerate_new (enum_new1 B) ⟨h1, ?_⟩
  have hz : (s.heap.push o).objs.size = s.heap.objs.size + 1 := Heap.size_push ..
  show _ ∧ _
  rw [hz]
  have he : IsEnum ((s.heap.push o).push { cls := .type "enumerate", data := .fields #[.none, .bool false, .ref s.heap.objs.size, rawInt 0, .none, .none] }) (s.heap.objs.size + 1) s.heap.objs.size 0 .none := by
    have := Heap.get?_push_size (s.heap.push o) (o := { cls := .type "enumerate", data := .fields #[.none, .bool false, .ref s.heap.objs.size, rawInt 0, .none, .none] }) rfl
    rw [hz] at this; exact this
  exact ⟨⟨_, he, rfl⟩, h _ he (Heap.get?_push_of_some _ (Heap.get?_push_size _ B.free)) fun b o x => Heap.get?_push_of_some _ (Heap.get?_push_of_some _ x)⟩
def ItU (K : PySem.W.Frag) (a : Addr) : It :=
  ⟨fun i H => ∃ (xs : List V) (x : V), SqT K H a xs ∧ xs[i]? = some x, fun i H v H' => ∃ T x, v = .ref T ∧ H T = none ∧ H' = upd H T (.tup [.int (i : Nat), x]) ∧ ∀ xs, SqT K H a xs → xs[i]? = some x, fun i H => ∃ xs : List V, SqT K H a xs ∧ xs.length ≤ i⟩
theorem turn_enumT {P : Program} {w : World} {K : PySem.W.Frag} {elts : List Expr} {kk : Nat} {tpos : Pos} (a e it : Addr) :
    Turn P w K (.Tuple elts kk tpos) (ItU K a) [e, it] e (fun i h => (∃ old, IsEnum h e it ((i : Nat) : Int) old) ∧ h.IsTupleIter it a i ∧ e ≠ it) := by
  refine ⟨by simp, fun i h st b hb => ?_, fun i h h' st k => ?_, ?_, ?_, fun A i s Q E st h => ?_⟩
  · obtain ⟨⟨old, he⟩, ⟨o, ho, hc, hd⟩, _⟩ := st
    rcases (by simpa using hb : b = e ∨ b = it) with z | z
    · rw [z]; exact ⟨_, he, fun v q => nomatch q⟩
    · rw [z]; exact ⟨o, ho, fun v q => by rw [hd] at q; cases q⟩
  · obtain ⟨⟨old, he⟩, hi, hne⟩ := st
    exact ⟨⟨old, k e (by simp) _ he⟩, hi.at fun o q => k it (by simp) o q, hne⟩
  · intro X hP hw hK hc i pins s σ H E I hf st hg
    subst hP hw hK
    obtain ⟨⟨old, he⟩, hit, hne⟩ := st
    obtain ⟨xs, x, hq, hx⟩ := hg
    obtain ⟨its, rv, p, hz⟩ := I.tuple hq
    obtain ⟨u, hu, ru⟩ := rv.get hx
    have pT : s.heap.IsTuple a its.toArray := p
    have hel : e < s.heap.objs.size := Heap.lt_size he
    have hil : it < s.heap.objs.size := by obtain ⟨_, q, _⟩ := hit; exact Heap.lt_size q
    have ai : a ≠ it := by
      rintro rfl
      obtain ⟨o1, q1, c1, _⟩ := hit
      obtain ⟨o2, q2, c2, _⟩ := pT
      rw [q1] at q2; cases q2; rw [c1] at c2; injection c2 with z; exact absurd z (by decide)
    have ea : e ≠ a := by
      rintro rfl
      obtain ⟨o2, q2, c2, _⟩ := pT
      rw [show s.heap.get? e = some _ from he] at q2; cases q2; injection c2 with z; exact absurd z (by decide)
    have hlt : i < its.toArray.size := by rw [List.size_toArray]; exact (List.getElem?_eq_some_iff.mp hu).1
    refine wpAny_pyNext_enum_itemD (Draws.tuple (A := X.A.in1) (I.ok.hd hc) it a ai its.toArray) he ⟨hit, pT⟩ hlt hne (by simp only [List.mem_cons, List.not_mem_nil, or_false, not_or]; exact ⟨hne, ea⟩) fun y h' tk hy ho st' hT hsz hk => ?_
    have hy' : y = u := by
      have z : its[i]? = some y := by simpa using hy
      rw [hu] at z; exact (Option.some.inj z).symm
    subst hy'
    refine ⟨_, rfl, wpAny_letOwnedTupleGo_enum (s := { s with heap := h', toks := tk + 1 }) ho fun h'' he' sb => ?_⟩
    have hT2 : h''.get? s.heap.objs.size = some { cls := .type "tuple", data := .seq #[.int i tk, y] } := (sb.2 _ (Nat.ne_of_gt hel)).trans hT
    have new : ObjOk X.prog X.w (upd H s.heap.objs.size (.tup [.int (i : Nat), x])) h'' s.heap.objs.size (.tup [.int (i : Nat), x]) :=
      ⟨by show 2 ≤ sizeLine; decide, [.int i tk, y], .cons ⟨_, rfl⟩ (.cons ru .nil), ⟨_, hT2, rfl, _, rfl⟩⟩
    have I1 : Inv X pins σ (upd H s.heap.objs.size (.tup [.int (i : Nat), x])) { s with heap := h'', toks := tk + 1 } :=
      I.turnedNew (ch := [e, it]) (fun b ob hb q => (sb.2 b (fun z => hb (by simp [z]))).trans (hk b ob (fun z => hb (by simp [z])) (fun z => hb (by simp [z])) q)) hf (Nat.le_refl _) new
    refine ⟨.ref s.heap.objs.size, _, I1, rfl, ⟨_, x, rfl, I.hok.fresh (Nat.le_refl _), rfl, fun ys hy => by rw [I.tuple_inj hy hq]; exact hx⟩, ⟨⟨y, ?_⟩, st'.1.at fun o q => (sb.2 it (Ne.symm hne)).trans q, hne⟩, fun b hb => ?_⟩
    · have e1 : ((i + 1 : Nat) : Int) = (i : Int) + 1 := by omega
      rw [e1]; exact he'
    · have hb' : b < s.heap.objs.size := by
        rcases (by simpa using hb : b = e ∨ b = it) with z | z
        · rw [z]; exact hel
        · rw [z]; exact hil
      rw [upd_ne (Nat.ne_of_lt hb')]
      exact (hf b hb).1
  · intro X hP hw hK hc i pins s σ H E I hf st hg
    subst hP hw hK
    obtain ⟨⟨old, he⟩, hit, hne⟩ := st
    obtain ⟨xs, hq, hx⟩ := hg
    obtain ⟨its, rv, p, hz⟩ := I.tuple hq
    obtain ⟨f0, f1, f2, f3, f4, f5⟩ := hf it (by simp)
    have pT : s.heap.IsTuple a its.toArray := p
    have ai : a ≠ it := by
      rintro rfl
      obtain ⟨o1, q1, c1, _⟩ := hit
      obtain ⟨o2, q2, c2, _⟩ := pT
      rw [q1] at q2; cases q2; rw [c1] at c2; injection c2 with z; exact absurd z (by decide)
    have hl := rv.length
    have hn : its.toArray[i]? = none := by simp; omega
    have hT : s.TypeIs (.ref e) "enumerate" := ⟨_, he, rfl⟩
    unfold pyNext
    refine wpAny_bind (wpAny_attempt (wpAny_callSpecial?_slot (name := Str.ofString "__next__") hT F.slot_enumerate_next (wpAny_call_entry F.slot_enumerate_next hT F.entry_enumerate_next ?_ (F.args_enumerate_next_1 _))))
    show wpAny _ _ (field (.ref e) 2 >>= _) _ _ _
    refine wpAny_bind (wpAny_field he rfl (x := .ref it) rfl ?_)
    refine wpAny_bind (wpAny_nextOf_tuple_end (A := X.A.in1) (I.ok.hd hc) hit pT hn fun h' x he' hx' => ?_)
    obtain ⟨o, ho, hcl⟩ := hx'
    refine wpAny_bind (wpAny_isInstance (T := "StopIteration") (b := true) ⟨o, ho, hcl⟩ isSubtype_stop ?_)
    exact wpAny_pure ⟨rfl, I.turned (t' := s.toks) (fun b o hb q => he' b o hb q) f0 f1 f3 f4 f5⟩
  · obtain ⟨⟨_, he⟩, _⟩ := st
    exact wpAny_pyIter_enum he h
theorem pi_enumT {X : Cx} {e : Expr} {ta : TA} {p pos tpos : Pos} {elts : List Expr} {kk : Nat} (hg : Gl X "enumerate") (hm : X.mg "enumerate" = none) (ha : PA X [e] ta) (hs : starEach [e] X.env = [(false, eval e X.env)] := by rfl) :
    PI X (.Tuple elts kk tpos) (.Call (.Name "enumerate" p) [e] [] pos) (fun σ H R => ta σ H fun vs H1 => ∃ a xs, vs = [.ref a] ∧ SqT X.K H1 a xs ∧ R (ItU X.K a) H1) := by
  constructor
  intro pins s σ H R I h
  refine PyProof.Rows.Call_ (ld_blt I hg hm PyProof.Rows.boot_enumerate (PyProof.Rows.callWith_type1 (thn (ha.run pos pins s σ H _ I h) fun us s1 ⟨vs, H1, I1, r1, q1⟩ => ?_) hs rfl))
  obtain ⟨a, xs, rfl, hq, q⟩ := q1
  rw [Vals.ref1 r1]
  obtain ⟨its, rv, p', hz⟩ := I1.tuple hq
  refine enum_begins1 (begins_tuple a its.toArray) p' fun h' he hit hk => wpAny_pyIter_enum he ?_
  have I2 : Inv X pins σ H1 { s1 with heap := h' } := I1.kept (t' := s1.toks) hk
  refine ⟨s1.heap.objs.size + 1, [s1.heap.objs.size + 1, s1.heap.objs.size], _, _, H1, rfl, I2, turn_enumT a (s1.heap.objs.size + 1) s1.heap.objs.size, ⟨⟨.none, he⟩, ⟨_, hit, rfl, rfl⟩, Nat.succ_ne_self _⟩, fun b hb => ?_, q⟩
  have hle : s1.heap.objs.size ≤ b := by
    rcases (by simpa using hb : b = s1.heap.objs.size + 1 ∨ b = s1.heap.objs.size) with z | z
    · rw [z]; exact Nat.le_add_right _ _
    · rw [z]; exact Nat.le_refl _
  exact I1.fpOk hle (I1.hok.fresh hle)
def enumAt (n : Nat) : List D → List D
  | [] => []
  | d :: ds => .tup [.int n, d] :: enumAt (n + 1) ds
theorem enumAt_get : ∀ (ds : List D) (n i : Nat), (enumAt n ds)[i]? = ds[i]?.map fun d => .tup [.int ((n + i : Nat) : Int), d]
  | [], n, i => by simp [enumAt]
  | d :: ds, n, 0 => by simp [enumAt]
  | d :: ds, n, i + 1 => by
    simp only [enumAt, List.getElem?_cons_succ]
    rw [enumAt_get ds (n + 1) i]
    congr 1
    funext d
    rw [show n + 1 + i = n + (i + 1) by omega]
theorem enumAt_length : ∀ (ds : List D) (n : Nat), (enumAt n ds).length = ds.length
  | [], n => rfl
  | d :: ds, n => by simp [enumAt, enumAt_length ds]
def enumerateF : List D → R (List D)
  | [.lst ds] => .ok (enumAt 0 ds)
  | [.tup ds] => .ok (enumAt 0 ds)
  | _ => .fail
theorem itm_enumL {k : Kn} {ki : List Nat} {G1 H1 : Hp} {S : Env} {σ : L2.St} {K : PySem.W.Frag} {ds : List D} {vs : List V} {p : Addr} (hr : RDs k G1 ds vs) (hs : G1 p = some (.lst vs)) : Itm k ki G1 S σ H1 (Ite K p) (enumAt 0 ds) := fun G H e1 e2 kp => by
  have q : SqL K H p vs := SqL.of (e2 _ _ (e1 _ _ hs))
  refine ⟨fun i hi => ⟨vs, q, by rw [enumAt_length] at hi; rw [← hr.length]; exact hi⟩, fun i d hd => ?_⟩
  rw [enumAt_get] at hd
  cases hd0 : ds[i]? with
  | none => rw [hd0] at hd; cases hd
  | some d0 =>
    rw [hd0] at hd
    have hd : D.tup [.int ((0 + i : Nat) : Int), d0] = d := Option.some.inj hd
    subst hd
    obtain ⟨v, hv, r⟩ := (hr.mono e1).get hd0
    refine ⟨⟨vs, v, q, hv⟩, fun x H' hx => ?_⟩
    obtain ⟨T, x', rfl, hT, rfl, hy⟩ := hx
    have := hy vs q
    rw [hv] at this; cases this
    refine ⟨_, Step.new e2 hT, .tup (SqU.of upd_same) (.cons ?_ (.cons (r.mono (Ex.new (e2.free hT))) .nil))⟩
    rw [Nat.zero_add]; exact .int _
theorem itm_enumT {k : Kn} {ki : List Nat} {G1 H1 : Hp} {S : Env} {σ : L2.St} {K : PySem.W.Frag} {ds : List D} {vs : List V} {p : Addr} (hr : RDs k G1 ds vs) (hs : SqT K G1 p vs) : Itm k ki G1 S σ H1 (ItU K p) (enumAt 0 ds) := fun G H e1 e2 kp => by
  have q : SqT K H p vs := e2.sqT (e1.sqT hs)
  refine ⟨fun i hi => ⟨vs, q, by rw [enumAt_length] at hi; rw [← hr.length]; exact hi⟩, fun i d hd => ?_⟩
  rw [enumAt_get] at hd
  cases hd0 : ds[i]? with
  | none => rw [hd0] at hd; cases hd
  | some d0 =>
    rw [hd0] at hd
    have hd : D.tup [.int ((0 + i : Nat) : Int), d0] = d := Option.some.inj hd
    subst hd
    obtain ⟨v, hv, r⟩ := (hr.mono e1).get hd0
    refine ⟨⟨vs, v, q, hv⟩, fun x H' hx => ?_⟩
    obtain ⟨T, x', rfl, hT, rfl, hy⟩ := hx
    have := hy vs q
    rw [hv] at this; cases this
    refine ⟨_, Step.new e2 hT, .tup (SqU.of upd_same) (.cons ?_ (.cons (r.mono (Ex.new (e2.free hT))) .nil))⟩
    rw [Nat.zero_add]; exact .int _
theorem i_enumerate {X : Cx} {c : Cf} {e : Expr} {fa : FA} {p pos tpos : Pos} {elts : List Expr} {kk : Nat} (hk : c.k.K = X.K) (hm : X.mg "enumerate" = none) (ha : PA' X c false [e] fa) (hg : Gl X "enumerate" := by rfl) (hs : starEach [e] X.env = [(false, eval e X.env)] := by rfl) :
    PI' X c [] (.Tuple elts kk tpos) (.Call (.Name "enumerate" p) [e] [] pos) (fun S => fa S >>= enumerateF) := by
  constructor
  intro pins st σ H Rq I q
  obtain ⟨G, S, rel, p⟩ := q
  have p : PostI c [] G S σ H Rq (fa S >>= enumerateF) := p
  cases e1 : fa S with
  | exc x => exact (pi_enum hg hm ha hs).run pins st σ H Rq I ⟨G, S, rel, by rw [e1] at p ⊢; exact p⟩
  | fail => rw [e1] at p; exact p.elim
  | ok ds =>
    rw [e1, R.ok_bind] at p
    unfold enumerateF at p
    split at p
    · rename_i ds0
      refine (pi_enum hg hm ha hs).run pins st σ H Rq I ⟨G, S, rel, ?_⟩
      rw [e1]
      intro vs G' H' sp q
      have q : RDs c.k G' [.lst ds0] vs := q
      cases q with
      | cons q1 q2 =>
        cases q2
        cases q1 with
        | lst h r => exact ⟨_, _, rfl, SqL.of (sp.gh _ _ h), p _ G' H' sp (itm_enumL r h)⟩
    · rename_i ds0
      refine (pi_enumT hg hm ha hs).run pins st σ H Rq I ⟨G, S, rel, ?_⟩
      rw [e1]
      intro vs G' H' sp q
      have q : RDs c.k G' [.tup ds0] vs := q
      cases q with
      | cons q1 q2 =>
        cases q2
        cases q1 with
        | tup h r => exact ⟨_, _, rfl, hk ▸ sp.gh.sqT h.t, p _ G' H' sp (itm_enumT r (hk ▸ h.t))⟩
    · exact p.elim
end M
set_option Elab.async false
set_option linter.all false
set_option maxRecDepth 100000
set_option maxHeartbeats 4000000
namespace M
open PySem L2
theorem zip_none : ∀ {nm : List Str} {vs : List V} {f : Str}, f ∉ nm → (nm.zip vs).lookup f = none
  | [], _, _, _ => by simp
  | _ :: _, [], _, _ => by simp
  | n :: nm, v :: vs, f, h => by
    simp only [List.mem_cons, not_or] at h
    rw [List.zip_cons_cons, List.lookup_cons, beq_eq_false_iff_ne.mpr h.1]
    exact zip_none h.2
def D.isObj (ci : Nat) : D → Bool
  | .obj c _ => c == ci
  | _ => false
structure Method (P : Program) (w : World) (K : PySem.W.Frag) (mg : Str → Option Value) (base : Heap) (k : Kn) (lv : Nat) (ci : Nat) (m : Str) (n : Nat) (fr : Bool) (den : List D → R D) : Prop where
  ex : ∃ (C f : Addr) (fd : FuncData) (ps nm : List Str), ps.length = n ∧ k.cl ci = some (C, nm) ∧ m ∉ nm ∧ Cls K C ∧ Meth K C m f ∧ FnOk P w K mg base CX0 lv f fd ps (SpF k fr n den) ∧ Binds K fd ps []
structure MakeK (P : Program) (w : World) (K : PySem.W.Frag) (mg : Str → Option Value) (base : Heap) (k : Kn) (lv : Nat) (x : Str) (ci n : Nat) (ks : List Str) (den : List D → R D) : Prop where
  ex : ∃ (C f : Addr) (fd : FuncData) (ps nm : List Str) (g : List Value → List Value → List Value), k.cl ci = some (C, nm) ∧ Mk K C f ∧ FnOk P w K mg base CX0 lv f fd ps (SpN k ci (n + ks.length + 1) den) ∧ mg x = some (.ref C) ∧ KBn K fd ps (n + 1) ks g (fun vs zs => vs ++ zs)
structure Maker (P : Program) (w : World) (K : PySem.W.Frag) (mg : Str → Option Value) (base : Heap) (k : Kn) (lv : Nat) (x : Str) (ci n : Nat) (den : List D → R D) : Prop where
  ex : ∃ (C f : Addr) (fd : FuncData) (ps : List Str) (nm : List Str), ps.length = n + 1 ∧ k.cl ci = some (C, nm) ∧ Mk K C f ∧ FnOk P w K mg base CX0 lv f fd ps (SpN k ci (n + 1) den) ∧ mg x = some (.ref C) ∧ Binds K fd ps []
structure Prope (P : Program) (w : World) (K : PySem.W.Frag) (mg : Str → Option Value) (base : Heap) (k : Kn) (lv : Nat) (ci : Nat) (m : Str) (fr : Bool) (den : List D → R D) : Prop where
  ex : ∃ (C p f : Addr) (fd : FuncData) (ps nm : List Str), ps.length = 1 ∧ k.cl ci = some (C, nm) ∧ Cls K C ∧ PropOf K C m p f ∧ FnOk P w K mg base CX0 lv f fd ps (SpF k fr 1 den) ∧ Binds K fd ps []
section
variable {X : Cx} {c : Cf} {k : Kn} {kd k1 k2 k3 : Kd} {a b e o : Expr} {f g h : FE} {pos apos cpos p' : Pos} {fr : Bool} {x y : Str} {den : List D → R D}
def eM (ci : Nat) (den : List D → R D) (f : FE) (fa : FA) : FE := fun S => f S >>= fun o => if o.isObj ci then fa S >>= fun ds => (den (o :: ds)).nox else .fail
theorem meth_go {ci n : Nat} {C : Addr} {nm : List Str} {m : Str} {fa : FA} {σ : L2.St} {H : Hp} {Q : VK} (hcl : c.k.cl ci = some (C, nm)) (hmn : m ∉ nm) (hl : Len n fa) (q : RdE c (kdOf fr) (eM ci den f fa) σ H Q) :
    RdE c .st f σ H fun x H1 => ∃ a dx fs, x = .ref a ∧ H1 a = some (.ins C dx fs) ∧ fs.lookup m = none ∧ RdA c false fa σ H1 fun vs H2 => SpF c.k fr (n + 1) den (x :: (vs ++ [])) H2 Q E0 := by
  obtain ⟨G, S, rel, p⟩ := q
  refine rdE_go (g := fun o => if o.isObj ci then fa S >>= fun ds => (den (o :: ds)).nox else .fail) (Post := PostE c (kdOf fr) G S σ H Q) rel p (fun _ z => z) (fun z => z) fun d v G1 H1 s1 q1 p1 => ?_
  by_cases ho : d.isObj ci = true
  · rw [if_pos ho] at p1
    cases d with
    | obj c' ds =>
      have hc : c' = ci := by simpa [D.isObj] using ho
      subst hc
      have q1 : RD c.k G1 (.obj c' ds) v := q1
      cases q1 with
      | @obj _ _ ad CA dx nm' vs' hcl' hG hr =>
        rw [hcl] at hcl'; cases hcl'
        refine ⟨ad, dx, _, rfl, s1.gh _ _ hG, zip_none hmn, G1, S, rel.grow s1, ?_⟩
        cases e0 : fa S with
        | exc x => rw [e0] at p1; exact p1
        | fail => rw [e0] at p1; exact p1
        | ok as =>
          rw [e0] at p1
          intro vs G2 H2 s2 q2
          have q2 : RDs c.k G2 as vs := q2
          rw [List.append_nil]
          refine ⟨by simp [← q2.length, hl S as e0], G2, .obj c' ds :: as, s2.gh, .cons (.obj hcl (s2.g _ _ hG) (hr.mono s2.g)) q2, ?_⟩
          have p1 : PostE c (kdOf fr) G S σ H Q (den (.obj c' ds :: as)).nox := p1
          cases e1 : den (.obj c' ds :: as) with
          | ok d => rw [e1] at p1; exact fun v G' H' s3 r3 => p1 v G' H' ((s1.trans s2).trans s3) (r3.mono (s1.h.trans s2.h))
          | exc x => rw [e1] at p1; exact p1.elim
          | fail => rw [e1] at p1; exact p1.elim
    | _ => simp [D.isObj] at ho
  · rw [if_neg ho] at p1; exact p1.elim
theorem d_meth {lv m' : Nat} (ci : Nat) {m : Str} {n : Nat} {es : List Expr} {fa : FA} {pl : Sem Bool} (F : Method X.prog X.w X.K X.mg X.base c.k lv ci m (n + 1) fr den) (hr : Room m' X.A) (hle : lv ≤ m') (ho : PE' X c .st o f) (ha : PA' X c false (e :: es) fa) (hl : Len n fa)
    (hst : starEach (e :: es) X.env = (false, eval e X.env) :: starEach es X.env := by rfl) (hpl : (backTo pos (starEach es X.env)).any (·.1) = false := by rfl)
    (ht : eval (.Call (.Attribute o m apos) (e :: es) [] pos) X.env = (do
      let ov ← eval o X.env
      standAt apos.atName
      let (f, first) ← holding [ov] (getMethod ov m pl)
      callWith pos f first (backTo pos (starEach (e :: es) X.env)) (backToKw pos (keywordEach [] X.env))) := by rfl) :
    PE' X c (kdOf fr) (.Call (.Attribute o m apos) (e :: es) [] pos) (eM ci den f fa) := by
  obtain ⟨C, fa', fd, ps, nm, hn, hcl, hmn, cl, mt, ok, bd⟩ := F.ex
  exact peI (pe_meth ho cl mt ok (hr.mono hle) bd .nil pass0 ha hst hpl ht) fun σ H Q q => meth_go hcl hmn hl q
def eP (ci : Nat) (den : List D → R D) (f : FE) : FE := eM ci den f fun _ => .ok []
theorem d_prop {lv m' : Nat} (ci : Nat) {m : Str} (F : Prope X.prog X.w X.K X.mg X.base c.k lv ci m fr den) (hr : Room m' X.A) (hle : lv + 1 ≤ m') (ho : PE' X c .st o f)
    (hb : attributeBase o m X.env (eval o X.env) = eval o X.env := by rfl) : PE' X c (kdOf fr) (.Attribute o m pos) (eP ci den f) := by
  obtain ⟨C, p0, fa', fd, ps, nm, hn, hcl, cl, pr, ok, bd⟩ := F.ex
  refine peI (pe_prop ho cl pr ok (hr.mono hle) bd .nil pass0 hb) fun σ H Q q => ?_
  obtain ⟨G, S, rel, p⟩ := q
  refine rdE_go (g := fun o => if o.isObj ci then (R.ok [] >>= fun ds => (den (o :: ds)).nox) else .fail) (Post := PostE c (kdOf fr) G S σ H Q) rel p (fun _ z => z) (fun z => z) fun d v G1 H1 s1 q1 p1 => ?_
  by_cases ho : d.isObj ci = true
  · rw [if_pos ho] at p1
    cases d with
    | obj c' ds =>
      have hc : c' = ci := by simpa [D.isObj] using ho
      subst hc
      have q1 : RD c.k G1 (.obj c' ds) v := q1
      cases q1 with
      | @obj _ _ ad CA dx nm' vs' hcl' hG hr =>
        rw [hcl] at hcl'; cases hcl'
        refine ⟨ad, dx, _, rfl, s1.gh _ _ hG, rfl, G1, [.obj c' ds], s1.gh, .cons (.obj hcl hG hr) .nil, ?_⟩
        have p1 : PostE c (kdOf fr) G S σ H Q (den [.obj c' ds]).nox := p1
        cases e1 : den [.obj c' ds] with
        | ok d => rw [e1] at p1; exact fun v G' H' s3 r3 => p1 v G' H' (s1.trans s3) (r3.mono s1.h)
        | exc x => rw [e1] at p1; exact p1.elim
        | fail => rw [e1] at p1; exact p1.elim
    | _ => simp [D.isObj] at ho
  · rw [if_neg ho] at p1; exact p1.elim
def fApp (fa fk : FA) : FA := fun S => fa S >>= fun as => fk S >>= fun bs => .ok (as ++ bs)
abbrev PK' (X : Cx) (c : Cf) (ks : List Keyword) (f : FA) : Prop := PK X ks (RdA c false f)
theorem pkI {ks : List Keyword} {t t' : TA} (h : PK X ks t) (i : ∀ σ H Q, t' σ H Q → t σ H Q) : PK X ks t' := ⟨fun pos pins s σ H Q I q => h.run pos pins s σ H Q I (i σ H Q q)⟩
theorem d_kn : PK' X c [] aN := pkI pk_nil fun σ H Q ⟨G, S, rel, p⟩ => p [] G H (Step.refl rel.st.gh) .nil
theorem d_kc {nm : Option Str} {kp : Pos} {ks : List Keyword} {ga : FA} (ha : PE' X c .st e f) (hr : PK' X c ks ga) : PK' X c (⟨nm, e, kp⟩ :: ks) (aC f ga) :=
  pkI (pk_cons ha hr) fun σ H Q ⟨G, S, rel, p⟩ => by
    refine rdE_go (g := fun x => do let xs ← ga S; .ok (x :: xs)) (Post := PostA c false G S σ H Q) rel p (fun _ z => z) (fun z => z) fun d1 v1 G1 H1 s1 q1 p1 => ?_
    refine rdA_go (g := fun xs => .ok (d1 :: xs)) (Post := PostA c false G S σ H Q) (rel.grow s1) p1 (fun _ z => z) (fun z => z) fun d2 v2 G2 H2 s2 q2 p2 => ?_
    exact p2 _ G2 H2 (s1.trans s2) (.cons (RD.mono s2.g q1) q2)
structure ClsT (K : PySem.W.Frag) (k : Kn) (ci : Nat) : Prop where
  ex : ∃ C nm, k.cl ci = some (C, nm) ∧ Cls K C ∧ PySem.W.findIn K (.ref C) "__class__" = some (some (.builtin "object.__class__")) ∧ PySem.W.specialIn K (.builtin "object.__class__") "__get__" = some (some (.builtin "getset_descriptor.__get__")) ∧
    PySem.W.takesIn K (.builtin "object.__class__") = some true ∧ PySem.W.mroIn K C (.type "object") = some true
theorem d_callS {n : Nat} {p : Pos} {es : List Expr} {fa : FA} (F : Fn0 X c.k x n false den) (ha : PA' X c false (e :: es) fa) (hl : Len n fa) (hg : Gl X x := by rfl) (hdb : (x == ("__debug__" : Str)) = false := by decide)
    (hs : starEach (e :: es) X.env = (false, eval e X.env) :: starEach es X.env := by rfl) (hs2 : ((backTo pos (starEach es X.env)).any fun x => x.1) = false := by rfl) : PE' X c .st (.Call (.Name x p) (e :: es) [] pos) (eC den fa) := d_call F ha hl hg hdb hs hs2
theorem d_methS {lv m' : Nat} (ci : Nat) {m : Str} {n : Nat} {es : List Expr} {fa : FA} {pl : Sem Bool} (F : Method X.prog X.w X.K X.mg X.base c.k lv ci m (n + 1) false den) (hr : Room m' X.A) (hle : lv ≤ m') (ho : PE' X c .st o f) (ha : PA' X c false (e :: es) fa) (hl : Len n fa)
    (hst : starEach (e :: es) X.env = (false, eval e X.env) :: starEach es X.env := by rfl) (hpl : (backTo pos (starEach es X.env)).any (·.1) = false := by rfl)
    (ht : eval (.Call (.Attribute o m apos) (e :: es) [] pos) X.env = (do
      let ov ← eval o X.env
      standAt apos.atName
      let (f, first) ← holding [ov] (getMethod ov m pl)
      callWith pos f first (backTo pos (starEach (e :: es) X.env)) (backToKw pos (keywordEach [] X.env))) := by rfl) :
    PE' X c .st (.Call (.Attribute o m apos) (e :: es) [] pos) (eM ci den f fa) := d_meth ci F hr hle ho ha hl hst hpl ht
theorem d_callF {n : Nat} {p : Pos} {es : List Expr} {fa : FA} (F : Fn0 X c.k x n true den) (ha : PA' X c false (e :: es) fa) (hl : Len n fa) (hg : Gl X x := by rfl) (hdb : (x == ("__debug__" : Str)) = false := by decide)
    (hs : starEach (e :: es) X.env = (false, eval e X.env) :: starEach es X.env := by rfl) (hs2 : ((backTo pos (starEach es X.env)).any fun x => x.1) = false := by rfl) : PE' X c .fr (.Call (.Name x p) (e :: es) [] pos) (eC den fa) := d_call F ha hl hg hdb hs hs2
theorem d_propS {lv m' : Nat} (ci : Nat) {m : Str} (F : Prope X.prog X.w X.K X.mg X.base c.k lv ci m false den) (hr : Room m' X.A) (hle : lv + 1 ≤ m') (ho : PE' X c .st o f)
    (hb : attributeBase o m X.env (eval o X.env) = eval o X.env := by rfl) : PE' X c .st (.Attribute o m pos) (eP ci den f) := d_prop ci F hr hle ho hb
end
end M
set_option Elab.async false
set_option linter.all false
set_option maxRecDepth 100000
set_option maxHeartbeats 4000000
namespace M
open PySem L2
def Ok {α : Type} (r : R α) (Q : α → Prop) : Prop := ∃ a, r = .ok a ∧ Q a
section
variable {α β : Type} {Q : α → Prop} {S : Env}
theorem Ok.mono {r : R α} {P : α → Prop} (h : Ok r P) (k : ∀ a, P a → Q a) : Ok r Q := by obtain ⟨a, e, p⟩ := h; exact ⟨a, e, k a p⟩
theorem ok_ok {a : α} : Ok (.ok a) Q ↔ Q a := ⟨fun ⟨_, e, q⟩ => (by cases e; exact q), fun q => ⟨a, rfl, q⟩⟩
theorem ok_bind {r : R β} {f : β → R α} : Ok (r >>= f) Q ↔ Ok r fun b => Ok (f b) Q := by
  cases r with
  | ok b => rw [ok_ok]; exact Iff.rfl
  | exc x => exact ⟨fun ⟨_, e, _⟩ => (nomatch e), fun ⟨_, e, _⟩ => (nomatch e)⟩
  | fail => exact ⟨fun ⟨_, e, _⟩ => (nomatch e), fun ⟨_, e, _⟩ => (nomatch e)⟩
theorem ok_nox {r : R α} : Ok r.nox Q ↔ Ok r Q := by
  cases r with
  | ok b => exact Iff.rfl
  | exc x => exact ⟨fun ⟨_, e, _⟩ => (nomatch e), fun ⟨_, e, _⟩ => (nomatch e)⟩
  | fail => exact Iff.rfl
theorem ok_if {c : Prop} [Decidable c] {a : R α} : Ok (if c then a else .fail) Q ↔ c ∧ Ok a Q := by
  by_cases h : c
  · rw [if_pos h]; exact ⟨fun z => ⟨h, z⟩, fun z => z.2⟩
  · rw [if_neg h]; exact ⟨fun ⟨_, e, _⟩ => (nomatch e), fun z => absurd z.1 h⟩
theorem Ok.eq {r : R α} {a : α} (h : Ok r fun x => x = a) : r = .ok a := by obtain ⟨x, e, rfl⟩ := h; exact e
end
section
variable {Q : D → Prop} {QB : Bool → Prop} {QL : List D → Prop} {QE : Env → Prop} {QS : Fl × Env → Prop} {QO : Option Int → Prop} {S : Env} {f g h : FE} {t u : FT} {fa : FA} {s r : FS} {i j : Nat} {d x y : D}
theorem k_I {i : Int} : Ok (eI i S) Q ↔ Q (.int i) := ok_ok
theorem k_S {i : Str} : Ok (eS i S) Q ↔ Q (.str i) := ok_ok
theorem k_B {i : Bool} : Ok (eB i S) Q ↔ Q (.bl i) := ok_ok
theorem k_N : Ok (eN S) Q ↔ Q .non := ok_ok
theorem k_G : Ok (eG d S) Q ↔ Q d := ok_ok
theorem k_Y {n : String} : Ok (eY n S) Q ↔ Q (.ty n) := ok_ok
def get0 (i : Nat) (S : Env) (Q : D → Prop) : Prop := match S[i]? with | some (some ⟨false, d⟩) => Q d | _ => False
def getA (i : Nat) (S : Env) (Q : D → Prop) : Prop := match S[i]? with | some (some ⟨_, d⟩) => Q d | _ => False
def get1 (i : Nat) (S : Env) (Q : D → Prop) : Prop := match S[i]? with | some (some ⟨true, d⟩) => Q d | _ => False
theorem ok_fail {α : Type} {Q : α → Prop} : Ok (.fail : R α) Q ↔ False := ⟨fun ⟨_, e, _⟩ => (nomatch e), False.elim⟩
theorem k_V : Ok (eV i S) Q ↔ get0 i S Q := by
  unfold eV get0
  cases S[i]? with
  | none => exact ok_fail
  | some o =>
    cases o with
    | none => exact ok_fail
    | some sl => obtain ⟨b, d⟩ := sl; cases b <;> first | exact ok_ok | exact ok_fail
theorem k_W : Ok (eW i S) Q ↔ getA i S Q := by
  unfold eW getA
  cases S[i]? with
  | none => exact ok_fail
  | some o =>
    cases o with
    | none => exact ok_fail
    | some sl => obtain ⟨b, d⟩ := sl; cases b <;> first | exact ok_ok | exact ok_fail
theorem k_O : Ok (eO i S) Q ↔ get1 i S Q := by
  unfold eO get1
  cases S[i]? with
  | none => exact ok_fail
  | some o =>
    cases o with
    | none => exact ok_fail
    | some sl => obtain ⟨b, d⟩ := sl; cases b <;> first | exact ok_ok | exact ok_fail
theorem g0_z {b : List (Option Sl)} {Q : D → Prop} : get0 0 (some ⟨false, d⟩ :: b) Q ↔ Q d := Iff.rfl
theorem g0_s {a : Option Sl} {b : List (Option Sl)} {Q : D → Prop} : get0 (i + 1) (a :: b) Q ↔ get0 i b Q := Iff.rfl
theorem gA_z {o : Bool} {b : List (Option Sl)} {Q : D → Prop} : getA 0 (some ⟨o, d⟩ :: b) Q ↔ Q d := Iff.rfl
theorem gA_s {a : Option Sl} {b : List (Option Sl)} {Q : D → Prop} : getA (i + 1) (a :: b) Q ↔ getA i b Q := Iff.rfl
theorem g1_z {b : List (Option Sl)} {Q : D → Prop} : get1 0 (some ⟨true, d⟩ :: b) Q ↔ Q d := Iff.rfl
theorem g1_s {a : Option Sl} {b : List (Option Sl)} {Q : D → Prop} : get1 (i + 1) (a :: b) Q ↔ get1 i b Q := Iff.rfl
theorem k_1 {o : D → R D} : Ok (e1 o f S) Q ↔ Ok (f S) fun x => Ok (o x) Q := by unfold e1; simp only [ok_bind, ok_nox]
theorem k_2 {o : D → D → R D} : Ok (e2 o f g S) Q ↔ Ok (f S) fun x => Ok (g S) fun y => Ok (o x y) Q := by unfold e2; simp only [ok_bind, ok_nox]
theorem k_n : Ok (aN S) QL ↔ QL [] := ok_ok
theorem k_c : Ok (aC f fa S) QL ↔ Ok (f S) fun x => Ok (fa S) fun xs => QL (x :: xs) := by unfold aC; simp only [ok_bind, ok_ok]
theorem k_T : Ok (eT fa S) Q ↔ Ok (fa S) fun xs => xs.length ≤ sizeLine ∧ Q (.tup xs) := by unfold eT mkT; simp only [ok_bind, ok_if, ok_ok]
theorem k_L : Ok (eL fa S) Q ↔ Ok (fa S) fun xs => xs.length ≤ sizeLine ∧ Q (.lst xs) := by unfold eL mkL; simp only [ok_bind, ok_if, ok_ok]
theorem k_C {o : List D → R D} : Ok (eC o fa S) Q ↔ Ok (fa S) fun xs => Ok (o xs) Q := by unfold eC; simp only [ok_bind, ok_nox]
theorem k_f1 {o : D → R D} : Ok (f1 o [x]) Q ↔ Ok (o x) Q := Iff.rfl
theorem k_f2 {o : D → D → R D} : Ok (f2 o [x, y]) Q ↔ Ok (o x y) Q := Iff.rfl
theorem k_App {fk : FA} : Ok (fApp fa fk S) QL ↔ Ok (fa S) fun xs => Ok (fk S) fun ys => QL (xs ++ ys) := by unfold fApp; simp only [ok_bind, ok_ok]
theorem k_M {ci : Nat} {den : List D → R D} : Ok (eM ci den f fa S) Q ↔ Ok (f S) fun o => o.isObj ci = true ∧ Ok (fa S) fun ds => Ok (den (o :: ds)) Q := by unfold eM; simp only [ok_bind, ok_if, ok_nox]
theorem k_P {ci : Nat} {den : List D → R D} : Ok (eP ci den f S) Q ↔ Ok (f S) fun o => o.isObj ci = true ∧ Ok (den [o]) Q := by unfold eP; rw [k_M]; simp only [ok_ok]
theorem ok_b {α : Type} {Q : α → Prop} {b : Bool} {a c : R α} : Ok (if b = true then a else c) Q ↔ (b = true → Ok a Q) ∧ (b = false → Ok c Q) := by cases b <;> simp
theorem k_3 {o o' : D → D → R D} : Ok (e3 o o' f g h S) Q ↔ Ok (f S) fun x => Ok (g S) fun y => Ok (o x y) fun b => Ok (toB b) fun b => (b = true → Ok (h S) fun z => Ok (o' y z) Q) ∧ (b = false → Q (.bl false)) := by
  unfold e3
  simp only [ok_bind, ok_nox, ok_b, ok_ok]
theorem k_tB : Ok (tB' f S) QB ↔ Ok (f S) fun x => Ok (toB x) QB := by unfold tB'; simp only [ok_bind]
theorem k_tT : Ok (tT' f S) QB ↔ Ok (f S) fun x => Ok (truD x) QB := by unfold tT'; simp only [ok_bind]
theorem k_toB {b : Bool} : Ok (toB (.bl b)) QB ↔ QB b := ok_ok
theorem k_tNo : Ok (tNo t S) QB ↔ Ok (t S) fun b => QB (!b) := by unfold tNo; simp only [ok_bind, ok_ok]
theorem k_tA : Ok (tA t u S) QB ↔ Ok (t S) fun b => (b = true → Ok (u S) QB) ∧ (b = false → QB false) := by unfold tA; simp only [ok_bind, ok_b, ok_ok]
theorem k_tO : Ok (tO t u S) QB ↔ Ok (t S) fun b => (b = true → QB true) ∧ (b = false → Ok (u S) QB) := by unfold tO; simp only [ok_bind, ok_b, ok_ok]
theorem k_tY : Ok (tY S) QB ↔ QB true := ok_ok
theorem k_And : Ok (eAnd f g S) Q ↔ Ok (f S) fun x => Ok (toB x) fun b => (b = true → Ok (g S) Q) ∧ (b = false → Q (.bl false)) := by unfold eAnd; simp only [ok_bind, ok_b, ok_ok]
theorem k_Or : Ok (eOr f g S) Q ↔ Ok (f S) fun x => Ok (toB x) fun b => (b = true → Q (.bl true)) ∧ (b = false → Ok (g S) Q) := by unfold eOr; simp only [ok_bind, ok_b, ok_ok]
theorem k_Not : Ok (eNot f S) Q ↔ Ok (f S) fun x => Ok (toB x) fun b => Q (.bl (!b)) := by unfold eNot; simp only [ok_bind, ok_ok]
theorem k_eIf : Ok (eIf t f g S) Q ↔ Ok (t S) fun b => (b = true → Ok (f S) Q) ∧ (b = false → Ok (g S) Q) := by unfold eIf; simp only [ok_bind, ok_b]
theorem k_nil : Ok (sNil S) QS ↔ QS (.nx, S) := ok_ok
theorem k_seq : Ok (sSeq s r S) QS ↔ Ok (s S) fun z => match z.1 with | .nx => Ok (r z.2) QS | _ => QS z := by
  unfold sSeq
  rw [ok_bind]
  apply iff_of_eq
  congr 1
  funext z
  obtain ⟨fl, S'⟩ := z
  cases fl <;> simp [ok_ok]
theorem k_set : Ok (sSet i f S) QS ↔ Ok (f S) fun d => QS (.nx, S.set i (some ⟨false, d⟩)) := by unfold sSet; simp only [ok_bind, ok_ok]
theorem k_own : Ok (sOwn i f S) QS ↔ Ok (f S) fun d => QS (.nx, S.set i (some ⟨true, d⟩)) := by unfold sOwn; simp only [ok_bind, ok_ok]
theorem k_drop : Ok (sDrop f S) QS ↔ Ok (f S) fun d => QS (.nx, S) := by unfold sDrop; simp only [ok_bind, ok_ok]
theorem k_ret : Ok (sRet f S) QS ↔ Ok (f S) fun d => QS (.rt d, S) := by unfold sRet; simp only [ok_bind, ok_ok]
theorem k_retN : Ok (sRetN S) QS ↔ QS (.rt .non, S) := ok_ok
theorem k_retO : Ok (sRetO i S) QS ↔ get1 i S fun d => QS (.rt d, S) := by unfold sRetO; simp only [ok_bind, ok_ok, k_O]
theorem k_if : Ok (sIf t s r S) QS ↔ Ok (t S) fun b => (b = true → Ok (s S) QS) ∧ (b = false → Ok (r S) QS) := by unfold sIf; simp only [ok_bind, ok_b]
theorem k_fz : Ok (sFz i s S) QS ↔ Ok (s (fzS S i)) QS := Iff.rfl
theorem fz_z {b : Bool} {l : List (Option Sl)} : fzS (some ⟨b, d⟩ :: l) 0 = some ⟨false, d⟩ :: l := by cases b <;> rfl
theorem fz_s {a : Option Sl} {l : List (Option Sl)} : fzS (a :: l) (i + 1) = a :: fzS l i := by
  unfold fzS
  rw [List.getElem?_cons_succ]
  split <;> simp [*]
theorem k_gN : Ok (gN i d S) QE ↔ QE (S.set i (some ⟨false, d⟩)) := ok_ok
theorem k_gsN : Ok (gsN [] S) QE ↔ QE S := ok_ok
theorem k_gsC {ga : FG} {gr : FGs} {ds : List D} : Ok (gsC ga gr (d :: ds) S) QE ↔ Ok (ga d S) fun S1 => Ok (gr ds S1) QE := ok_bind
theorem k_gT {n : Nat} {gr : FGs} {ds : List D} : Ok (gT n gr (.tup ds) S) QE ↔ ds.length = n ∧ Ok (gr ds S) QE := ok_if
theorem k_asg {ga : FG} : Ok (sAsg ga f S) QS ↔ Ok (f S) fun d => Ok (ga d S) fun S1 => QS (.nx, S1) := by unfold sAsg; simp only [ok_bind, ok_nox, ok_ok]
theorem k_for {fi : FI} {ga : FG} : Ok (sFor fi ga s S) QS ↔ Ok (fi S) fun ds => Ok (forF ga s ds S) QS := ok_bind
theorem k_fnil {ga : FG} : Ok (forF ga s [] S) QS ↔ QS (.nx, S) := ok_ok
theorem k_fcons {ga : FG} {ds : List D} : Ok (forF ga s (d :: ds) S) QS ↔ Ok (ga d S) fun S1 => Ok (s S1) fun z => match z.1 with
    | .nx => Ok (forF ga s ds z.2) QS
    | .ct => Ok (forF ga s ds z.2) QS
    | .bk => QS (.nx, z.2)
    | .rt d => QS (.rt d, z.2) := by
  show Ok ((ga d S).nox >>= _) QS ↔ _
  rw [ok_bind, ok_nox]
  apply iff_of_eq
  congr 1
  funext S1
  refine propext ?_
  rw [ok_bind]
  apply iff_of_eq
  congr 1
  funext z
  obtain ⟨fl, S'⟩ := z
  cases fl <;> simp [ok_ok]
theorem for_inv {ga : FG} (P : Nat → Env → Prop) : ∀ (ds : List D) (n : Nat) (S : Env), P n S → (∀ i d S, ds[i]? = some d → P (n + i) S → Ok (ga d S) fun S1 => Ok (s S1) fun z => match z.1 with
    | .nx => P (n + i + 1) z.2
    | .ct => P (n + i + 1) z.2
    | .bk => QS (.nx, z.2)
    | .rt d => QS (.rt d, z.2)) → (∀ S, P (n + ds.length) S → QS (.nx, S)) → Ok (forF ga s ds S) QS
  | [], n, S, h, _, q => ok_ok.mpr (q S h)
  | d :: ds, n, S, h, k, q => by
    rw [k_fcons]
    refine (k 0 d S rfl h).mono fun S1 h1 => h1.mono fun z hz => ?_
    have next : ∀ S', P (n + 0 + 1) S' → Ok (forF ga s ds S') QS := fun S' hp => for_inv P ds (n + 1) S' hp (fun i d' S'' hi hp => by
      have := k (i + 1) d' S'' (by simpa using hi) (by rwa [show n + (i + 1) = n + 1 + i by omega])
      rwa [show n + (i + 1) + 1 = n + 1 + i + 1 by omega] at this) fun S'' h => q S'' (by rwa [List.length_cons, show n + (ds.length + 1) = n + 1 + ds.length by omega])
    obtain ⟨fl, S'⟩ := z
    cases fl with
    | nx => exact next S' hz
    | ct => exact next S' hz
    | bk => exact hz
    | rt d => exact hz
theorem k_app : Ok (sApp i f S) QS ↔ Ok (ownL i S) fun ds => Ok (f S) fun d => ds.length < sizeLine ∧ QS (.nx, S.set i (some ⟨true, .lst (ds ++ [d])⟩)) := by unfold sApp; simp only [ok_bind, ok_if, ok_ok]
theorem oL_z {l : List (Option Sl)} {ds : List D} : Ok (ownL 0 (some ⟨true, .lst ds⟩ :: l)) QL ↔ QL ds := ok_ok
theorem oL_s {a : Option Sl} {l : List (Option Sl)} : Ok (ownL (i + 1) (a :: l)) QL ↔ Ok (ownL i l) QL := Iff.rfl
theorem k_par {is : List Nat} : Ok (sPar is fa S) QS ↔ Ok (fa S) fun ds => ds.length = is.length ∧ QS (.nx, putS S is ds) := by unfold sPar; simp only [ok_bind, ok_if, ok_ok]
theorem k_run {n : Nat} {ds : List D} : Ok (runF false n s ds) Q ↔ Ok (s (startS n ds)) fun z => match z.1 with | .rt d => Q d | .nx => Q .non | _ => False := by
  unfold runF
  cases e : s (startS n ds) with
  | ok z =>
    rw [ok_ok]
    obtain ⟨fl, S'⟩ := z
    cases fl <;> simp [endF, ok_ok, ok_fail]
  | exc x => exact ⟨fun ⟨_, e, _⟩ => (nomatch e), fun ⟨_, e, _⟩ => (nomatch e)⟩
  | fail => exact ⟨fun ⟨_, e, _⟩ => (nomatch e), fun ⟨_, e, _⟩ => (nomatch e)⟩
theorem k_runN {n ci : Nat} {ds : List D} : Ok (runN n ci s ds) Q ↔ Ok (s (startN n ci ds)) fun z => match z.1 with | .nx => get1 0 z.2 Q | _ => False := by
  unfold runN
  cases e : s (startN n ci ds) with
  | ok z =>
    rw [ok_ok]
    obtain ⟨fl, S'⟩ := z
    cases fl with
    | nx =>
      show Ok (endN (.ok (.nx, S'))) Q ↔ get1 0 S' Q
      unfold endN get1
      dsimp only
      cases S'[0]? with
      | none => exact ok_fail
      | some o =>
        cases o with
        | none => exact ok_fail
        | some sl => obtain ⟨b, d⟩ := sl; cases b <;> first | exact ok_ok | exact ok_fail
    | _ => exact ok_fail
  | exc x => exact ⟨fun ⟨_, e, _⟩ => (nomatch e), fun ⟨_, e, _⟩ => (nomatch e)⟩
  | fail => exact ⟨fun ⟨_, e, _⟩ => (nomatch e), fun ⟨_, e, _⟩ => (nomatch e)⟩
theorem k_fld {ci : Nat} : Ok (sFldN ci i j f S) QS ↔ Ok (ownO ci i S) fun ds => Ok (f S) fun d => ds.length = j ∧ QS (.nx, S.set i (some ⟨true, .obj ci (ds ++ [d])⟩)) := by unfold sFldN; simp only [ok_bind, ok_if, ok_ok]
theorem oO_z {ci : Nat} {l : List (Option Sl)} {ds : List D} : Ok (ownO ci 0 (some ⟨true, .obj ci ds⟩ :: l)) QL ↔ QL ds := by
  show Ok (if ci = ci then _ else _) QL ↔ _
  rw [if_pos rfl]; exact ok_ok
theorem k_add {a b : Int} : Ok (addD (.int a) (.int b)) Q ↔ Q (.int (a + b)) := ok_ok
theorem k_addL {a b : List D} : Ok (addD (.lst a) (.lst b)) Q ↔ a.length + b.length ≤ sizeLine ∧ Q (.lst (a ++ b)) := by show Ok (if _ then _ else _) Q ↔ _; rw [ok_if, ok_ok]
theorem k_sub {a b : Int} : Ok (subD (.int a) (.int b)) Q ↔ Q (.int (a - b)) := ok_ok
theorem k_mul {a b : Int} : Ok (mulD (.int a) (.int b)) Q ↔ (CMul a b ∨ CMulX a b) ∧ Q (.int (a * b)) := by show Ok (if _ then _ else _) Q ↔ _; rw [ok_if, ok_ok]
theorem k_div {a b : Int} : Ok (fdivD (.int a) (.int b)) Q ↔ CDiv a b ∧ Q (.int (a / b)) := by show Ok (if _ then _ else _) Q ↔ _; rw [ok_if, ok_ok]
theorem k_mod {a b : Int} : Ok (modD (.int a) (.int b)) Q ↔ 0 < b ∧ Q (.int (a % b)) := by show Ok (if _ then _ else _) Q ↔ _; rw [ok_if, ok_ok]
theorem k_pow {a b : Int} : Ok (powD (.int a) (.int b)) Q ↔ CPow a b ∧ Q (.int (a ^ b.toNat)) := by show Ok (if _ then _ else _) Q ↔ _; rw [ok_if, ok_ok]
theorem k_neg {a : Int} : Ok (negD (.int a)) Q ↔ Q (.int (-a)) := ok_ok
theorem k_lt {a b : Int} : Ok (ltD (.int a) (.int b)) Q ↔ Q (.bl (decide (a < b))) := ok_ok
theorem k_le {a b : Int} : Ok (leD (.int a) (.int b)) Q ↔ Q (.bl (decide (a ≤ b))) := ok_ok
theorem k_gt {a b : Int} : Ok (gtD (.int a) (.int b)) Q ↔ Q (.bl (decide (b < a))) := ok_ok
theorem k_ge {a b : Int} : Ok (geD (.int a) (.int b)) Q ↔ Q (.bl (decide (b ≤ a))) := ok_ok
theorem k_eqI {a b : Int} : Ok (eqD (.int a) (.int b)) Q ↔ Q (.bl (decide (a = b))) := by
  have e : eqD (.int a) (.int b) = .ok (.bl (decide (a = b))) := by
    unfold eqD; simp only [dok, deq, Bool.and_self, if_true]; rfl
  rw [e, ok_ok]
theorem k_neI {a b : Int} : Ok (neD (.int a) (.int b)) Q ↔ Q (.bl (!decide (a = b))) := by
  have e : neD (.int a) (.int b) = .ok (.bl (!decide (a = b))) := by
    unfold neD; simp only [dok, deq, Bool.and_self, if_true]; rfl
  rw [e, ok_ok]
theorem k_int {a : Int} : Ok (intD (.int a)) Q ↔ Q (.int a) := ok_ok
theorem k_intB {b : Bool} : Ok (intD (.bl b)) Q ↔ Q (.int (if b then 1 else 0)) := ok_ok
theorem k_abs {a : Int} : Ok (absD (.int a)) Q ↔ Q (.int (if a < 0 then -a else a)) := ok_ok
theorem k_lenL {a : List D} : Ok (lenD (.lst a)) Q ↔ Q (.int a.length) := ok_ok
theorem k_lenT {a : List D} : Ok (lenD (.tup a)) Q ↔ Q (.int a.length) := ok_ok
theorem k_lenC {a : List Int} : Ok (lenD (.scr a)) Q ↔ Q (.int a.length) := ok_ok
theorem k_tru {b : Bool} : Ok (truD (.bl b)) QB ↔ QB b := ok_ok
theorem k_tupL {a : List D} : Ok (tupD (.lst a)) Q ↔ Q (.tup a) := ok_ok
theorem k_tupT {a : List D} : Ok (tupD (.tup a)) Q ↔ Q (.tup a) := ok_ok
theorem k_fldD {ci j : Nat} {ds : List D} : Ok (fldD ci j (.obj ci ds)) Q ↔ ∃ d, ds[j]? = some d ∧ Q d := by
  show Ok (if ci = ci then _ else _) Q ↔ _
  rw [if_pos rfl]
  cases h : ds[j]? with
  | none => exact ⟨fun ⟨_, e, _⟩ => (nomatch e), fun ⟨_, e, _⟩ => (nomatch e)⟩
  | some d => exact ⟨fun q => ⟨d, rfl, ok_ok.mp q⟩, fun ⟨_, e, q⟩ => by cases e; exact ok_ok.mpr q⟩
theorem k_items_l {ds : List D} : Ok (itemsD (.lst ds)) QL ↔ QL ds := ok_ok
theorem k_items_t {ds : List D} : Ok (itemsD (.tup ds)) QL ↔ QL ds := ok_ok
theorem k_rng1 {j : Int} : Ok (rng1 [.int j]) QL ↔ (-(2 ^ 62) ≤ j ∧ j < 2 ^ 62) ∧ QL (rngL 0 j.toNat) := by show Ok (if _ then _ else _) QL ↔ _; rw [ok_if, ok_ok]
theorem k_ixL {xs : List D} {i : Int} : Ok (ixD (.lst xs) (.int i)) Q ↔ ∃ d, L2.atI xs i = some d ∧ Q d := by
  show Ok (match L2.atI xs i with | some d => .ok d | none => .fail) Q ↔ _
  cases L2.atI xs i with
  | none => exact ⟨fun ⟨_, e, _⟩ => (nomatch e), fun ⟨_, e, _⟩ => (nomatch e)⟩
  | some d => exact ⟨fun q => ⟨d, rfl, ok_ok.mp q⟩, fun ⟨_, e, q⟩ => by cases e; exact ok_ok.mpr q⟩
theorem k_ixT {xs : List D} {i : Int} : Ok (ixD (.tup xs) (.int i)) Q ↔ ∃ d, L2.atI xs i = some d ∧ Q d := by
  show Ok (match L2.atI xs i with | some d => .ok d | none => .fail) Q ↔ _
  cases L2.atI xs i with
  | none => exact ⟨fun ⟨_, e, _⟩ => (nomatch e), fun ⟨_, e, _⟩ => (nomatch e)⟩
  | some d => exact ⟨fun q => ⟨d, rfl, ok_ok.mp q⟩, fun ⟨_, e, q⟩ => by cases e; exact ok_ok.mpr q⟩
theorem k_ixC {xs : List Int} {i : Int} : Ok (ixD (.scr xs) (.int i)) Q ↔ ∃ d, L2.atI xs i = some d ∧ Q (.int d) := by
  show Ok (match L2.atI xs i with | some d => .ok (.int d) | none => .fail) Q ↔ _
  cases L2.atI xs i with
  | none => exact ⟨fun ⟨_, e, _⟩ => (nomatch e), fun ⟨_, e, _⟩ => (nomatch e)⟩
  | some d => exact ⟨fun q => ⟨d, rfl, ok_ok.mp q⟩, fun ⟨_, e, q⟩ => by cases e; exact ok_ok.mpr q⟩
end
theorem k_no {QS : Fl × Env → Prop} {S : Env} : Ok (sNo S) QS ↔ False := ok_fail
theorem k_guard {QS : Fl × Env → Prop} {S : Env} {t : FT} : Ok (sIf t sNo sNil S) QS ↔ Ok (t S) fun b => b = false ∧ QS (.nx, S) := by
  rw [k_if]
  apply iff_of_eq
  congr 1
  funext b
  cases b <;> simp [k_no, k_nil]
theorem seq_cut {QS : Fl × Env → Prop} {S : Env} {s r : FS} (P : Env → Prop) (h : Ok (s S) fun z => z.1 = .nx ∧ P z.2) (k : ∀ S', P S' → Ok (r S') QS) : Ok (sSeq s r S) QS := by
  rw [k_seq]
  refine h.mono fun z hz => ?_
  obtain ⟨fl, S'⟩ := z
  obtain ⟨rfl, hp⟩ := hz
  exact k S' hp
theorem mul_r {i j : Int} (h1 : -(2 ^ 64) < j) (h2 : j < 2 ^ 64) : CMul i j ∨ CMulX i j := .inl (.inr ⟨h1, h2⟩)
theorem mul_l {i j : Int} (h1 : -(2 ^ 64) < i) (h2 : i < 2 ^ 64) : CMul i j ∨ CMulX i j := .inl (.inl ⟨h1, h2⟩)
theorem div_c {i j : Int} (h1 : 0 < j) (h2 : j < 1073741824) : CDiv i j := ⟨h1, h2⟩
theorem atI_mem {α : Type} {xs : List α} {i : Int} {a : α} (h : L2.atI xs i = some a) : a ∈ xs := by
  unfold L2.atI at h
  cases e : ixN xs.length i with
  | none => rw [e] at h; cases h
  | some n => rw [e] at h; exact List.mem_of_getElem? h
theorem atI_lt {α : Type} {xs : List α} {i : Int} (h0 : 0 ≤ i) (h : i < xs.length) : ∃ a, L2.atI xs i = some a := by
  have hi : i.toNat < xs.length := by omega
  refine ⟨xs[i.toNat], ?_⟩
  unfold L2.atI ixN
  rw [if_pos h0, if_pos h]
  exact List.getElem?_eq_getElem hi
theorem rngL_get {lo : Int} {n i : Nat} {d : D} (h : (rngL lo n)[i]? = some d) : i < n ∧ d = .int (lo + i) := by
  unfold rngL at h
  rw [List.getElem?_map] at h
  by_cases hi : i < n
  · rw [List.getElem?_range hi] at h
    cases h
    exact ⟨hi, rfl⟩
  · rw [List.getElem?_eq_none (by simp; omega)] at h
    cases h
theorem rngL_len {lo : Int} {n : Nat} : (rngL lo n).length = n := by unfold rngL; simp
theorem size_ge : (1048576 : Nat) ≤ sizeLine := by decide
end M
namespace M
open PySem L2
theorem lc_typed {α : Type} {ga : FG} {t : FT} {fe : FE} {S : Env} (f : α → D) (p : α → Bool) (g : α → D) : ∀ (xs : List α), (∀ x ∈ xs, Ok (ga (f x) S) fun S1 => Ok (t S1) fun b => b = p x ∧ (p x = true → Ok (fe S1) fun y => y = g x)) → lcF ga t fe S (xs.map f) = .ok ((xs.filter p).map g)
  | [], _ => rfl
  | x :: xs, h => by
    have ih := lc_typed f p g xs fun y hy => h y (List.mem_cons_of_mem _ hy)
    obtain ⟨S1, e1, b, e2, rfl, k⟩ := h x (List.mem_cons_self ..)
    show ((ga (f x) S).nox >>= fun S1 => (t S1).nox >>= fun b => if b then (fe S1).nox >>= fun y => lcF ga t fe S (xs.map f) >>= fun ys => .ok (y :: ys) else lcF ga t fe S (xs.map f)) = _
    rw [e1, R.nox_ok, R.ok_bind, e2, R.nox_ok, R.ok_bind, ih]
    by_cases hp : p x = true
    · obtain ⟨y, e3, rfl⟩ := k hp
      rw [if_pos hp, e3, R.nox_ok, R.ok_bind, R.ok_bind, List.filter_cons_of_pos hp, List.map_cons]
    · rw [if_neg hp, List.filter_cons_of_neg hp]
theorem k_lc {fi : FI} {ga : FG} {t : FT} {fe : FE} {vs : List Nat} {S : Env} {Q : D → Prop} : Ok (lcE fi ga t fe vs S) Q ↔ Ok (fi S) fun ds => ds.length ≤ sizeLine ∧ Ok (lcF ga t fe (wipeS S vs) ds) fun ys => Q (.lst ys) := by
  unfold lcE; simp only [ok_bind, ok_if, ok_ok]
theorem k_lcT {α : Type} {fi : FI} {ga : FG} {t : FT} {fe : FE} {vs : List Nat} {S : Env} {Q : D → Prop} (f : α → D) (p : α → Bool) (g : α → D) (xs : List α) (hi : Ok (fi S) fun ds => ds = xs.map f) (hl : xs.length ≤ sizeLine)
    (h : ∀ x ∈ xs, Ok (ga (f x) (wipeS S vs)) fun S1 => Ok (t S1) fun b => b = p x ∧ (p x = true → Ok (fe S1) fun y => y = g x)) (q : Q (.lst ((xs.filter p).map g))) : Ok (lcE fi ga t fe vs S) Q := by
  rw [k_lc]
  obtain ⟨ds, e, rfl⟩ := hi
  refine ⟨_, e, by rwa [List.length_map], ?_⟩
  rw [lc_typed f p g xs h, ok_ok]
  exact q
theorem filter_true {α : Type} {p : α → Bool} : ∀ {xs : List α}, (∀ x ∈ xs, p x = true) → xs.filter p = xs
  | [], _ => rfl
  | x :: xs, h => by rw [List.filter_cons_of_pos (h x (List.mem_cons_self ..)), filter_true fun y hy => h y (List.mem_cons_of_mem _ hy)]
theorem k_lcM {α : Type} {fi : FI} {ga : FG} {fe : FE} {vs : List Nat} {S : Env} {Q : D → Prop} (f : α → D) (g : α → D) (xs : List α) (hi : Ok (fi S) fun ds => ds = xs.map f) (hl : xs.length ≤ sizeLine)
    (h : ∀ x ∈ xs, Ok (ga (f x) (wipeS S vs)) fun S1 => Ok (fe S1) fun y => y = g x) (q : Q (.lst (xs.map g))) : Ok (lcE fi ga tY fe vs S) Q := by
  refine k_lcT f (fun _ => true) g xs hi hl (fun x hx => (h x hx).mono fun S1 h1 => ok_ok.mpr ⟨rfl, fun _ => h1⟩) ?_
  rw [filter_true fun _ _ => rfl]
  exact q
theorem asB_mapf {α : Type} (f : α → Bool) : ∀ xs : List α, asB (xs.map fun x => .bl (f x)) = some (xs.map f)
  | [] => rfl
  | x :: xs => by simp only [List.map_cons, asB, asB_mapf f xs, Option.map_some]
theorem asI_mapf {α : Type} (f : α → Int) : ∀ xs : List α, asI (xs.map fun x => .int (f x)) = some (xs.map f)
  | [] => rfl
  | x :: xs => by simp only [List.map_cons, asI, asI_mapf f xs, Option.map_some]
theorem k_any {α : Type} (f : α → Bool) (xs : List α) {Q : D → Prop} : Ok (anyD (.lst (xs.map fun x => .bl (f x)))) Q ↔ Q (.bl (xs.any f)) := by
  have e : anyD (.lst (xs.map fun x => .bl (f x))) = .ok (.bl (xs.any f)) := by
    simp only [anyD, asB_mapf]
    rw [List.any_map]; rfl
  rw [e, ok_ok]
theorem k_all {α : Type} (f : α → Bool) (xs : List α) {Q : D → Prop} : Ok (allD (.lst (xs.map fun x => .bl (f x)))) Q ↔ Q (.bl (xs.all f)) := by
  have e : allD (.lst (xs.map fun x => .bl (f x))) = .ok (.bl (xs.all f)) := by
    simp only [allD, asB_mapf]
    rw [List.all_map]; rfl
  rw [e, ok_ok]
theorem k_maxc {α : Type} (f : α → Int) (n : Int) (xs : List α) {Q : D → Prop} : Ok (maxD (.lst (.int n :: xs.map fun x => .int (f x)))) Q ↔ Q (.int (maxL (n :: xs.map f))) := by
  have e : maxD (.lst (.int n :: xs.map fun x => .int (f x))) = .ok (.int (maxL (n :: xs.map f))) := by
    unfold maxD
    simp only [asI, asI_mapf, Option.map_some]
  rw [e, ok_ok]
theorem for_typed {α : Type} {ga : FG} {s : FS} {QS : Fl × Env → Prop} (f : α → D) (P : List α → Env → Prop) (xs : List α) (S : Env) (h0 : P [] S)
    (h : ∀ (done : List α) (x : α) (rest : List α) (S : Env), xs = done ++ x :: rest → P done S → Ok (ga (f x) S) fun S1 => Ok (s S1) fun z => match z.1 with
      | .nx => P (done ++ [x]) z.2
      | .ct => P (done ++ [x]) z.2
      | .bk => QS (.nx, z.2)
      | .rt d => QS (.rt d, z.2)) (q : ∀ S, P xs S → QS (.nx, S)) : Ok (forF ga s (xs.map f) S) QS := by
  suffices H : ∀ (rest done : List α) (S : Env), xs = done ++ rest → P done S → Ok (forF ga s (rest.map f) S) QS from H xs [] S rfl h0
  intro rest
  induction rest with
  | nil => intro done S e hp; rw [List.append_nil] at e; subst e; exact ok_ok.mpr (q S hp)
  | cons x rest ih =>
    intro done S e hp
    rw [List.map_cons, k_fcons]
    refine (h done x rest S e hp).mono fun S1 h1 => h1.mono fun z hz => ?_
    obtain ⟨fl, S'⟩ := z
    have e' : xs = (done ++ [x]) ++ rest := by rw [e]; simp
    cases fl with
    | nx => exact ih (done ++ [x]) S' e' hz
    | ct => exact ih (done ++ [x]) S' e' hz
    | bk => exact hz
    | rt d => exact hz
end M
set_option Elab.async false
set_option linter.all false
set_option maxRecDepth 100000
set_option maxHeartbeats 4000000
namespace M
open PySem L2
def isStrD : D → Bool
  | .str _ => true
  | _ => false
def okCD (ds : List D) : Bool := decide (ds.length < 2) || (decide (3 < ds.length) || ds.all isStrD)
mutual
def dB (K : PySem.W.Frag) : D → Value → Bool
  | .non, .none => true
  | .bl b, .bool c => b == c
  | .int i, .int j _ => decide (i = j)
  | .str x, .str y _ => decide (x = y)
  | .tup ds, .ref a => (match K.lookup a with
    | some ⟨.type c, _, .seq its _, _⟩ => decide (c = "tuple") && (decide (its.size ≤ sizeLine) && (okCD ds && dsB K ds its.toList))
    | _ => false)
  | _, _ => false
termination_by structural d => d
def dsB (K : PySem.W.Frag) : List D → List Value → Bool
  | [], [] => true
  | d :: ds, u :: us => dB K d u && dsB K ds us
  | _, _ => false
termination_by structural ds => ds
end
theorem okCD_ok {k : Kn} {G : Hp} {ds : List D} {vs : List V} (r : RDs k G ds vs) (h : okCD ds = true) : okC vs = true := by
  have e : ∀ {ds : List D} {vs : List V}, RDs k G ds vs → ds.all isStrD = true → (vs.all fun x => match x with | .str _ => true | _ => false) = true := by
    intro ds vs r h
    induction ds generalizing vs with
    | nil => cases r; rfl
    | cons d ds ih =>
      cases r with
      | cons a b =>
        rw [List.all_cons, Bool.and_eq_true] at h
        rw [List.all_cons, ih b h.2, Bool.and_true]
        have h1 := h.1
        unfold isStrD at h1
        split at h1
        · cases a; rfl
        · cases h1
  unfold okCD at h
  unfold okC
  rw [← r.length]
  simp only [Bool.or_eq_true, decide_eq_true_eq] at h ⊢
  rcases h with h | h | h
  · exact .inl h
  · exact .inr (.inl h)
  · exact .inr (.inr (e r h))
section
variable {K : PySem.W.Frag} {cl : Nat → Option (Addr × List Str)}
mutual
theorem dB_ok : ∀ {d : D} {u : Value}, dB K d u = true → ∃ v, RelV v u ∧ ∀ G, RD ⟨K, cl⟩ G d v
  | .non, .none, _ => ⟨.non, rfl, fun _ => .non⟩
  | .bl b, .bool c, h => by simp only [dB, beq_iff_eq] at h; subst h; exact ⟨.bl b, rfl, fun _ => .bl _⟩
  | .int i, .int j t, h => by simp only [dB, decide_eq_true_eq] at h; subst h; exact ⟨.int i, ⟨t, rfl⟩, fun _ => .int _⟩
  | .str x, .str y t, h => by simp only [dB, decide_eq_true_eq] at h; subst h; exact ⟨.str x, ⟨t, rfl⟩, fun _ => .str _⟩
  | .tup ds, .ref a, h => by
    simp only [dB] at h
    split at h
    · rename_i c od its n sl e
      simp only [Bool.and_eq_true, decide_eq_true_eq] at h
      obtain ⟨h1, h2, h4, h3⟩ := h
      obtain ⟨vs, r1, r2⟩ := dsB_ok h3
      exact ⟨.ref a, rfl, fun G => .tup (.inr ⟨_, its, n, e, congrArg Value.type h1, rfl, h2, r1, okCD_ok (r2 G) h4⟩) (r2 G)⟩
    · cases h
theorem dsB_ok : ∀ {ds : List D} {us : List Value}, dsB K ds us = true → ∃ vs, Vals vs us ∧ ∀ G, RDs ⟨K, cl⟩ G ds vs
  | [], [], _ => ⟨[], .nil, fun _ => .nil⟩
  | d :: ds, u :: us, h => by
    simp only [dsB, Bool.and_eq_true] at h
    obtain ⟨v, r1, r2⟩ := dB_ok h.1
    obtain ⟨vs, q1, q2⟩ := dsB_ok h.2
    exact ⟨v :: vs, .cons r1 q1, fun G => .cons (r2 G) (q2 G)⟩
end
end
def gB (K : PySem.W.Frag) (q : Str × D) : Bool := match PySem.W.nsIn K mainGlobals q.1 with
  | some (some u) => dB K q.2 u
  | _ => false
theorem gB_ok {K : PySem.W.Frag} {h : Heap} {mg : Str → Option Value} {cl : Nat → Option (Addr × List Str)} {x : Str} {d : D} (X : K.In h) (G : h.Ns mainGlobals mg) (c : gB K (x, d) = true) : Gc mg ⟨K, cl⟩ x d := by
  unfold gB at c
  split at c
  · rename_i u e
    obtain ⟨v, r1, r2⟩ := dB_ok (cl := cl) c
    exact ⟨v, u, PySem.W.mg_of X G e, r1, r2⟩
  · cases c
theorem gcls_ok {K : PySem.W.Frag} {mg : Str → Option Value} {cl : Nat → Option (Addr × List Str)} {x : Str} {ci : Nat} {C : Addr} {nm : List Str} (h : mg x = some (.ref C)) (hc : cl ci = some (C, nm)) : Gc mg ⟨K, cl⟩ x (.cls ci) :=
  ⟨.ref C, .ref C, h, rfl, fun _ => .cls hc⟩
def tyB (K : PySem.W.Frag) (x : Str) : Bool := He.eqO (PySem.W.findIn K (.ref (He.ga K x)) "__class__") (some (some (.builtin "object.__class__"))) && (He.eqO (PySem.W.specialIn K (.builtin "object.__class__") "__get__") (some (some (.builtin "getset_descriptor.__get__"))) &&
  (decide (PySem.W.takesIn K (.builtin "object.__class__") = some true) && decide (PySem.W.mroIn K (He.ga K x) (.type "object") = some true)))
structure Fx where
  fa : List He.Fa
  gs : List (Str × D)
  ts : List Str
def Fx.ok (x : Fx) (K : PySem.W.Frag) : Bool := (x.fa.all fun f => f.ok K) && ((x.gs.all fun g => gB K g) && x.ts.all fun t => tyB K t)
def obsX (x : Fx) (fn : List He.DefD) (K : PySem.W.Frag) : He.AlD := (x.ok K && fn.all fun d => d.ok K, fn.map fun d => He.fnW K d.at_)
def SaysX (x : Fx) (fn : List He.DefD) (K : PySem.W.Frag) : Prop := obsX x fn K = He.valD fn
section
variable {x : Fx} {fn : List He.DefD} {K : PySem.W.Frag}
theorem SaysX.ok (c : SaysX x fn K) : x.ok K = true := (He.ba (show (x.ok K && fn.all fun d => d.ok K) = true from congrArg (fun z : He.AlD => z.1) c)).1
theorem SaysX.fact (c : SaysX x fn K) (i : Nat) {f : He.Fa} (h : x.fa[i]? = some f := by rfl) : f.ok K = true := List.all_eq_true.mp (He.ba c.ok).1 f (List.mem_of_getElem? h)
theorem SaysX.gc (c : SaysX x fn K) (i : Nat) {f : Str × D} (h : x.gs[i]? = some f := by rfl) : gB K f = true := List.all_eq_true.mp (He.ba (He.ba c.ok).2).1 f (List.mem_of_getElem? h)
theorem SaysX.ty (c : SaysX x fn K) (i : Nat) {f : Str} (h : x.ts[i]? = some f := by rfl) : tyB K f = true := List.all_eq_true.mp (He.ba (He.ba c.ok).2).2 f (List.mem_of_getElem? h)
theorem SaysX.def_ (c : SaysX x fn K) (i : Nat) {d : He.DefD} (h : fn[i]? = some d := by rfl) : ∃ fd, FunD K d.name d.qual d.params d.body d.scope (d.dvs K) (d.kws K) (He.fAd K d.at_) fd := by
  have c2 := (He.ba (show (x.ok K && fn.all fun d => d.ok K) = true from congrArg (fun z : He.AlD => z.1) c)).2
  have e : fn.map (fun d => He.fnW K d.at_) = fn.map He.DefD.val := congrArg (fun z : He.AlD => z.2) c
  have e2 : (fn.map fun d => He.fnW K d.at_)[i]? = (fn.map He.DefD.val)[i]? := by rw [e]
  rw [List.getElem?_map, List.getElem?_map, h] at e2
  exact He.DefD.funD (Option.some.inj e2) (List.all_eq_true.mp c2 d (List.mem_of_getElem? h))
end
theorem walk_ofX {l : PySem.W.OpenLaw} {n k : Nat} {q : Program} {loose : List Str} {XP : (Str → Option Value) → Heap → Prop} {YP : World → Heap → Prop} {d : DefRec} {x : Str} {den : List D → R D}
    (hn : l.most = some n) (hn2 : n ≤ sizeLine) (hdf : d.params.defaults = []) (hr : Room k callerA)
    (F : ∀ (w : World) (mg : Str → Option Value) (fa : Addr) (h : Heap), YP w h → h.Ns mainGlobals mg → mg d.name = some (.ref fa) →
      ∃ (K : PySem.W.Frag) (fd : FuncData) (cl : Nat → Option (Addr × List Str)), K.In h ∧ (∀ (s : Shared) (u : Value), BindsTo s fd ⟨[u], []⟩ [(x, u)]) ∧
        ∀ base : Heap, K.In base → base.Ns mainGlobals mg → FnOk l.prog w K mg base CX0 k fa fd [x] (SpF ⟨K, cl⟩ false 1 den))
    (pure_ : ∀ ns : List Int, ns.length ≤ n → (∀ z ∈ ns, Builtin.Int.intBits z ≤ 1048576) → den [.scr ns] = .ok (.bl true)) :
    PySem.W.WalkO q loose XP YP l.row.toRowW d [] (fun f vs => PySem.call f vs) := by
  refine Att.attach_callB hn hdf fun w s₀ s₁ mg mb fa o pm cd doc a vs ns G Y ho hd hcd hmg hobj hints hlen hbits hg => ?_
  obtain ⟨K, fd, cl, KX, hb, hF⟩ := F w mg fa _ Y G.T.g hmg
  refine law_call KX G.T.g G.T.b G.T.builtins G.T.nolimit hg hobj hints (Nat.le_trans hlen hn2) hr hF hb (fun H hO hS => ?_) fun H e s' z => z
  refine ⟨rfl, H, [.scr ns], Ex.refl H, .cons (.scr hS) .nil, ?_⟩
  rw [pure_ ns hlen hbits]
  intro v G' H' s r
  have r : RD ⟨K, cl⟩ G' (.bl true) v := r
  cases r
  rfl
end M
set_option Elab.async false
set_option linter.all false
set_option maxRecDepth 100000
set_option maxHeartbeats 4000000
namespace M
open PySem L2
inductive Wh where
  | glo (x : Str) | met (C m : Str) | pro (C m : Str) | cme (C m : Str)
def innA (K : PySem.W.Frag) (T : String) (p : Addr) : Addr := match PySem.W.recIn K p T with
  | some (.ref g :: _) => g
  | _ => 0
def Wh.ad (K : PySem.W.Frag) : Wh → Addr
  | .glo x => He.ga K x
  | .met C m => He.ma K (He.ga K C) m
  | .pro C m => innA K "property" (He.ma K (He.ga K C) m)
  | .cme C m => He5.wf K (He.ga K C) "classmethod" m
structure Dx where
  w : Wh
  d : He.DefD
def seenF : FuncData → He.FnW := fun z => some (z.name, z.qualname, z.params, z.body, z.scope, z.globals, z.closure, z.builtins)
def Dx.look (K : PySem.W.Frag) (x : Dx) : Option FuncData := (K.lookup (x.w.ad K)).bind fun o => match o.data with
  | .func z => some z
  | _ => none
def Dx.seen (K : PySem.W.Frag) (x : Dx) : He.FnW := (x.look K).bind seenF
def Dx.good (K : PySem.W.Frag) (x : Dx) : Bool := PySem.W.keepIn K (.ref (x.w.ad K)) && ((x.look K).map fun z => PySem.W.codeIn K z.code x.d.qual && (He.dflB K z.defaults (x.d.dvs K) && He.kwdB K z.kwdefaults (x.d.kws K))).getD false
theorem Dx.fund {K : PySem.W.Frag} {x : Dx} (e : x.seen K = x.d.val) (c : x.good K = true) : ∃ z, FunD K x.d.name x.d.qual x.d.params x.d.body x.d.scope (x.d.dvs K) (x.d.kws K) (x.w.ad K) z := by
  obtain ⟨kp, c2⟩ := He.ba c
  cases hl : x.look K with
  | none => rw [hl] at c2; cases c2
  | some z =>
    rw [hl] at c2
    have c3 : (PySem.W.codeIn K z.code x.d.qual && (He.dflB K z.defaults (x.d.dvs K) && He.kwdB K z.kwdefaults (x.d.kws K))) = true := c2
    have e2 : seenF z = x.d.val := by
      unfold Dx.seen at e
      rw [hl] at e
      exact e
    obtain ⟨a1, a2⟩ := He.ba c3
    obtain ⟨a3, a4⟩ := He.ba a2
    have hk : ∃ oc od osl, K.lookup (x.w.ad K) = some ⟨oc, od, .func z, osl⟩ := by
      unfold Dx.look at hl
      cases q : K.lookup (x.w.ad K) with
      | none => rw [q] at hl; cases hl
      | some o =>
        rw [q] at hl
        obtain ⟨oc, od, dt, osl⟩ := o
        cases dt with
        | func y => cases hl; exact ⟨oc, od, osl, rfl⟩
        | _ => cases hl
    obtain ⟨oc, od, osl, hk⟩ := hk
    obtain ⟨y1, y2, y3, y4, y5, y6, y7, y8, y9, y10, y11, y12, y13, y14, y15⟩ := z
    simp only [seenF, He.DefD.val, Option.some.injEq, Prod.mk.injEq] at e2
    obtain ⟨b1, b2, b3, b4, b5, b6, b7, b8⟩ := e2
    subst b1 b2 b3 b4 b5 b6 b7 b8
    exact ⟨_, ⟨oc, od, y8, y9, y10, y11, y12, y13, y14, osl, rfl, hk, a1, He.dflB_ok a3, He.kwdB_ok a4⟩, kp⟩
def proB (K : PySem.W.Frag) (q : Str × Str) : Bool :=
  He.eqO (PySem.W.findIn K (.ref (He.ga K q.1)) q.2) (some (some (.ref (He.ma K (He.ga K q.1) q.2)))) && (He.eqO (PySem.W.specialIn K (.ref (He.ma K (He.ga K q.1) q.2)) "__get__") (some (some (.builtin "property.__get__"))) &&
    (decide (PySem.W.takesIn K (.ref (He.ma K (He.ga K q.1) q.2)) = some true) && (match PySem.W.recIn K (He.ma K (He.ga K q.1) q.2) "property" with | some (.ref _ :: _) => true | _ => false)))
theorem proB_ok {K : PySem.W.Frag} {C m : Str} (c : proB K (C, m) = true) : PropOf K (He.ga K C) m (He.ma K (He.ga K C) m) ((Wh.pro C m).ad K) := by
  obtain ⟨h1, h2⟩ := He.ba c
  obtain ⟨h3, h4⟩ := He.ba h2
  obtain ⟨h5, h6⟩ := He.ba h4
  refine ⟨He.eqO_ok h1, He.eqO_ok h3, of_decide_eq_true h5, ?_⟩
  show ∃ rest, PySem.W.recIn K (He.ma K (He.ga K C) m) "property" = some (.ref (innA K "property" (He.ma K (He.ga K C) m)) :: rest)
  unfold innA
  dsimp only at h6
  split at h6
  · rename_i g rest e
    rw [e]
    exact ⟨rest, rfl⟩
  · cases h6
structure Fy where
  fa : List He.Fa
  gs : List (Str × D)
  ts : List Str
  ps : List (Str × Str)
def Fy.ok (x : Fy) (K : PySem.W.Frag) : Bool := (x.fa.all fun f => f.ok K) && ((x.gs.all fun g => gB K g) && ((x.ts.all fun t => tyB K t) && x.ps.all fun p => proB K p))
def obsY (x : Fy) (fn : List Dx) (K : PySem.W.Frag) : He.AlD := (x.ok K && fn.all fun d => d.good K, fn.map fun d => d.seen K)
def valY (fn : List Dx) : He.AlD := (true, fn.map fun d => d.d.val)
def SaysY (x : Fy) (fn : List Dx) (K : PySem.W.Frag) : Prop := obsY x fn K = valY fn
section
variable {x : Fy} {fn : List Dx} {K : PySem.W.Frag}
theorem SaysY.both (c : SaysY x fn K) : (x.ok K && fn.all fun d => d.good K) = true := congrArg Prod.fst c
theorem SaysY.ok (c : SaysY x fn K) : x.ok K = true := (He.ba c.both).1
theorem SaysY.fact (c : SaysY x fn K) (i : Nat) {f : He.Fa} (h : x.fa[i]? = some f := by rfl) : f.ok K = true := List.all_eq_true.mp (He.ba c.ok).1 f (List.mem_of_getElem? h)
theorem SaysY.gc (c : SaysY x fn K) (i : Nat) {f : Str × D} (h : x.gs[i]? = some f := by rfl) : gB K f = true := List.all_eq_true.mp (He.ba (He.ba c.ok).2).1 f (List.mem_of_getElem? h)
theorem SaysY.ty (c : SaysY x fn K) (i : Nat) {f : Str} (h : x.ts[i]? = some f := by rfl) : tyB K f = true := List.all_eq_true.mp (He.ba (He.ba (He.ba c.ok).2).2).1 f (List.mem_of_getElem? h)
theorem SaysY.pro (c : SaysY x fn K) (i : Nat) {f : Str × Str} (h : x.ps[i]? = some f := by rfl) : proB K f = true := List.all_eq_true.mp (He.ba (He.ba (He.ba c.ok).2).2).2 f (List.mem_of_getElem? h)
theorem SaysY.def_ (c : SaysY x fn K) (i : Nat) {d : Dx} (h : fn[i]? = some d := by rfl) : ∃ z, FunD K d.d.name d.d.qual d.d.params d.d.body d.d.scope (d.d.dvs K) (d.d.kws K) (d.w.ad K) z := by
  have e : fn.map (fun d => d.seen K) = fn.map fun d => d.d.val := congrArg Prod.snd c
  have e2 := congrArg (fun l : List He.FnW => l[i]?) e
  simp only [List.getElem?_map, h, Option.map_some, Option.some.injEq] at e2
  exact Dx.fund e2 (List.all_eq_true.mp (He.ba c.both).2 d (List.mem_of_getElem? h))
end
end M
set_option Elab.async false
set_option linter.all false
set_option maxRecDepth 100000
set_option maxHeartbeats 4000000
namespace M
open PySem L2
section
variable {X : Cx} {c : Cf} {kd k1 k2 : Kd} {a b e o : Expr} {f g : FE} {pos apos : Pos} {k : Kn}
theorem reads_strs {h : Heap} : ∀ {ss : List Str} {its : List Value}, Vals (ss.map V.str) its → ∃ as, ReadsAll h its (ss.map PyData.str) as
  | [], _, .nil => ⟨_, .nil⟩
  | s :: ss, _, .cons r rs => by
    obtain ⟨t, rfl⟩ := r
    obtain ⟨as, h⟩ := reads_strs rs
    exact ⟨_, .cons (.str s t) h⟩
theorem plain_strs : ∀ (ss : List Str), PyData.plainAll (ss.map PyData.str) = true
  | [] => rfl
  | s :: ss => by simp [PyData.plainAll, PyData.plain, plain_strs ss]
theorem any_strs (ss : List Str) : (ss.map PyData.str).any PyData.truthy = ss.any fun x => x.length != 0 := by
  rw [List.any_map]
  congr 1
  funext x
  show ((x.length : Int) != 0) = (x.length != 0)
  cases x.length <;> simp <;> first | rfl | omega
theorem cr_anyT (hc : X.calm = true) : CallR X (.builtin "any") (fun vs H Q => ∃ (a : Addr) (ss : List Str), vs = [V.ref a] ∧ SqT X.K H a (ss.map V.str) ∧ (∀ x ∈ ss, x.length ≤ sizeLine) ∧ Q (.bl (ss.any fun x => x.length != 0)) H) := by
  intro pins s σ H vs us Q I r h
  obtain ⟨a, ss, rfl, hs, hl, q⟩ := h
  obtain ⟨its, rv, ht, _⟩ := I.tuple hs
  rw [Vals.ref1 r]
  obtain ⟨as, hr⟩ := reads_strs (h := s.heap) rv
  have hz : (sizeLine : Int) < 2 ^ 63 := by decide
  refine PySem.W.any_tuple_data (I.ok.hd hc) (by obtain ⟨ob, h1, h2, n, h3⟩ := ht; exact ⟨ob, h1, h2, n, h3⟩) hr (plain_strs ss) (fun x hx => ?_) fun h' tk hk => ?_
  · obtain ⟨y, hy, rfl⟩ := List.mem_map.mp hx
    have := hl y hy
    show (y.length : Int) < 2 ^ 63
    omega
  · exact ⟨.bl _, H, I.kept fun b o eo => hk b o eo, by rw [any_strs]; rfl, q⟩
def anyTD : D → R D
  | .lst ds => match asB ds with | some ns => .ok (.bl (ns.any id)) | none => .fail
  | .tup ds => match asS ds with | some ss => if ss.all (fun x => decide (x.length ≤ sizeLine)) then .ok (.bl (ss.any fun x => x.length != 0)) else .fail | none => .fail
  | _ => .fail
theorem c_anyT (hk : k.K = X.K) (hc : X.calm = true) : ClR X k (.builtin "any") .st (f1 anyTD) := cl1 ((cr_any hc).or (cr_anyT hc)) fun G H x v d e n hg Q p => by
  cases x <;> simp only [anyTD] at hg <;> first | (cases hg; done) | skip
  · split at hg
    · rename_i ss hn
      split at hg
      · rename_i hl
        cases hg; obtain ⟨a, vs, rfl, ha, r⟩ := n.tup
        have := asS_of r hn; subst this
        exact .inr ⟨a, ss, rfl, hk ▸ e.sqT ha.t, fun x hx => of_decide_eq_true (List.all_eq_true.mp hl x hx), p _ G H (Step.refl e) (.bl _)⟩
      · cases hg
    · cases hg
  · split at hg
    · rename_i ns hn
      cases hg; obtain ⟨a, vs, rfl, ha, r⟩ := n.lst e
      have := asB_of r hn; subst this
      exact .inl ⟨a, ns, rfl, SqL.of ha, p _ G H (Step.refl e) (.bl _)⟩
    · cases hg
end
end M
namespace M
open PySem L2
section
variable {X : Cx} {c : Cf} {k1 k2 : Kd} {a b e : Expr} {f g : FE} {pos p p2 pos2 : Pos} {k : Kn}
instance (a b : Int) : Decidable (RgOk a b) := by unfold RgOk; infer_instance
abbrev FRg := Env → R (Int × Int)
def rg1 (f : FE) : FRg := fun S => f S >>= fun x => match x with | .int n => .ok (0, n) | _ => .fail
def PostRg (c : Cf) (G : Hp) (S : Env) (σ : St) (H : Hp) (Q : Int → Int → Hp → Prop) : R (Int × Int) → Prop
  | .ok (i, j) => ∀ G' H', Step G H G' H' → Q i j H'
  | .exc x => PX c σ x
  | .fail => False
def RdRg (c : Cf) (r : FRg) : St → Hp → (Int → Int → Hp → Prop) → Prop := fun σ H Q => ∃ G S, Rel c G S σ H ∧ PostRg c G S σ H Q (r S)
theorem prgI {t t' : St → Hp → (Int → Int → Hp → Prop) → Prop} (h : PRg X e t) (i : ∀ σ H Q, t' σ H Q → t σ H Q) : PRg X e t' := fun pins s σ H Q I q => h pins s σ H Q I (i σ H Q q)
theorem d_rg1 (hm : X.mg "range" = none) (ha : PE' X c k1 a f) (hg : Gl X "range" := by rfl) (na : starEach [a] X.env = (false, eval a X.env) :: starEach [] X.env := by rfl) : PRg X (.Call (.Name "range" p) [a] [] pos) (RdRg c (rg1 f)) :=
  prgI (prg_1 hg hm ha na) fun σ H Q ⟨G, S, rel, q⟩ => by
    refine rdE_go (g := fun x => match x with | .int n => .ok ((0 : Int), n) | _ => .fail) (Post := PostRg c G S σ H Q) rel q (fun _ z => z) (fun z => z) fun d v G' H' s r p1 => ?_
    cases d with
    | int n => exact ⟨n, r.now.int, p1 G' H' s⟩
    | _ => exact p1.elim
def rgD (a b : Int) : List D := (List.range (b - a).toNat).map fun (i : Nat) => .int (a + i)
theorem RDs.rg {G : Hp} (a b : Int) : RDs k G (rgD a b) (rgV a b) := by
  unfold rgD rgV
  induction (List.range (b - a).toNat) with
  | nil => exact .nil
  | cons x xs ih => exact .cons (.int _) ih
def eLstRg (r : FRg) : FE := fun S => r S >>= fun z => if RgOk z.1 z.2 then .ok (.lst (rgD z.1 z.2)) else .fail
theorem d_lstRg {r : FRg} (hc : X.calm = true) (hm : X.mg "list" = none) (he : PRg X e (RdRg c r)) (hg : Gl X "list" := by rfl) (na : starEach [e] X.env = (false, eval e X.env) :: starEach [] X.env := by rfl) : PE' X c .fr (.Call (.Name "list" p) [e] [] pos) (eLstRg r) :=
  peI (pe_listRg hc hg hm he na) fun σ H Q ⟨G, S, rel, q⟩ => by
    refine ⟨G, S, rel, ?_⟩
    have q : PostE c .fr G S σ H Q (r S >>= fun z => if RgOk z.1 z.2 then .ok (.lst (rgD z.1 z.2)) else .fail) := q
    cases e1 : r S with
    | exc x => rw [e1] at q; exact q
    | fail => rw [e1] at q; exact q
    | ok z =>
      rw [e1, R.ok_bind] at q
      intro G' H' s
      by_cases hl : RgOk z.1 z.2
      · rw [if_pos hl] at q
        exact ⟨hl, fun w hw => q _ G' _ (s.trans (Step.new' s.gh hw)) ⟨w, _, rfl, s.gh.free hw, s.h.free hw, upd_same, .lst (RDs.rg _ _)⟩⟩
      · rw [if_neg hl] at q; exact q.elim
end
end M
set_option Elab.async false
set_option linter.all false
set_option maxRecDepth 100000
set_option maxHeartbeats 4000000
namespace M
open PySem L2
def tabGet (tab : List (Str × Int)) (z : Str) : Option Int := (tab.find? fun p => p.1 == z).map (·.2)
structure KTab (K : PySem.W.Frag) (w : World) (mg : Str → Option Value) (x : Str) (tab : List (Str × Int)) : Prop where
  ex : ∃ d es n, mg x = some (.ref d) ∧ KDict K w d es n ∧ ∀ z, ∃ r, PySem.W.nsIn K d z = some r ∧ match tabGet tab z with
    | some i => ∃ t, r = some (.int i t)
    | none => r = none
section
variable {X : Cx} {c : Cf} {kd k1 k2 : Kd} {a b e o : Expr} {f g : FE} {pos apos cpos p : Pos} {k : Kn} {x : Str} {tab : List (Str × Int)}
structure PMc (X : Cx) (cs : List MatchCase) (t : Int → TS) : Prop where
  run : ∀ (pins : List (Addr × Obj)) (s : Shared) (σ : St) (H : Hp) (D : Ends) (n : Int) (tk : Tok) (first : Bool), L2.Inv X pins σ H s → t n D σ H → wpAny (model X.prog X.w) X.A (matchCases cs X.env (.int n tk) first) (SP X pins D) X.xe s
theorem PostS.up {fr : Bool} {as bs : List Nat} {G H : Hp} {S : Env} {σ : St} {Dn : Ends} {r : R (Fl × Env)} (h : ∀ i, i ∈ as → i ∈ bs) (p : PostS c fr bs G S σ H Dn r) : PostS c fr as G S σ H Dn r := by
  cases r with
  | ok z =>
    obtain ⟨fl, S'⟩ := z
    cases fl with
    | nx => exact fun G' σ' H' e rel fm => p G' σ' H' e rel (fm.mono h)
    | bk => exact fun G' σ' H' e rel fm => p G' σ' H' e rel (fm.mono h)
    | ct => exact fun G' σ' H' e rel fm => p G' σ' H' e rel (fm.mono h)
    | rt d => exact fun v G2 H2 st rv ow => p v G2 H2 st rv (ow.sub h)
  | exc x => exact p
  | fail => exact p
end
end M
namespace M
open PySem L2
section
variable {X : Cx} {c : Cf} {k1 : Kd} {e : Expr} {f : FE} {pos p tp q1 q2 : Pos} {k : Kn} {x y z : Str}
end
end M
namespace M
open PySem L2
end M
namespace M
open PySem L2
end M
set_option Elab.async false
set_option linter.all false
set_option maxRecDepth 100000
set_option maxHeartbeats 4000000
namespace M
open PySem L2
abbrev TabI := Str × List (Str × Int)
def valI (K : PySem.W.Frag) (t : TabI) : Bool := t.2.all fun q => match PySem.W.nsIn K (He.ga K t.1) q.1 with
  | some (some (.int i _)) => decide (i = q.2)
  | _ => false
abbrev AlZ : Type := He.AlD × List (Option (List (Option (Str × Int))))
def obsZ (x : Fy) (ts : List TabI) (fn : List Dx) (K : PySem.W.Frag) : AlZ := (((x.ok K && ts.all fun t => valI K t) && fn.all fun d => d.good K, fn.map fun d => d.seen K), ts.map fun t => He.dicW K (He.ga K t.1))
def valZ (ts : List TabI) (fn : List Dx) (w : World) : AlZ := ((true, fn.map fun d => d.d.val), ts.map fun t => some (He.keysIn w.params (t.2.map (·.1))))
def SaysZ (x : Fy) (ts : List TabI) (fn : List Dx) (w : World) (K : PySem.W.Frag) : Prop := obsZ x ts fn K = valZ ts fn w
section
variable {x : Fy} {ts : List TabI} {fn : List Dx} {K : PySem.W.Frag} {w : World}
theorem SaysZ.all (c : SaysZ x ts fn w K) : ((x.ok K && ts.all fun t => valI K t) && fn.all fun d => d.good K) = true := congrArg (fun z : AlZ => z.1.1) c
theorem SaysZ.y (c : SaysZ x ts fn w K) : SaysY x fn K := by
  have h1 := He.ba c.all
  have e : fn.map (fun d => d.seen K) = fn.map fun d => d.d.val := congrArg (fun z : AlZ => z.1.2) c
  show (x.ok K && fn.all fun d => d.good K, fn.map fun d => d.seen K) = (true, _)
  rw [e, (He.ba h1.1).1, h1.2]; rfl
theorem SaysZ.tab (c : SaysZ x ts fn w K) (i : Nat) {t : TabI} (h : ts[i]? = some t := by rfl) : He.dicW K (He.ga K t.1) = some (He.keysIn w.params (t.2.map (·.1))) ∧ valI K t = true := by
  have e : ts.map (fun t => He.dicW K (He.ga K t.1)) = ts.map fun t => some (He.keysIn w.params (t.2.map (·.1))) := congrArg (fun z : AlZ => z.2) c
  have e2 := congrArg (fun l : List (Option (List (Option (Str × Int)))) => l[i]?) e
  simp only [List.getElem?_map, h, Option.map_some, Option.some.injEq] at e2
  exact ⟨e2, List.all_eq_true.mp (He.ba (He.ba c.all).1).2 t (List.mem_of_getElem? h)⟩
end
end M
set_option Elab.async false
set_option linter.all false
set_option maxRecDepth 100000
set_option maxHeartbeats 4000000
namespace M
open PySem L2
def keyD : D → Option Key
  | .int i => some (.inl i)
  | .str x => some (.inr x)
  | _ => none
def keysD : List D → Option (List Key)
  | [] => some []
  | d :: ds => match keyD d, keysD ds with
    | some k, some ks => some (k :: ks)
    | _, _ => none
section
variable {k : Kn} {G H : Hp}
theorem keyD_now {d : D} {v : V} {q : Key} (h : keyD d = some q) (n : Now k G H d v) : v = kV q := by
  cases d <;> simp only [keyD] at h <;> first | (cases h; done) | skip
  · cases h; exact n.int
  · cases h; exact n.str
theorem keyD_rd {d : D} {v : V} {q : Key} (h : keyD d = some q) (n : RD k G d v) : v = kV q := keyD_now (H := G) h (.inl n)
theorem keysD_rd : ∀ {ds : List D} {vs : List V} {qs : List Key}, keysD ds = some qs → RDs k G ds vs → vs = qs.map kV
  | _, _, qs, h, .nil => by cases h; rfl
  | d :: ds, _, qs, h, .cons a b => by
    simp only [keysD] at h
    split at h
    · rename_i q qs' h1 h2
      cases h
      rw [keyD_rd h1 a, keysD_rd h2 b]; rfl
    · cases h
def getL {κ : Type} [DecidableEq κ] : List κ → List D → κ → Option D
  | x :: ks, d :: ds, q => if x = q then some d else getL ks ds q
  | _, _, _ => none
def putL {κ : Type} [DecidableEq κ] (ks : List κ) (ds : List D) (q : κ) (d : D) : List κ × List D := match ks.idxOf? q with
  | some i => (ks, ds.set i d)
  | none => (ks ++ [q], ds ++ [d])
theorem getL_val {κ : Type} [DecidableEq κ] {q : κ} : ∀ {ks : List κ} {ds : List D} {vs : List V}, ks.length = ds.length → RDs k G ds vs → (∀ d, getL ks ds q = some d → ∃ v, valV (ks.zip vs) q = some v ∧ RD k G d v) ∧ (getL ks ds q = none → valV (ks.zip vs) q = none)
  | [], _, _, _, _ => ⟨(fun d h => by simp [getL] at h), fun _ => by simp [valV]⟩
  | x :: ks, [], _, h, _ => by simp at h
  | x :: ks, d :: ds, _, h, .cons a b => by
    have ih := getL_val (q := q) (ks := ks) (by simpa using h) b
    simp only [getL, List.zip_cons_cons]
    by_cases e : x = q
    · rw [if_pos e]
      exact ⟨fun d' h' => ⟨_, valV_pos e, by cases h'; exact a⟩, fun h' => by cases h'⟩
    · rw [if_neg e]
      have e2 : ∀ r : List (κ × V), ∀ v, valV ((x, v) :: r) q = valV r q := fun r v => by
        unfold valV; rw [List.find?_cons]; simp [e]
      rw [e2]; exact ih
theorem any_zip {κ : Type} [DecidableEq κ] {q : κ} : ∀ {ks : List κ} {vs : List V}, ks.length = vs.length → ((ks.zip vs).any fun kv => decide (kv.1 = q)) = (ks.idxOf? q).isSome
  | [], _, _ => by simp
  | x :: ks, [], h => by simp at h
  | x :: ks, v :: vs, h => by
    rw [List.zip_cons_cons, List.any_cons, any_zip (by simpa using h), List.idxOf?_cons]
    by_cases e : x = q
    · simp [e]
    · have : (x == q) = false := by simpa using e
      simp [e]
theorem map_zip {κ : Type} [DecidableEq κ] {q : κ} {v : V} : ∀ {ks : List κ} {vs : List V} {i : Nat}, ks.Nodup → ks.length = vs.length → ks.idxOf? q = some i → ((ks.zip vs).map fun kv => if kv.1 = q then (kv.1, v) else kv) = ks.zip (vs.set i v)
  | [], _, _, _, _, h => by simp at h
  | x :: ks, [], _, _, h, _ => by simp at h
  | x :: ks, u :: vs, i, nd, hl, h => by
    rw [List.idxOf?_cons] at h
    obtain ⟨n1, n2⟩ := List.nodup_cons.mp nd
    by_cases e : x = q
    · subst e
      simp at h
      subst h
      rw [List.zip_cons_cons, List.map_cons, if_pos rfl, List.set_cons_zero, List.zip_cons_cons]
      congr 1
      have : ∀ p ∈ ks.zip vs, (if p.1 = x then (p.1, v) else p) = p := fun p hp => by
        rw [if_neg]
        intro e
        exact n1 (by rw [← e]; exact (List.of_mem_zip hp).1)
      rw [List.map_congr_left this, List.map_id']
    · have e' : (x == q) = false := by simpa using e
      rw [e'] at h
      cases h2 : ks.idxOf? q with
      | none => rw [h2] at h; simp at h
      | some j =>
        rw [h2] at h; simp at h; subst h
        rw [List.zip_cons_cons, List.map_cons, if_neg e, List.set_cons_succ, List.zip_cons_cons, map_zip n2 (by simpa using hl) h2]
theorem putL_zip {κ : Type} [DecidableEq κ] {q : κ} {ks : List κ} {ds : List D} {d : D} {vs : List V} {v : V} (nd : ks.Nodup) (hl : ks.length = ds.length) (r : RDs k G ds vs) (rd : RD k G d v) :
    ∃ vs', putK (ks.zip vs) q v = (putL ks ds q d).1.zip vs' ∧ RDs k G (putL ks ds q d).2 vs' ∧ (putL ks ds q d).1.length = (putL ks ds q d).2.length := by
  have hv := r.length
  unfold putK putL
  rw [any_zip (by omega)]
  cases h : ks.idxOf? q with
  | none =>
    refine ⟨vs ++ [v], ?_, r.append (.cons rd .nil), by simp [hl]⟩
    rw [if_neg (by simp)]
    show _ = (ks ++ [q]).zip (vs ++ [v])
    rw [List.zip_append (by omega)]; rfl
  | some i =>
    refine ⟨vs.set i v, ?_, r.set i rd, by simp [hl]⟩
    rw [if_pos (by simp)]
    exact map_zip nd (by omega) h
end
section
variable {X : Cx} {c : Cf} {kd k1 k2 k3 : Kd} {a b e o : Expr} {f g h : FE} {pos apos cpos : Pos} {fr : Bool} {x : Str}
def isDct : D → Bool
  | .dic _ _ => true
  | .dit _ _ => true
  | _ => false
theorem d_dnewT : PE' X c .fr (.Dict [] [] pos) (fun _ => .ok (.dit [] [])) :=
  peI pe_dnewT fun σ H Q ⟨G, S, rel, p⟩ => fun q hq => p _ G _ (Step.new' rel.st.gh hq) ⟨q, _, rfl, rel.st.gh.free hq, hq, upd_same, .dit (vs := []) rfl .nil⟩
end
end M
set_option Elab.async false
set_option linter.all false
set_option maxRecDepth 100000
set_option maxHeartbeats 4000000
namespace M
open PySem L2
section
variable {X : Cx} {c : Cf} {kd k1 k2 k3 : Kd} {a b e o : Expr} {f g h : FE} {pos apos cpos : Pos} {fr : Bool} {x : Str}
end
end M
set_option Elab.async false
set_option linter.all false
set_option maxRecDepth 100000
set_option maxHeartbeats 4000000
namespace M
open PySem PySem.Spec PyProof.Rows L2
def MskG (m : Nat) : Prop := m = 7 ∨ m = 31 ∨ m = 127 ∨ m = 511
def orbG (m : Nat) : Nat → Nat → Nat → Nat
  | 0, _, b => b
  | n + 1, x, b => orbG m n ((x * 5 + 1) % (m + 1)) (b ||| 2 ^ x)
theorem orbG_hit (m : Nat) : ∀ (n a b j : Nat), (orbG m n (lcgN m a) b).testBit j = true → b.testBit j = true ∨ ∃ k, k < a + n ∧ lcgN m k = j
  | 0, _, _, _, h => .inl h
  | n + 1, a, b, j, h => by
    rcases orbG_hit m n (a + 1) (b ||| 2 ^ lcgN m a) j h with c | ⟨k, hk, e⟩
    · rw [Nat.testBit_or, Nat.testBit_two_pow, Bool.or_eq_true, decide_eq_true_eq] at c
      exact c.imp id fun e => ⟨a, by omega, e⟩
    · exact .inr ⟨k, by omega, e⟩
theorem MskG.orb {m : Nat} (h : MskG m) : M.orbG m (m + 1) 0 0 = 2 ^ (m + 1) - 1 := by
  rcases h with rfl | rfl | rfl | rfl <;> decide +kernel
theorem MskG.back {m : Nat} (h : MskG m) : lcgN m (m + 1) = 0 := by
  rcases h with rfl | rfl | rfl | rfl <;> decide +kernel
theorem MskG.from0 {m : Nat} (h : MskG m) {j : Nat} (hj : j ≤ m) : ∃ k, k ≤ m ∧ lcgN m k = j := by
  have t : (M.orbG m (m + 1) (lcgN m 0) 0).testBit j = true := by
    show (M.orbG m (m + 1) 0 0).testBit j = true
    rw [h.orb, Nat.testBit_two_pow_sub_one]
    exact decide_eq_true (by omega)
  rcases orbG_hit m (m + 1) 0 0 j t with c | ⟨k, hk, e⟩
  · simp at c
  · exact ⟨k, by omega, e⟩
theorem MskG.again {m : Nat} (h : MskG m) : ∀ k, lcgN m (m + 1 + k) = lcgN m k
  | 0 => h.back
  | k + 1 => congrArg (fun x => (x * 5 + 1) % (m + 1)) (h.again k)
theorem MskG.from {m : Nat} (h : MskG m) {i j : Nat} (hi : i ≤ m) (hj : j ≤ m) : ∃ k, k ≤ m ∧ lcgI m i k = j := by
  obtain ⟨a, a1, rfl⟩ := h.from0 hi
  obtain ⟨b, b1, rfl⟩ := h.from0 hj
  by_cases c : a ≤ b
  · exact ⟨b - a, by omega, by rw [lcgN_add, Nat.add_sub_cancel' c]⟩
  · exact ⟨m + 1 + b - a, by omega, by rw [lcgN_add, show a + (m + 1 + b - a) = m + 1 + b by omega, h.again]⟩
theorem MskG.meets {m : Nat} (h : MskG m) (x : Int) {j : Nat} (hj : j ≤ m) : ∃ n, n ≤ m + 12 ∧ runI m (SetTable.bits x) n = j := by
  obtain ⟨k, hk, e⟩ := h.from (runI_le m (SetTable.bits x) 12) hj
  exact ⟨12 + k, by omega, (runI_tail (bits_lt x) k).trans e⟩
theorem MskG.odd {m : Nat} (h : MskG m) : m % 2 = 1 := by rcases h with rfl | rfl | rfl | rfl <;> rfl
theorem MskG.le {m : Nat} (h : MskG m) : m ≤ 511 := by rcases h with rfl | rfl | rfl | rfl <;> decide
theorem wayG (m : Nat) (x : Int) (k : Nat) : way m x k ≤ m := by
  have b : SetTable.bits x % (m + 1) ≤ m := Nat.le_of_lt_succ (Nat.mod_lt _ (Nat.succ_pos _))
  have r := runEnd_bd b
  have z : (runAt m (SetTable.bits x % (m + 1)) (SetTable.bits x)).j + (runAt m (SetTable.bits x % (m + 1)) (SetTable.bits x)).more ≤ m := by
    show SetTable.bits x % (m + 1) + (SetTable.runEnd m _ - SetTable.bits x % (m + 1)) ≤ m
    omega
  exact Nat.le_trans (Nat.le_add_right _ _) (nth_in k _ z)
theorem MskG.firstOf {m : Nat} (h : MskG m) (x : Int) {p : Nat → Prop} {j : Nat} (hj : j ≤ m) (hp : p j) : ∃ K n, n ≤ m + 12 ∧ K ≤ off m (SetTable.bits x % (m + 1)) (SetTable.bits x) n ∧ p (way m x K) ∧ ∀ k, k < K → ¬ p (way m x k) := by
  obtain ⟨n, hn, e⟩ := h.meets x hj
  have w : way m x (off m (SetTable.bits x % (m + 1)) (SetTable.bits x) n) = j := by
    show (nth m _ (off m _ _ n)).j = j
    rw [nth_off, itL_run]; exact e
  obtain ⟨K, k1, k2, k3⟩ := st_least (p := fun k => p (way m x k)) _ (show p (way m x _) from w ▸ hp)
  exact ⟨K, n, hn, k1, k2, k3⟩
theorem offG_le (m : Nat) : ∀ (n i b : Nat), i ≤ m → off m i b n ≤ 10 * n
  | 0, _, _, _ => Nat.le_refl _
  | n + 1, i, b, hi => by
    have r := runEnd_bd hi
    have := offG_le m n (SetTable.leap m i b).1 (SetTable.leap m i b).2 (leap_le m i b)
    show SetTable.runEnd m i - i + 1 + off m _ _ n ≤ _
    omega
structure TbG (t : SetTable) (hs : List Int) : Prop where
  gm : MskG t.mask
  up : Ris t.place.toList
  nd : t.dummies = #[]
  ln : t.place.toList.length = hs.length
  at_ : ∀ {i : Nat} {x : Int} {j : Nat}, hs[i]? = some x → t.place.toList[i]? = some j → ∃ k, way t.mask x k = j ∧ ∀ c, c < k → way t.mask x c ∈ t.place.toList
variable {t : SetTable} {hs : List Int}
theorem TbG.sz (T : TbG t hs) : t.place.size = hs.length := by rw [← Array.length_toList]; exact T.ln
theorem TbG.end_ (T : TbG t hs) (hl : hs.length ≤ t.mask) (x : Int) : ∃ K, K < 10 * SetTable.turns t.mask ∧ way t.mask x K ∉ t.place.toList ∧ ∀ c, c < K → way t.mask x c ∈ t.place.toList := by
  obtain ⟨j, hj, hn⟩ := st_missing t.place.toList (t.mask + 1) (by rw [T.ln]; omega)
  obtain ⟨K, n, a, b, c, d⟩ := T.gm.firstOf x (p := fun y => y ∉ t.place.toList) (Nat.le_of_lt_succ hj) hn
  have := offG_le t.mask n (SetTable.bits x % (t.mask + 1)) (SetTable.bits x) (Nat.le_of_lt_succ (Nat.mod_lt (SetTable.bits x) (Nat.succ_pos t.mask)))
  exact ⟨K, by unfold SetTable.turns; omega, c, fun k hk => Classical.byContradiction (d k hk)⟩
theorem TbG.met (T : TbG t hs) {x : Int} {K i j : Nat} (hK : way t.mask x K ∉ t.place.toList) (hi : hs[i]? = some x) (hj : t.place.toList[i]? = some j) : ∃ c, c < K ∧ way t.mask x c = j := by
  obtain ⟨k, e, b⟩ := T.at_ hi hj
  refine ⟨k, Classical.byContradiction fun z => ?_, e⟩
  rcases Nat.eq_or_lt_of_le (Nat.le_of_not_lt z) with q | q
  · exact hK (by rw [q, e]; exact List.mem_of_getElem? hj)
  · exact hK (b K q)
theorem TbG.add (T : TbG t hs) {x : Int} {K : Nat} (hK : way t.mask x K ∉ t.place.toList) (hb : ∀ c, c < K → way t.mask x c ∈ t.place.toList) {p : Nat} (ep : p = SetTable.below t.place (way t.mask x K)) :
    p ≤ hs.length ∧ TbG (t.put (way t.mask x K)).1 (hs.take p ++ x :: hs.drop p) ∧ (t.put (way t.mask x K)).1.fill = hs.length + 1 := by
  obtain ⟨le1, _, _⟩ := below_cut T.up (way t.mask x K)
  have pl := put_place t (way t.mask x K)
  have dm := put_dm T.nd (way t.mask x K)
  rw [← ep] at pl le1
  have lp : p ≤ t.place.toList.length := by rw [Array.length_toList]; exact le1
  have lh : p ≤ hs.length := T.ln ▸ lp
  have ris : Ris (t.put (way t.mask x K)).1.place.toList := ris_insert T.up fun e => hK (List.mem_of_getElem? (by rw [Array.getElem?_toList]; exact e))
  have mk : (t.put (way t.mask x K)).1.mask = t.mask := rfl
  generalize (t.put (way t.mask x K)).1 = t1 at pl dm ris mk ⊢
  have ln : t1.place.toList.length = hs.length + 1 := by rw [pl, len_ins _ lp, T.ln]
  refine ⟨lh, ⟨mk ▸ T.gm, ris, dm, by rw [ln, len_ins _ lh], fun {i y j} h1 h2 => ?_⟩, by unfold SetTable.fill; rw [dm, ← Array.length_toList, ln]; rfl⟩
  have inn : ∀ z, z ∈ t.place.toList → z ∈ t1.place.toList := fun z hz => by rw [pl]; exact mem_ins.2 (.inr hz)
  have old : ∀ {i' : Nat}, hs[i']? = some y → t.place.toList[i']? = some j → ∃ k, way t1.mask y k = j ∧ ∀ c, c < k → way t1.mask y c ∈ t1.place.toList := fun a b => by
    obtain ⟨k, e, q⟩ := T.at_ a b
    rw [mk]
    exact ⟨k, e, fun c hc => inn _ (q c hc)⟩
  rw [tins_get hs lh] at h1
  rw [pl, tins_get _ lp] at h2
  split at h1
  · rename_i c; rw [if_pos c] at h2; exact old h1 h2
  · rename_i c
    rw [if_neg c] at h2
    split at h1
    · rename_i d
      rw [if_pos d] at h2
      cases h1; cases h2
      exact ⟨K, by rw [mk], fun c hc => by rw [mk]; exact inn _ (hb c hc)⟩
    · rename_i d; rw [if_neg d] at h2; exact old h1 h2
theorem MskG.seat {m : Nat} (hm : MskG m) {done : List Int} {ow : Array (Option Nat)} (W : Own m done ow) (hl : done.length ≤ m) (x : Int) :
    ∃ j, SetTable.layClean.free m ow (SetTable.turns m) (SetTable.bits x % (m + 1)) (SetTable.bits x) = some j ∧ Own m (done ++ [x]) (ow.setIfInBounds j (some done.length)) := by
  obtain ⟨ps, lps, hps⟩ := W.ps
  obtain ⟨j0, a0, n0⟩ := st_missing ps (m + 1) (by omega)
  have f0 : oAt ow j0 = none := Classical.byContradiction fun z => n0 (hps j0 (Nat.le_of_lt_succ a0) z)
  obtain ⟨K, n, hn, hK, e2, e3⟩ := hm.firstOf x (p := fun j => oAt ow j = none) (Nat.le_of_lt_succ a0) f0
  have fr : SetTable.layClean.free m ow (SetTable.turns m) (SetTable.bits x % (m + 1)) (SetTable.bits x) = some (way m x K) := by
    refine free_spec m ow _ n _ _ K (by unfold SetTable.turns; omega) hK (fun k hk => ?_) (by show (oAt ow (way m x K)).isNone = true; rw [e2]; rfl)
    cases z : oAt ow (way m x k) with
    | none => exact absurd z (e3 k hk)
    | some _ => rfl
  have wl := wayG m x K
  have ws : way m x K < ow.size := by rw [W.sz]; omega
  have here := oAt_set_self (some done.length) ws
  have more : ∀ i, oAt ow i ≠ none → oAt (ow.setIfInBounds (way m x K) (some done.length)) i ≠ none := fun i hi => by
    by_cases c : i = way m x K
    · rw [c, here]; simp
    · rw [oAt_set_ne _ c]; exact hi
  refine ⟨_, fr, ⟨by rw [Array.size_setIfInBounds]; exact W.sz, fun j k hj e => ?_, fun k hk => ?_, way m x K :: ps, by simp [lps], fun j hj e => ?_⟩⟩
  · by_cases c : j = way m x K
    · rw [c, here] at e
      cases e
      exact ⟨x, K, by simp, c.symm, fun k hk => more _ (e3 k hk)⟩
    · rw [oAt_set_ne _ c] at e
      obtain ⟨y, K', a1, a2, a3⟩ := W.at_ j k hj e
      exact ⟨y, K', by rw [List.getElem?_append_left (List.getElem?_eq_some_iff.mp a1).1]; exact a1, a2, fun k hk => more _ (a3 k hk)⟩
  · rw [List.length_append] at hk
    by_cases c : k < done.length
    · obtain ⟨j, hj, e⟩ := W.all k c
      exact ⟨j, hj, by rw [oAt_set_ne _ fun z => by rw [z, e2] at e; cases e]; exact e⟩
    · obtain rfl : k = done.length := by simp at hk; omega
      exact ⟨_, wl, here⟩
  · by_cases c : j = way m x K
    · rw [c]; exact List.mem_cons_self
    · rw [oAt_set_ne _ c] at e; exact List.mem_cons_of_mem _ (hps j hj e)
theorem MskG.seats {m : Nat} (hm : MskG m) : ∀ (rest done : List Int) (ow : Array (Option Nat)), Own m done ow → done.length + rest.length ≤ m →
    ∃ ow', rest.foldl (stepF m) (some (ow, done.length)) = some (ow', (done ++ rest).length) ∧ Own m (done ++ rest) ow'
  | [], done, ow, W, _ => ⟨ow, by simp, by simpa using W⟩
  | x :: rest, done, ow, W, h => by
    simp only [List.length_cons] at h
    obtain ⟨j, e, W1⟩ := hm.seat W (by omega) x
    obtain ⟨o2, f, W2⟩ := hm.seats rest (done ++ [x]) _ W1 (by simp; omega)
    simp only [List.append_assoc, List.singleton_append, List.length_append, List.length_cons, List.length_nil, Nat.zero_add] at f W2
    refine ⟨o2, ?_, W2⟩
    rw [List.foldl_cons, stepF_some e, f, List.length_append, List.length_cons]
theorem MskG.relaid {m wanted : Nat} (hm : MskG m) (hw : SetTable.sizeAbove wanted - 1 = m) (t : SetTable) {ha : Array Int} (hn : ha.size ≤ m) :
    ∃ t' ord, t.relaid ha wanted = some (t', ord) ∧ ord.toList.Perm (List.range ha.size) ∧ TbG t' (ord.toList.map fun i => ha.getD i 0) ∧ t'.mask = m ∧ t'.led = t.led ∧ t'.plain = t.plain := by
  obtain ⟨ow, f, W⟩ := hm.seats ha.toList [] _ (Own.init m) (by simpa using hn)
  rw [List.nil_append] at f W
  have lc : SetTable.layClean m ha = some ow := by rw [layClean_eq]; exact congrArg (Option.map (·.1)) f
  have live : ∀ j k, (j, k) ∈ liveOf m ow ↔ j ≤ m ∧ oAt ow j = some k := fun j k => mem_live W.sz
  have rr := ris_live (fun j => ow.getD j none) (List.range (m + 1)) (by unfold Ris; exact List.pairwise_lt_range)
  have r1 : Ris ((liveOf m ow).map (·.1)) := rr.1
  have nd : ((liveOf m ow).map (·.1)).Nodup := List.Pairwise.imp (fun h => Nat.ne_of_lt h) r1
  have cnt : (liveOf m ow).length = ha.size := by
    obtain ⟨ps, p1, p2⟩ := W.ps
    have le1 := nat_nodup_len ((liveOf m ow).map (·.1)) ps nd fun x hx => by
      obtain ⟨⟨y, k⟩, hq, rfl⟩ := List.mem_map.mp hx
      obtain ⟨b1, b2⟩ := (live y k).1 hq
      exact p2 y b1 (by rw [b2]; simp)
    have le2 := nat_nodup_len (List.range ha.size) ((liveOf m ow).map (·.2)) List.nodup_range fun k hk => by
      obtain ⟨j, b1, b2⟩ := W.all k (by simpa using hk)
      exact List.mem_map.mpr ⟨(j, k), (live j k).2 ⟨b1, b2⟩, rfl⟩
    simp at le1 le2 p1
    omega
  refine ⟨tabOf t m ow, ((liveOf m ow).map (·.2)).toArray, by rw [relaid_eq, hw, lc]; rfl, ?_, ⟨hm, r1, rfl, by simp [tabOf], fun {i x j} h1 h2 => ?_⟩, rfl, rfl, rfl⟩
  · refine perm_range _ _ (by simpa using cnt) fun k hk => ?_
    obtain ⟨j, b1, b2⟩ := W.all k (by simpa using hk)
    exact List.mem_map.mpr ⟨(j, k), (live j k).2 ⟨b1, b2⟩, rfl⟩
  · have h1' : (((liveOf m ow).map (·.2)).map fun i => ha.getD i 0)[i]? = some x := h1
    have h2' : ((liveOf m ow).map (·.1))[i]? = some j := h2
    simp only [List.getElem?_map] at h1' h2'
    cases hq : (liveOf m ow)[i]? with
    | none => simp [hq] at h2'
    | some q =>
      obtain ⟨y, k⟩ := q
      simp only [hq, Option.map_some, Option.some.injEq] at h1' h2'
      subst h2'
      obtain ⟨b1, b2⟩ := (live y k).1 (List.mem_of_getElem? hq)
      obtain ⟨x0, K, a1, a2, a3⟩ := W.at_ y k b1 b2
      have e0 : x0 = x := by
        rw [← h1', Array.getD_eq_getD_getElem?, ← Array.getElem?_toList, a1]; rfl
      subst e0
      refine ⟨K, a2, fun c hc => ?_⟩
      show way m x0 c ∈ (liveOf m ow).map (·.1)
      cases z : oAt ow (way m x0 c) with
      | none => exact absurd z (a3 c hc)
      | some k2 => exact List.mem_map.mpr ⟨(_, k2), (live _ _).2 ⟨wayG m x0 c, z⟩, rfl⟩
section
variable {P : Program} {w : World} {A : Around} {E : Value → Shared → Prop} {s : Shared} {a : Addr} {L : List (Addr × List Int)} {es : Array (Int × Value)} {ep : Nat}
structure StG (P : Program) (w : World) (h : Heap) (a : Addr) (L : List (Addr × List Int)) (es : Array (Int × Value)) (ep : Nat) (t : SetTable) : Prop where
  ob : ∃ o, h.get? a = some o ∧ o.ExactSet ∧ o.data = .set es ep t
  rw_ : es.toList = rowsOf P w L
  tb : TbG t (L.map fun p => thash P w p.2)
  un : (L.map (·.2)).Nodup
  tu : ∀ p ∈ L, IsT P w h p.2 p.1
  pl : t.plain = true
  room : L.length * 5 < t.mask * 3
theorem rowsG_sz (h : es.toList = rowsOf P w L) : es.size = L.length := by rw [← Array.length_toList, h, rowsOf, List.length_map]
theorem rowsG_at (h : es.toList = rowsOf P w L) {i : Nat} {p : Addr × List Int} (e : L[i]? = some p) : es[i]? = some (thash P w p.2, Value.ref p.1) := by
  rw [← Array.getElem?_toList, h, rowsOf, List.getElem?_map, e]; rfl
theorem fitsG {t : SetTable} {n : Nat} (e : t.place.size = n) (d : t.dummies = #[]) (l : n ≤ t.mask) : t.fits n = true := by
  simp [SetTable.fits, SetTable.fill, d, e, l]
theorem StG.fit {t : SetTable} (R : StG P w s.heap a L es ep t) : t.fits es.size = true := by
  have := R.room
  exact fitsG (by rw [R.tb.sz, rowsG_sz R.rw_, List.length_map]) R.tb.nd (by rw [rowsG_sz R.rw_]; omega)
theorem nthG_dm (m : Nat) : ∀ (n : Nat) (p : SetTable.Probe), p.dummy = none → (nth m p n).dummy = none
  | 0, _, h => h
  | n + 1, p, h => nthG_dm m n (adv m p) (by unfold adv; split <;> exact h)
abbrev prG (m : Nat) (x : Int) (c : Nat) : SetTable.Probe := nth m (runAt m (SetTable.bits x % (m + 1)) (SetTable.bits x)) c
theorem prG_add (m : Nat) (x : Int) (c q : Nat) : nth m (prG m x c) q = prG m x (c + q) := (nth_add m c _ q).symm
theorem StG.from {t : SetTable} (R : StG P w s.heap a L es ep t) {x : Addr} {k : List Int} (hx : IsT P w s.heap k x) (hu : A.units < cLine) {N : Nat} (hNf : N < 10 * SetTable.turns t.mask)
    (hN : way t.mask (thash P w k) N ∉ t.place.toList) (hb : ∀ c, c < N → way t.mask (thash P w k) c ∈ t.place.toList) {Q : SetFound → Shared → Prop}
    (hin : k ∈ L.map (·.2) → Q (.there none) s) (hout : k ∉ L.map (·.2) → Q (.free (way t.mask (thash P w k) N) false) s) :
    ∀ (f c : Nat) (st : Option SetTable.Probe), st.getD (t.probeStart (thash P w k)) = prG t.mask (thash P w k) c → c ≤ N → N - c < f →
      (∀ (i : Nat) p c', L[i]? = some p → p.2 = k → c' < c → t.place.toList[i]? ≠ some (way t.mask (thash P w k) c')) →
      wpAny (model P w) A (setSearchFrom a (.ref x) (thash P w k) true f st) Q E s
  | 0, _, _, _, _, hf, _ => absurd hf (Nat.not_lt_zero _)
  | f + 1, c, st, hst, hc, hf, hnp => by
    obtain ⟨o, ho, _, hd⟩ := R.ob
    have lnp : ∀ {i : Nat}, i < L.length ↔ i < t.place.toList.length := by rw [R.tb.ln, List.length_map]; first | done | exact Iff.rfl
    rw [setSearchFrom_succ]
    refine wpAny_bind (wpAny_setState_of ho hd R.fit ?_)
    dsimp only
    refine wp_if_neg (by simp [SetTable.gaveWay, R.tb.gm.odd]) ?_
    try refine wpAny_bind (wpAny_pure ?_)
    have hh : ∀ {i : Nat} {p}, L[i]? = some p → ((es[i]?.map (·.1)).getD 0 : Int) = thash P w p.2 := fun e => by rw [rowsG_at R.rw_ e]; rfl
    have ahead : ∀ {i : Nat} {p}, L[i]? = some p → p.2 = k → ∃ c', c ≤ c' ∧ c' < N ∧ t.place.toList[i]? = some (way t.mask (thash P w k) c') := fun {i p} e ek => by
      have il := lnp.mp (List.getElem?_eq_some_iff.mp e).1
      obtain ⟨c', a1, a2⟩ := R.tb.met hN (i := i) (by rw [List.getElem?_map, e, ← ek]; rfl) (List.getElem?_eq_getElem il)
      have a3 : t.place.toList[i]? = some (way t.mask (thash P w k) c') := by rw [a2]; exact List.getElem?_eq_getElem il
      exact ⟨c', Nat.le_of_not_lt fun z => hnp i p c' e ek z a3, a1, a3⟩
    have spec := go_spec t R.tb.up R.tb.nd (fun i => (es[i]?.map (·.1)).getD 0) (thash P w k) (10 * SetTable.turns t.mask) (N - c) (prG t.mask (thash P w k) c) (nthG_dm _ _ _ rfl) (by omega)
      (fun q hq => by rw [prG_add]; exact hb (c + q) (by omega)) (by rw [prG_add, Nat.add_sub_cancel' hc]; exact hN)
    simp only [prG_add] at spec
    rcases spec with ⟨q, i, hq, hi, hhi, hno, hpr⟩ | ⟨hno, hpr⟩
    · have hp0 : t.probe (fun i => (es[i]?.map (·.1)).getD 0) (thash P w k) (st.getD (t.probeStart (thash P w k))) = some (.candidate (prG t.mask (thash P w k) (c + q)).j i (prG t.mask (thash P w k) (c + (q + 1)))) := by rw [hst]; exact hpr
      rw [hp0]
      dsimp only
      have il : i < L.length := lnp.mpr (List.getElem?_eq_some_iff.mp hi).1
      obtain ⟨p, hp⟩ : ∃ p, L[i]? = some p := ⟨_, List.getElem?_eq_getElem il⟩
      have pm := List.mem_of_getElem? hp
      have go : wpAny (model P w) A (searchRest a (.ref x) (thash P w k) true f es t (prG t.mask (thash P w k) (c + q)).j i (prG t.mask (thash P w k) (c + (q + 1)))) Q E s := by
        unfold searchRest
        rw [rowsG_at R.rw_ hp]
        dsimp only
        refine wpAny_bind (wpAny_holding (wpAny_eqBool_tuple hu (R.tu p pm) hx ?_))
        refine wpAny_bind (wpAny_setState_of ho hd R.fit ?_)
        dsimp only
        by_cases ek : p.2 = k
        · exact wp_if_pos (by simp [ek]) (wpAny_pure (hin (List.mem_map.mpr ⟨p, pm, ek⟩)))
        · refine wp_if_neg (by simp [ek]) ?_
          try refine wpAny_bind (wpAny_pure ?_)
          rw [sameMem]
          dsimp only
          simp only [if_true, slot_live R.tb.up hi, rowsG_at R.rw_ hp]
          refine wpAny_bind (wpAny_isSame_ref_self (wpAny_bind (wpAny_pure ?_)))
          simp only [if_true]
          refine wp_if_neg (by simp [ek]) ?_
          refine R.from hx hu hNf hN hb hin hout f (c + (q + 1)) _ rfl (by omega) (by omega) fun i0 p0 c' h0 k0 hc' h3 => ?_
          rcases Nat.lt_or_ge c' c with z | z
          · exact hnp i0 p0 c' h0 k0 z h3
          · rcases Nat.lt_or_ge c' (c + q) with y | y
            · refine hno (c' - c) i0 (by omega) (by rw [Nat.add_sub_cancel' z]; exact h3) ?_
              exact (hh h0).trans (by rw [k0])
            · obtain rfl : c' = c + q := by omega
              have s1 := slot_live R.tb.up h3
              rw [slot_live R.tb.up hi] at s1
              injection s1 with s1
              rw [← s1, hp] at h0
              exact ek (by rw [Option.some.inj h0]; exact k0)
      by_cases hl : t.led = true
      · refine wp_if_neg (by simp [hl]) ?_
        try refine wpAny_bind (wpAny_pure ?_)
        exact go
      · refine wp_if_pos (by simp [hl]) ?_
        refine wpAny_bind (seen_tup hx (fun y hy => ?_) ?_)
        · obtain ⟨e, he, rfl⟩ := List.mem_map.mp hy
          have he2 : e ∈ es.toList := by simpa using (Array.mem_filter.mp (Array.mem_toList_iff.mp he)).1
          rw [R.rw_] at he2
          obtain ⟨p2, q1, rfl⟩ := List.mem_map.mp he2
          exact ⟨p2.2, p2.1, rfl, R.tu p2 q1⟩
        · refine wp_if_neg (by decide) ?_
          try refine wpAny_bind (wpAny_pure ?_)
          exact go
    · have hp0 : t.probe (fun i => (es[i]?.map (·.1)).getD 0) (thash P w k) (st.getD (t.probeStart (thash P w k))) = some (.empty (prG t.mask (thash P w k) N).j none) := by
        rw [Nat.add_sub_cancel' hc] at hpr
        rw [hst]; exact hpr
      rw [hp0]
      dsimp only
      refine wpAny_pure (hout fun hm => ?_)
      obtain ⟨p0, h0, k0⟩ := List.mem_map.mp hm
      obtain ⟨i0, hi0, rfl⟩ := List.getElem_of_mem h0
      obtain ⟨c', b1, b2, b3⟩ := ahead (List.getElem?_eq_getElem hi0) k0
      exact hno (c' - c) i0 (by omega) (by rw [Nat.add_sub_cancel' b1]; exact b3) ((hh (List.getElem?_eq_getElem hi0)).trans (by rw [k0]))
theorem StG.look {t : SetTable} (R : StG P w s.heap a L es ep t) {x : Addr} {k : List Int} (hx : IsT P w s.heap k x) (hu : A.units < cLine) {Q : SetFound → Shared → Prop} (hin : k ∈ L.map (·.2) → Q (.there none) s)
    (hout : ∀ N, k ∉ L.map (·.2) → way t.mask (thash P w k) N ∉ t.place.toList → (∀ c, c < N → way t.mask (thash P w k) c ∈ t.place.toList) → Q (.free (way t.mask (thash P w k) N) false) s) :
    wpAny (model P w) A (setSearch a (.ref x) (thash P w k) true) Q E s := by
  have := R.room
  have m5 := R.tb.gm.le
  obtain ⟨N, n1, n2, n3⟩ := R.tb.end_ (by rw [List.length_map]; omega) (thash P w k)
  have : N < 100000 := by unfold SetTable.turns at n1; omega
  exact R.from hx hu n1 n2 n3 hin (fun z => hout N z n2 n3) 100000 0 none rfl (Nat.zero_le _) (by omega) fun _ _ _ _ _ z => absurd z (Nat.not_lt_zero _)
theorem StG.relay {t : SetTable} {o : Obj} (ho : s.heap.get? a = some o) (hex : o.ExactSet) (hd : o.data = .set es ep t) (hr : es.toList = rowsOf P w L) (hT : TbG t (L.map fun p => thash P w p.2)) (un : (L.map (·.2)).Nodup) (tu : ∀ p ∈ L, IsT P w s.heap p.2 p.1)
    (hp : t.plain = true) (hl : L.length ≤ t.mask) {wanted m : Nat} (hm : MskG m) (hw : SetTable.sizeAbove wanted - 1 = m) (hn : L.length * 5 < m * 3) {Q : Unit → Shared → Prop}
    (hQ : ∀ h' L' es' ep' t', Heap.SameBut a s.heap h' → StG P w h' a L' es' ep' t' → L'.Perm L → Q () { s with heap := h' }) : wpAny (model P w) A (setRelay a wanted) Q E s := by
  have sz := rowsG_sz hr
  have m5 := hm.le
  obtain ⟨t', ord, e, pm, T', em, _, ep2⟩ := hm.relaid (wanted := wanted) hw t (ha := es.map (·.1)) (by rw [Array.size_map, sz]; omega)
  rw [Array.size_map, sz] at pm
  obtain ⟨L2, r1, r2, r3⟩ := order_rows L es ord hr pm
  rw [← r3] at T'
  have s2 : (ord.filterMap (es[·]?)).size = es.size := by rw [rowsG_sz r1, r2.length_eq, sz]
  rw [setRelay_eq]
  refine wpAny_bind (wpAny_setState_of ho hd (fitsG (by rw [hT.sz, List.length_map, sz]) hT.nd (by rw [sz]; exact hl)) ?_)
  dsimp only
  refine wp_if_neg (by rw [sizeLine_eq]; omega) ?_
  try refine wpAny_bind (wpAny_pure ?_)
  rw [e]
  dsimp only
  refine wpAny_bind ?_
  refine wp_if_neg (by rw [s2]; simp) ?_
  try refine wpAny_bind (wpAny_pure ?_)
  refine wpAny_pure ?_
  dsimp only
  refine wpAny_storeSet_of ho hd ?_ (by rw [s2, sz, sizeLine_eq]; omega)
  have sb : Heap.SameBut a s.heap (s.heap.update a (Obj.putSet (ord.filterMap (es[·]?)) t')) := Heap.SameBut.update ..
  exact hQ _ L2 _ _ t' sb ⟨⟨_, store_at ho hd, ⟨hex.1, hex.2.1, hex.2.2⟩, rfl⟩, r1, T', (r2.map (·.2)).nodup_iff.mpr un, fun p hpm => isT_same (tu p (r2.mem_iff.mp hpm)) ho hd sb, by rw [ep2]; exact hp, by rw [r2.length_eq, em]; exact hn⟩ r2
theorem grow5 : SetTable.sizeAbove (SetTable.grown 5) = 32 := by decide +kernel
theorem grow19 : SetTable.sizeAbove (SetTable.grown 19) = 128 := by decide +kernel
theorem grow77 : SetTable.sizeAbove (SetTable.grown 77) = 512 := by decide +kernel
theorem StG.add {t : SetTable} (R : StG P w s.heap a L es ep t) {x : Addr} {k : List Int} (hx : IsT P w s.heap k x) (hu : A.units < cLine) (hfew : L.length + 1 ≤ 300) {Q : Bool → Shared → Prop}
    (hQ : ∀ b h' L' es' ep' t', Heap.SameBut a s.heap h' → StG P w h' a L' es' ep' t' → (k ∈ L.map (·.2) → L' = L) → (k ∉ L.map (·.2) → L'.Perm ((x, k) :: L)) → Q b { s with heap := h' }) :
    wpAny (model P w) A (setAddHashed a (.ref x) (thash P w k)) Q E s := by
  obtain ⟨o, ho, hex, hd⟩ := R.ob
  have sz := rowsG_sz R.rw_
  have room := R.room
  unfold setAddHashed
  refine wpAny_holding ?_
  rw [show (100000 : Nat) = 99999 + 1 from rfl, setAddHashedIn_succ]
  refine wpAny_bind (wpAny_setState_of ho hd R.fit ?_)
  dsimp only
  refine wp_if_neg (by simp [byScan, Value.scannable]) ?_
  try refine wpAny_bind (wpAny_pure ?_)
  refine wpAny_bind (R.look hx hu (fun hm => ?_) fun N hm hN hb => ?_)
  · dsimp only
    exact wpAny_pure (hQ false s.heap L es ep t (Heap.SameBut.refl a s.heap) R (fun _ => rfl) fun z => absurd hm z)
  · dsimp only
    refine wpAny_bind (wpAny_setState_of ho hd R.fit ?_)
    dsimp only
    obtain ⟨q1, q2, q3⟩ := R.tb.add hN hb rfl
    have e2 : (t.put (way t.mask (thash P w k) N)).2 = SetTable.below t.place (way t.mask (thash P w k) N) := rfl
    have mk : (t.put (way t.mask (thash P w k) N)).1.mask = t.mask := rfl
    have pl : (t.put (way t.mask (thash P w k) N)).1.plain = true := R.pl
    generalize t.put (way t.mask (thash P w k) N) = pt at q2 q3 e2 mk pl ⊢
    obtain ⟨t1, p⟩ := pt
    dsimp only at q2 q3 e2 mk pl ⊢
    rw [← e2] at q1 q2
    first
      | (refine wpAny_bind ?_; refine wp_if_pos pl ?_; refine hashBy_tup hx ?_)
      | refine wp_if_pos pl (wpAny_bind (hashBy_tup hx ?_))
    simp only [if_true]
    have hr1 : (SetTable.insertAt es p (thash P w k, Value.ref x)).toList = rowsOf P w (L.take p ++ (x, k) :: L.drop p) := by rw [SetTable.toList_insertAt, rows_put, R.rw_]
    have hp1 := put_perm L p (x, k)
    have ht1 : TbG t1 ((L.take p ++ (x, k) :: L.drop p).map fun p => thash P w p.2) := by rw [List.map_append, List.map_cons, List.map_take, List.map_drop]; exact q2
    generalize SetTable.insertAt es p (thash P w k, Value.ref x) = es1 at hr1 ⊢
    generalize L.take p ++ (x, k) :: L.drop p = L1 at hr1 hp1 ht1
    have len : L1.length = L.length + 1 := hp1.length_eq
    have un1 : (L1.map (·.2)).Nodup := (hp1.map (·.2)).nodup_iff.mpr (List.nodup_cons.mpr ⟨hm, R.un⟩)
    have sz1 := rowsG_sz hr1
    refine wpAny_bind (wpAny_storeSet_of ho hd ?_ (by rw [sz1, len, sizeLine_eq]; omega))
    have sb : Heap.SameBut a s.heap (s.heap.update a (Obj.putSet es1 t1)) := Heap.SameBut.update ..
    have ho1 := store_at (es' := es1) (t' := t1) ho hd
    generalize s.heap.update a (Obj.putSet es1 t1) = h1 at sb ho1 ⊢
    have tu1 : ∀ p ∈ L1, IsT P w h1 p.2 p.1 := fun p hp => by
      rcases List.mem_cons.mp (hp1.mem_iff.mp hp) with e | hp
      · rw [e]; exact isT_same hx ho hd sb
      · exact isT_same (R.tu p hp) ho hd sb
    have full : t1.tooFull = decide (t.mask * 3 ≤ L1.length * 5) := by
      unfold SetTable.tooFull
      rw [q3, mk, List.length_map, ← len]
    by_cases hf : t.mask * 3 ≤ L1.length * 5
    · have hf' : t1.tooFull = true := full.trans (decide_eq_true hf)
      first
        | (refine wpAny_bind ?_; refine wp_if_pos (by simp [hf']) ?_)
        | (refine wp_if_pos (by simp [hf']) ?_; refine wpAny_bind ?_)
      have go : ∀ m, MskG m → SetTable.sizeAbove (SetTable.grown (es.size + 1)) - 1 = m → L1.length * 5 < m * 3 →
          wpAny (model P w) A (setRelay a (SetTable.grown (es.size + 1))) (fun _ s' => wpAny (model P w) A (pure true) Q E s') E { s with heap := h1 } := fun m a1 a2 a3 =>
        StG.relay (s := { s with heap := h1 }) ho1 ⟨hex.1, hex.2.1, hex.2.2⟩ rfl hr1 ht1 un1 tu1 pl (by rw [mk, len]; have := R.tb.gm.odd; omega) a1 a2 a3 fun h2 L2 es2 ep2 t2 sb2 R2 pm2 =>
          wpAny_pure (hQ true h2 L2 es2 ep2 t2 (sb.trans sb2) R2 (fun z => absurd z hm) fun _ => pm2.trans hp1)
      rw [sz] at go ⊢
      rcases R.tb.gm with e | e | e | e
      · have : L.length = 4 := by omega
        exact go 31 (.inr (.inl rfl)) (by rw [this, grow5]) (by omega)
      · have : L.length = 18 := by omega
        exact go 127 (.inr (.inr (.inl rfl))) (by rw [this, grow19]) (by omega)
      · have : L.length = 76 := by omega
        exact go 511 (.inr (.inr (.inr rfl))) (by rw [this, grow77]) (by omega)
      · omega
    · have hf' : t1.tooFull = false := full.trans (decide_eq_false hf)
      first
        | refine wp_if_neg (by simp [hf']) ?_
        | (refine wpAny_bind ?_; refine wp_if_neg (by simp [hf']) ?_; refine wpAny_pure ?_)
      exact wpAny_pure (hQ true h1 L1 es1 (ep + 1) t1 sb ⟨⟨_, ho1, ⟨hex.1, hex.2.1, hex.2.2⟩, rfl⟩, hr1, ht1, un1, tu1, pl, by rw [mk]; omega⟩ (fun z => absurd z hm) fun _ => hp1)
theorem StG.stay {h h' : Heap} {t : SetTable} (R : StG P w h a L es ep t) (ha : ∀ o, h.get? a = some o → h'.get? a = some o) (ht : ∀ p ∈ L, IsT P w h' p.2 p.1) : StG P w h' a L es ep t := by
  obtain ⟨o, ho, r⟩ := R.ob
  exact ⟨⟨o, ha o ho, r⟩, R.rw_, R.tb, R.un, ht, R.pl, R.room⟩
theorem StG.none {h : Heap} {b : Bool} (ho : h.get? a = some { cls := .type "set", dict := none, data := .set #[] 0 (.fresh 0 0 b) }) : StG P w h a [] #[] 0 (.fresh 0 0 b) :=
  ⟨⟨_, ho, ⟨rfl, rfl, rfl⟩, rfl⟩, rfl, ⟨.inl rfl, List.Pairwise.nil, rfl, rfl, (fun h _ => (by simp at h))⟩, List.nodup_nil, (fun _ h => (by cases h)), rfl, by show 0 * 5 < 7 * 3; decide⟩
theorem loopTB {I : Addr} {fp wr : List Addr} {G : Array GenState → Array GenState → Prop} {n : Nat} {Pv : Nat → Value → Prop} {Sx : Nat → Shared → Prop} {R : Result → Shared → Prop}
    (W : WalksS P w A.in1 I fp wr G n Pv Sx) (S : Addr) (hSf : S ∉ fp) (ks : List (Addr × List Int)) (hn : n = ks.length) (hfew : ks.length ≤ 300) (hval : ∀ i v, Pv i v → ∃ p, ks[i]? = some p ∧ v = .ref p.1)
    (g : Heap) (hk : ∀ p ∈ ks, IsT P w g p.2 p.1) (hS0 : g.get? S = none) (hw0 : ∀ b ∈ wr, g.get? b = none) (hu : A.in1.units < cLine) :
    ∀ (k i : Nat) (s : Shared), n - i = k → i ≤ n → Sx i s → (∀ b o, g.get? b = some o → s.heap.get? b = some o) → (∃ L es ep t, StG P w s.heap S L es ep t ∧ Got ks i L) →
      (∀ z L es ep t, Moved (S :: wr) G s z → StG P w z.heap S L es ep t → Got ks n L → R (.ok (.ret .none)) z) → codeAny (model P w) A (.builtin "set.update.loop" ⟨[.ref S, .ref I], []⟩) R s := by
  have nw : S ∉ wr := fun h => hSf (W.sub _ h)
  have up : ∀ b ∈ wr, b ∈ S :: wr := fun b hb => List.mem_cons_of_mem _ hb
  have keep : ∀ {s z : Shared}, Moved wr G s z → (∀ b o, g.get? b = some o → s.heap.get? b = some o) → ∀ b o, g.get? b = some o → z.heap.get? b = some o := fun m q b o e => m.heap b o (fun hb => by rw [hw0 b hb] at e; cases e) (q b o e)
  intro k
  induction k with
  | zero =>
    intro i s hk' hi hst hkp ⟨L, es, ep, t, hS, gt⟩ hR
    obtain rfl : i = n := by omega
    refine codeAny_builtin F.entry_set_update_loop ?_
    rw [Around.under_plainId F.plain_set_update_loop _]
    refine (wpAny_bind (W.done s _ _ hst fun z hm => ?_) : wpAny _ A.in1 (pyNext (.ref I) >>= _) _ _ s)
    show wpAny _ A.in1 (ret Value.none) _ _ z
    exact wpAny_pure (hR z L es ep t (hm.mono up) (hS.stay (fun o e => hm.heap S o nw e) fun p hp => isT_keep (hk p (List.mem_of_mem_take (gt.sub p hp))) (keep hm hkp)) gt)
  | succ k ih =>
    intro i s hk' hi hst hkp ⟨L, es, ep, t, hS, gt⟩ hR
    have hlt : i < n := by omega
    refine codeAny_builtin F.entry_set_update_loop ?_
    rw [Around.under_plainId F.plain_set_update_loop _]
    refine (wpAny_bind (W.item i s _ _ hlt hst fun v z hP hst' hm => ?_) : wpAny _ A.in1 (pyNext (.ref I) >>= _) _ _ s)
    obtain ⟨p, hp, rfl⟩ := hval i v hP
    have kz := keep hm hkp
    have hS' : StG P w z.heap S L es ep t := hS.stay (fun o e => hm.heap S o nw e) fun q hq => isT_keep (hk q (List.mem_of_mem_take (gt.sub q hq))) kz
    have hx : IsT P w z.heap p.2 p.1 := isT_keep (hk p (List.mem_of_getElem? hp)) kz
    have le := gt.len
    refine (wpAny_bind (wpAny_holding ?_) : wpAny _ A.in1 (holding [Value.ref p.1] (setAdd S (.ref p.1)) >>= _) _ _ z)
    unfold setAdd
    refine wpAny_holding (wpAny_bind (wpAny_pyHash_tuple hu hx ?_))
    refine StG.add (s := { z with toks := z.toks + (p.2.length + 1) }) hS' hx hu (by omega) fun b h' L' es' ep' t' hsb hS2 c1 c2 => ?_
    have g' : Got ks (i + 1) L' := by
      by_cases c : p.2 ∈ L.map (·.2)
      · rw [c1 c]; exact gt.same hp c
      · exact gt.more hp (c2 c)
    refine wpAny_pure ⟨plainId_quiet F.plain_set_update_loop _, ih (i + 1) _ (by omega) hlt (W.frame _ z _ _ hst' (Nat.le_add_right _ _) fun b hb o e => ?_) (fun b o e => ?_) ⟨L', es', ep', t', hS2, g'⟩ fun y L2 es2 ep2 t2 hy h2 g2 => ?_⟩
    · rw [hsb.2 b (fun q : b = S => hSf (by rw [← q]; exact hb))]; exact e
    · rw [hsb.2 b (fun q : b = S => by rw [q, hS0] at e; cases e)]; exact kz b o e
    · refine hR y L2 es2 ep2 t2 (Moved.trans W.gtrans ((hm.mono up).then_heap (Nat.le_add_right _ _) fun b o hb e => ?_) hy) h2 g2
      rw [hsb.2 b (fun q : b = S => hb (by rw [q]; exact List.mem_cons_self))]; exact e
end
end M
set_option Elab.async false
set_option linter.all false
set_option maxRecDepth 100000
set_option maxHeartbeats 4000000
namespace M
open PySem PySem.Spec PyProof.Rows L2
def titer (l : Addr) : Obj := { cls := .type "tuple_iterator", data := .fields #[.ref l, .int 0 0] }
def preSet (s : Shared) (w : World) : Shared := { s with heap := s.heap.push (freshSet w) }
def midSet (s : Shared) (w : World) (l : Addr) : Shared := { s with heap := (s.heap.push (freshSet w)).push (titer l) }
section
variable {P : Program} {w : World} {A : Around} {E : Value → Shared → Prop} {s : Shared}
theorem call_setT {l : Addr} {items : Array Value} {Q : Value → Shared → Prop} {Good : Heap → Prop} (hl : s.heap.IsTuple l items)
    (loop : ∀ R : Result → Shared → Prop, (∀ h' tk, Good h' → (∀ b o, s.heap.get? b = some o → h'.get? b = some o) → R (.ok (.ret .none)) { s with heap := h', toks := tk }) →
      codeAny (model P w) A.in1.in1 (.builtin "set.update.loop" ⟨[.ref s.heap.objs.size, .ref (s.heap.push (freshSet w)).objs.size], []⟩) R (midSet s w l))
    (fin : ∀ h' tk, Good h' → (∀ b o, s.heap.get? b = some o → h'.get? b = some o) → Q (.ref s.heap.objs.size) { s with heap := h', toks := tk }) :
    wpAny (model P w) A (call (.type "set") [.ref l]) Q E s := by
  obtain ⟨cq, tq, m1⟩ := F.called_set.mro
  have m2 := F.called_set.made
  have m3 := F.called_set.sub
  refine wpAny_call (codeAny_of_tree (?_ : wpAny _ _ (callAny (.type "set") _) _ _ _))
  refine wpAny_pure ⟨Code.quiet_builtin _ (by decide +kernel), codeAny_builtin F.entry_type_call ?_⟩
  rw [Around.under_plain (weight_type_call_type "set" [.ref l] []) rfl]
  have m4 := F.called_set.notType
  have m5 := F.called_set.canCreate
  have m6 := F.typeCall_set_1 (.ref l)
  repeat (any_goals (first | assumption | wp_step))
  refine codeAny_mono (code_set_led1 (.ref l) (E := E) (Q₁ := fun ob z => ob = .ref s.heap.objs.size ∧ z = preSet s w) ⟨rfl, rfl⟩) fun r z hr => ?_
  cases r with
  | error e => exact hr
  | ok fl =>
    cases fl with
    | ret ob =>
      obtain ⟨rfl, rfl⟩ := hr
      have g1 : (preSet s w).heap.get? s.heap.objs.size = some (freshSet w) := Heap.get?_push_size _ rfl
      have g2 : Shared.TypeIs (preSet s w) (.ref s.heap.objs.size) "set" := ⟨_, g1, rfl⟩
      have g3 := F.called_set.init.lookup
      have g4 := F.called_set.init.bind (.ref s.heap.objs.size)
      repeat (any_goals (first | assumption | wp_step))
      refine codeAny_mono (codeAny_call_builtin (R := wants (fun r y => r = .none ∧ ∃ h' tk, y = { s with heap := h', toks := tk } ∧ Good h' ∧ ∀ b o, s.heap.get? b = some o → h'.get? b = some o) E) F.called_set.init.plain F.entry_set_init (check_set_init_1 g2 ?_)) fun r2 y hr2 => ?_
      · obtain ⟨ol, e1, e2, nl, e3⟩ := hl
        obtain ⟨o1, o2, o3, o4⟩ := ol
        simp only at e2 e3
        subst e2; subst e3
        have e4 : (preSet s w).heap.get? l = some { cls := .type "tuple", dict := o2, data := .seq items nl, slots := o4 } := Heap.get?_push_of_some _ e1
        have q1 := F.sub_tuple_set
        have q2 := F.sub_tuple_frozenset
        have q3 : (Value.type "tuple" == Value.type "dict") = false := by decide
        have q4 : (preSet s w).heap.IsTuple l items := ⟨_, e4, rfl, nl, rfl⟩
        unfold Builtin.«set.__init__» noKeywords Builtin.Frozenset.updateFrom
        generalize hPI : pyIter = PI
        wp_walk
        subst hPI
        refine wpAny_pyIter_tuple q4 (wpAny_bind (wpAny_runValue ?_))
        refine loop _ fun h' tk hg hk => ?_
        show wpAny _ _ _ _ _ _
        refine wpAny_pure ?_
        show wpAny _ _ (ret Value.none) _ _ _
        exact wpAny_pure ⟨rfl, h', tk, rfl, hg, hk⟩
      · cases r2 with
        | error e => exact hr2
        | ok f2 =>
          cases f2 with
          | ret r =>
            obtain ⟨rfl, h', tk, rfl, hg, hk⟩ := hr2
            repeat (any_goals (first | assumption | wp_step))
            exact fin _ _ hg hk
          | _ => exact hr2.elim
    | _ => exact hr.elim
def SetN (S : Addr) (n : Nat) (h : Heap) : Prop := ∃ o es ep t, h.get? S = some o ∧ o.ExactSet ∧ o.data = .set es ep t ∧ t.fits es.size = true ∧ es.size = n
def nubG {κ : Type} [DecidableEq κ] (ks : List κ) : List κ := ks.foldl (fun acc k => if k ∈ acc then acc else k :: acc) []
theorem nubG_fold {κ : Type} [DecidableEq κ] : ∀ (ks acc : List κ), acc.Nodup → (ks.foldl (fun acc k => if k ∈ acc then acc else k :: acc) acc).Nodup ∧ ∀ x, x ∈ ks.foldl (fun acc k => if k ∈ acc then acc else k :: acc) acc ↔ x ∈ acc ∨ x ∈ ks
  | [], acc, h => ⟨h, fun x => by simp⟩
  | k :: ks, acc, h => by
    rw [List.foldl_cons]
    by_cases hk : k ∈ acc
    · rw [if_pos hk]
      obtain ⟨h1, h2⟩ := nubG_fold ks acc h
      refine ⟨h1, fun x => ?_⟩
      rw [h2, List.mem_cons]
      constructor
      · rintro (a | a)
        · exact .inl a
        · exact .inr (.inr a)
      · rintro (a | a | a)
        · exact .inl a
        · subst a; exact .inl hk
        · exact .inr a
    · rw [if_neg hk]
      obtain ⟨h1, h2⟩ := nubG_fold ks (k :: acc) (List.nodup_cons.mpr ⟨hk, h⟩)
      refine ⟨h1, fun x => ?_⟩
      rw [h2, List.mem_cons, List.mem_cons]
      constructor
      · rintro ((a | a) | a)
        · exact .inr (.inl a)
        · exact .inl a
        · exact .inr (.inr a)
      · rintro (a | a | a)
        · exact .inl (.inr a)
        · exact .inl (.inl a)
        · exact .inr a
theorem nubG_nd {κ : Type} [DecidableEq κ] (ks : List κ) : (nubG ks).Nodup := (nubG_fold ks [] List.nodup_nil).1
theorem nubG_mem {κ : Type} [DecidableEq κ] (ks : List κ) (x : κ) : x ∈ nubG ks ↔ x ∈ ks := by
  have := (nubG_fold ks [] List.nodup_nil).2 x
  unfold nubG
  rw [this]; simp
theorem nd_len_le {κ : Type} [DecidableEq κ] : ∀ {a b : List κ}, a.Nodup → (∀ x ∈ a, x ∈ b) → a.length ≤ b.length
  | [], b, _, _ => by simp
  | x :: a, b, h, hs => by
    obtain ⟨h1, h2⟩ := List.nodup_cons.mp h
    have hx := hs x (by simp)
    have := nd_len_le (a := a) (b := b.erase x) h2 (fun y hy => (List.mem_erase_of_ne (fun e => h1 (by rw [← e]; exact hy))).mpr (hs y (by simp [hy])))
    rw [List.length_erase_of_mem hx] at this
    have hp : 0 < b.length := List.length_pos_of_mem hx
    rw [List.length_cons]; omega
theorem nub_len {κ : Type} [DecidableEq κ] {a ks : List κ} (h : a.Nodup) (hm : ∀ x, x ∈ a ↔ x ∈ ks) : a.length = (nubG ks).length :=
  Nat.le_antisymm (nd_len_le h fun x hx => (nubG_mem ks x).mpr ((hm x).mp hx)) (nd_len_le (nubG_nd ks) fun x hx => (hm x).mpr ((nubG_mem ks x).mp hx))
theorem apart {l : Addr} (hlt : l < s.heap.objs.size) : l ≠ (s.heap.push (freshSet w)).objs.size ∧ s.heap.objs.size ∉ [(s.heap.push (freshSet w)).objs.size, l] := by
  rw [Heap.size_push]
  refine ⟨Nat.ne_of_lt (Nat.lt_succ_of_lt hlt), ?_⟩
  simp only [List.mem_cons, List.not_mem_nil, or_false, not_or]
  exact ⟨Nat.ne_of_lt (Nat.lt_succ_self _), Nat.ne_of_gt hlt⟩
theorem kept_of {G : Array GenState → Array GenState → Prop} {s' : Shared} {l : Addr} (hm : Moved (s.heap.objs.size :: [(s.heap.push (freshSet w)).objs.size]) G (midSet s w l) s') : ∀ b o, s.heap.get? b = some o → s'.heap.get? b = some o := fun b o e => by
  have hb := Heap.lt_size e
  refine hm.heap b o ?_ (Heap.get?_push_of_some _ (Heap.get?_push_of_some _ e))
  rw [Heap.size_push]
  simp only [List.mem_cons, List.not_mem_nil, or_false, not_or]
  exact ⟨Nat.ne_of_lt hb, Nat.ne_of_lt (Nat.lt_succ_of_lt hb)⟩
theorem back_of {s' : Shared} {wr : List Addr} {l : Addr} (hm : Moved wr (fun a b => b = a) (midSet s w l) s') : s' = { s with heap := s'.heap, toks := s'.toks } := by
  obtain ⟨h', g', d', t', o'⟩ := s'
  have h1 : g' = s.gens := hm.gens
  have h2 : d' = s.drawn := hm.drawn
  have h3 : o' = s.os := hm.os
  subst h1; subst h2; subst h3; rfl
theorem call_setTI {l : Addr} {items : Array Value} (ns : List Int) {Q : Value → Shared → Prop} (hh : A.handled = none) (hl : s.heap.IsTuple l items) (hit : IntsAre items.toList ns) (hb : ns.length + 1 < scanBound)
    (fin : ∀ h' tk, SetN s.heap.objs.size (nubG ns).length h' → (∀ b o, s.heap.get? b = some o → h'.get? b = some o) → Q (.ref s.heap.objs.size) { s with heap := h', toks := tk }) : wpAny (model P w) A (call (.type "set") [.ref l]) Q E s := by
  have hlt : l < s.heap.objs.size := by obtain ⟨o, ho, _⟩ := hl; exact Heap.lt_size ho
  obtain ⟨n1, n2⟩ := apart (w := w) hlt
  have hz : items.size = ns.length := by have := IntsAre.length hit; rwa [Array.length_toList] at this
  have g1 : (midSet s w l).heap.get? s.heap.objs.size = some (freshSet w) := Heap.get?_push_of_some _ (Heap.get?_push_size _ rfl)
  refine call_setT (Good := SetN s.heap.objs.size (nubG ns).length) hl (fun R hR => ?_) fin
  refine set_update_ints ((Walks.tuple (by simp [hh]) _ l n1 items).toS) s.heap.objs.size n2 ns hz hb (fun i v hv => ?_) items.size 0 _ (by omega) (Nat.zero_le _) ⟨⟨_, Heap.get?_push_size _ rfl, rfl, rfl⟩, ((hl.push _).push _)⟩ ⟨0, Nat.le_refl 0, setR_new_at g1⟩ fun s' c hm hc hS => ?_
  · have hi : i < ns.length := by rw [← hz]; exact (Array.getElem?_eq_some_iff.mp hv).1
    obtain ⟨t, e⟩ := IntsAre.int_at hit i v (by rw [Array.getElem?_toList]; exact hv)
    refine ⟨ns[i], t, List.getElem?_eq_getElem hi, ?_⟩
    rw [e, List.getD_eq_getElem?_getD, List.getElem?_eq_getElem hi]; rfl
  · rw [back_of hm]
    refine hR _ _ ?_ (kept_of hm)
    obtain ⟨o, es, ep, t, ho, hx, hd, _, hn, hmem, _, hf, hsz, _⟩ := hS
    refine ⟨o, es, ep, t, ho, hx, hd, hf, ?_⟩
    have := nub_len (a := es.toList.map L2.keyOf) (ks := ns) hn (fun x => by rw [← hmem x]; simp)
    rw [← this, List.length_map, Array.length_toList]
theorem call_setTT {l : Addr} {items : Array Value} (ks : List (Addr × List Int)) {Q : Value → Shared → Prop} (hh : A.handled = none) (hl : s.heap.IsTuple l items) (hit : items.toList = ks.map fun p => Value.ref p.1) (hk : ∀ p ∈ ks, IsT P w s.heap p.2 p.1) (hf : ks.length ≤ 300) (hu : A.units + 3 < cLine)
    (fin : ∀ h' tk, SetN s.heap.objs.size (nubG (ks.map (·.2))).length h' → (∀ b o, s.heap.get? b = some o → h'.get? b = some o) → Q (.ref s.heap.objs.size) { s with heap := h', toks := tk }) : wpAny (model P w) A (call (.type "set") [.ref l]) Q E s := by
  have hlt : l < s.heap.objs.size := by obtain ⟨o, ho, _⟩ := hl; exact Heap.lt_size ho
  obtain ⟨n1, n2⟩ := apart (w := w) hlt
  have hz : items.size = ks.length := by have := congrArg List.length hit; rwa [Array.length_toList, List.length_map] at this
  have g1 : (midSet s w l).heap.get? s.heap.objs.size = some (freshSet w) := Heap.get?_push_of_some _ (Heap.get?_push_size _ rfl)
  have free : ∀ b, s.heap.objs.size ≤ b → s.heap.get? b = none := fun b hb => by
    cases q : s.heap.get? b with
    | none => rfl
    | some o => exact absurd (Nat.lt_of_lt_of_le (Heap.lt_size q) hb) (Nat.lt_irrefl _)
  refine call_setT (Good := SetN s.heap.objs.size (nubG (ks.map (·.2))).length) hl (fun R hR => ?_) fin
  refine loopTB ((Walks.tuple (by simp [hh]) _ l n1 items).toS) s.heap.objs.size n2 ks hz hf (fun i v hv => ?_) s.heap hk (free _ (Nat.le_refl _)) (fun b hb => free b (by rw [List.mem_singleton.mp hb, Heap.size_push]; exact Nat.le_succ _)) (by simp only [Around.in1]; first | omega | exact (by omega)) items.size 0 _ (by omega) (Nat.zero_le _) ⟨⟨_, Heap.get?_push_size _ rfl, rfl, rfl⟩, ((hl.push _).push _)⟩ (fun b o e => Heap.get?_push_of_some _ (Heap.get?_push_of_some _ e)) ⟨[], _, _, _, StG.none g1, Got.zero ks⟩ fun s' L es ep t hm hS hg => ?_
  · have q : items.toList[i]? = some v := by rw [Array.getElem?_toList]; exact hv
    rw [hit, List.getElem?_map] at q
    obtain ⟨p, hp, e⟩ := Option.map_eq_some_iff.mp q
    exact ⟨p, hp, e.symm⟩
  · rw [back_of hm]
    refine hR _ _ ?_ (kept_of hm)
    obtain ⟨o, ho, hx, hd⟩ := hS.ob
    refine ⟨o, es, ep, t, ho, hx, hd, hS.fit, ?_⟩
    rw [rowsG_sz hS.rw_]
    have := nub_len (a := L.map (·.2)) (ks := ks.map (·.2)) hS.un (fun x => ?_)
    · rw [← this, List.length_map]
    · constructor
      · intro h
        obtain ⟨p, hp, rfl⟩ := List.mem_map.mp h
        exact List.mem_map.mpr ⟨p, List.mem_of_mem_take (hg.sub p hp), rfl⟩
      · intro h
        obtain ⟨p, hp, rfl⟩ := List.mem_map.mp h
        exact hg.all p (by rw [hz, List.take_length]; exact hp)
theorem nubG_snoc {κ : Type} [DecidableEq κ] (l : List κ) (x : κ) : (nubG (l ++ [x])).length = if x ∈ l then (nubG l).length else (nubG l).length + 1 := by
  have e : nubG (l ++ [x]) = if x ∈ nubG l then nubG l else x :: nubG l := by unfold nubG; rw [List.foldl_append]; rfl
  rw [e]
  by_cases h : x ∈ l
  · rw [if_pos ((nubG_mem l x).mpr h), if_pos h]
  · rw [if_neg (fun q => h ((nubG_mem l x).mp q)), if_neg h]; rfl
theorem loopTx {I : Addr} {fp wr : List Addr} {G : Array GenState → Array GenState → Prop} {n : Nat} {Pv : Nat → Value → Prop} {St : Nat → Shared → Prop} {R : Result → Shared → Prop}
    (W : WalksS P w A.in1 I fp wr G n Pv St) (S : Addr) (hSf : S ∉ fp) (xs : List Str) (hn : n = xs.length) (hb : xs.length + 1 < scanBound) (hval : ∀ i v, Pv i v → ∃ x t, xs[i]? = some x ∧ v = .str x t) :
    ∀ (k i : Nat) (s : Shared), n - i = k → i ≤ n → St i s → s.heap.SetOf (PySem.strKind P w) S (fun q => decide (q ∈ xs.take i)) (nubG (xs.take i)).length →
      (∀ z, Moved (S :: wr) G s z → z.heap.SetOf (PySem.strKind P w) S (fun q => decide (q ∈ xs)) (nubG xs).length → R (.ok (.ret .none)) z) → codeAny (model P w) A (.builtin "set.update.loop" ⟨[.ref S, .ref I], []⟩) R s := by
  have o1 : S ∉ wr := fun h => hSf (W.sub _ h)
  have o2 : ∀ b ∈ wr, b ∈ S :: wr := fun b hb => List.mem_cons_of_mem _ hb
  have stay : ∀ {s s' : Shared} {f : Str → Bool} {c : Nat}, Moved wr G s s' → s.heap.SetOf (PySem.strKind P w) S f c → s'.heap.SetOf (PySem.strKind P w) S f c := fun hm hS => by
    obtain ⟨o, es, ep, t, ho, rest⟩ := hS
    exact ⟨o, es, ep, t, hm.heap S _ o1 ho, rest⟩
  intro k
  induction k with
  | zero =>
    intro i s hk hi hst hS hR
    obtain rfl : i = n := by omega
    refine codeAny_builtin PyProof.Rows.F.entry_set_update_loop ?_
    rw [Around.under_plainId PyProof.Rows.F.plain_set_update_loop _]
    refine (wpAny_bind (W.done s _ _ hst fun z hm => ?_) : wpAny _ A.in1 (pyNext (.ref I) >>= _) _ _ s)
    rw [hn, List.take_length] at hS
    show wpAny _ A.in1 (ret .none) _ _ z
    exact wpAny_pure (hR z (hm.mono o2) (stay hm hS))
  | succ k ih =>
    intro i s hk hi hst hS hR
    have hlt : i < n := by omega
    refine codeAny_builtin PyProof.Rows.F.entry_set_update_loop ?_
    rw [Around.under_plainId PyProof.Rows.F.plain_set_update_loop _]
    refine (wpAny_bind (W.item i s _ _ hlt hst fun v z hP hst' hm => ?_) : wpAny _ A.in1 (pyNext (.ref I) >>= _) _ _ s)
    obtain ⟨x, t, hx, rfl⟩ := hval i v hP
    have hS' := stay hm hS
    have tk : xs.take (i + 1) = xs.take i ++ [x] := by rw [List.take_add_one, hx]; rfl
    have cnt : (nubG (xs.take i)).length ≤ i := by
      have := nd_len_le (nubG_nd (xs.take i)) (fun y hy => (nubG_mem _ y).mp hy)
      rw [List.length_take] at this
      omega
    refine (wpAny_bind (wpAny_holding ?_) : wpAny _ A.in1 (holding [Value.str x t] (setAdd S (.str x t)) >>= _) _ _ z)
    unfold setAdd
    refine wpAny_holding (wpAny_bind ((PySem.strKind P w).pyHash (k := x) (strKind_is _ _ _ _) ?_))
    refine wpAny_setAddHashed_of (knd := PySem.strKind P w) (s := { z with toks := z.toks + 1 }) (strKind_is _ _ _ _) rfl hS' (by omega) fun h' hsb hS2 => ?_
    have hS3 : h'.SetOf (PySem.strKind P w) S (fun q => decide (q ∈ xs.take (i + 1))) (nubG (xs.take (i + 1))).length := by
      refine SetOf_congr hS2 (fun q => ?_) ?_
      · rw [tk]
        simp only [List.mem_append, List.mem_singleton]
        by_cases q1 : q ∈ xs.take i <;> by_cases q2 : q = x <;> simp [q1, q2]
      · rw [tk, nubG_snoc]
        by_cases q1 : x ∈ xs.take i <;> simp [q1]
    refine wpAny_pure ⟨plainId_quiet PyProof.Rows.F.plain_set_update_loop _, ih (i + 1) _ (by omega) hlt (W.frame _ z _ _ hst' (Nat.le_succ _) fun b hb o e => ?_) hS3 fun y hy hq => ?_⟩
    · rw [hsb.2 b (fun q : b = S => hSf (by rw [← q]; exact hb))]; exact e
    · refine hR y (Moved.trans W.gtrans ((hm.mono o2).then_heap (Nat.le_succ _) fun b o hb e => ?_) hy) hq
      rw [hsb.2 b (fun q : b = S => hb (by rw [q]; exact List.mem_cons_self))]; exact e
theorem call_setTS {l : Addr} {items : Array Value} (xs : List Str) {Q : Value → Shared → Prop} (hh : A.handled = none) (hl : s.heap.IsTuple l items) (hit : Vals (xs.map V.str) items.toList) (hb : xs.length + 1 < scanBound)
    (fin : ∀ h' tk, SetN s.heap.objs.size (nubG xs).length h' → (∀ b o, s.heap.get? b = some o → h'.get? b = some o) → Q (.ref s.heap.objs.size) { s with heap := h', toks := tk }) : wpAny (model P w) A (call (.type "set") [.ref l]) Q E s := by
  have hlt : l < s.heap.objs.size := by obtain ⟨o, ho, _⟩ := hl; exact Heap.lt_size ho
  obtain ⟨n1, n2⟩ := apart (w := w) hlt
  have hz : items.size = xs.length := by have := hit.length; rw [List.length_map, Array.length_toList] at this; exact this.symm
  have g1 : (midSet s w l).heap.get? s.heap.objs.size = some (freshSet w) := Heap.get?_push_of_some _ (Heap.get?_push_size _ rfl)
  have at_ : ∀ {xs : List Str} {us : List Value}, Vals (xs.map V.str) us → ∀ (i : Nat) (v : Value), us[i]? = some v → ∃ x t, xs[i]? = some x ∧ v = .str x t := by
    intro xs
    induction xs with
    | nil => intro us h i v hv; cases h; simp at hv
    | cons x xs ih =>
      intro us h i v hv
      cases h with
      | cons r rs =>
        obtain ⟨t, rfl⟩ := r
        cases i with
        | zero => simp at hv; subst hv; exact ⟨x, t, rfl, rfl⟩
        | succ i => exact ih rs i v (by simpa using hv)
  refine call_setT (Good := SetN s.heap.objs.size (nubG xs).length) hl (fun R hR => ?_) fin
  refine loopTx ((Walks.tuple (by simp [hh]) _ l n1 items).toS) s.heap.objs.size n2 xs hz hb (fun i v hv => at_ hit i v (by rw [Array.getElem?_toList]; exact hv)) items.size 0 _ (by omega) (Nat.zero_le _) ⟨⟨_, Heap.get?_push_size _ rfl, rfl, rfl⟩, ((hl.push _).push _)⟩ ⟨freshSet w, #[], 0, _, g1, ⟨rfl, rfl, rfl⟩, rfl, (fun e he => by simp at he), by simp, by decide, rfl, rfl⟩ fun s' hm hS => ?_
  rw [back_of hm]
  refine hR _ _ ?_ (kept_of hm)
  obtain ⟨o, es, ep, t, ho, hx, hd, _, _, _, hf, hsz⟩ := hS
  exact ⟨o, es, ep, t, ho, hx, hd, hf, hsz⟩
end
section
variable {X : Cx} {c : Cf} {k1 : Kd} {e : Expr} {f : FE} {pos p p2 q : Pos} {k : Kn}
def SetLen (K : PySem.W.Frag) (H : Hp) (l : Addr) (n : Nat) : Prop :=
  (∃ ns : List Int, SqT K H l (ns.map V.int) ∧ ns.length ≤ 1000 ∧ n = (nubG ns).length) ∨ (∃ ks : List (Addr × List Int), SqT K H l (ks.map fun p => V.ref p.1) ∧ (∀ p ∈ ks, SqT K H p.1 (p.2.map V.int)) ∧ ks.length ≤ 300 ∧ n = (nubG (ks.map (·.2))).length) ∨
  ∃ xs : List Str, SqT K H l (xs.map V.str) ∧ xs.length ≤ 1000 ∧ n = (nubG xs).length
theorem refs_vals : ∀ {as : List Addr} {us : List Value}, Vals (as.map V.ref) us → us = as.map Value.ref
  | [], _, .nil => rfl
  | a :: as, _, .cons r rs => by rw [refs_vals rs]; cases r; rfl
theorem pe_lenSetG {a : Expr} {ta : TE} (hc : X.calm = true) (hu : X.A.units + 64 < cLine) (hm : X.mg "len" = none) (hm2 : X.mg "set" = none) (ha : PE X a ta) (hg : Gl X "len") (hg2 : Gl X "set") (na : starEach [a] X.env = (false, eval a X.env) :: starEach [] X.env) :
    PE X (.Call (.Name "len" p) [.Call (.Name "set" p2) [a] [] q] [] pos) (fun σ H Q => ta σ H fun x H1 => ∃ l n, x = .ref l ∧ SetLen X.K H1 l n ∧ Q (.int n) H1) := by
  refine ⟨fun pins s σ H Q I h => ?_⟩
  refine Call_ (ld_blt I hg hm PySem.boot_len (PyProof.Rows.callWith_builtin1 (PyProof.Rows.args_cons (Call_ (ld_blt I hg2 hm2 PyProof.Rows.boot_set ?_)) rfl) rfl rfl))
  refine PyProof.Rows.callWith_type1 (PyProof.Rows.args_cons (thn (ha.run pins s σ H _ I h) fun v s1 ⟨x, H1, I1, r1, l, n, ex, hq, q1⟩ => PyProof.Rows.args_nil ?_) na) na rfl
  subst ex
  cases r1
  have fin : ∀ (h' : Heap) (tk : Nat), SetN s1.heap.objs.size n h' → (∀ b o, s1.heap.get? b = some o → h'.get? b = some o) →
      wpAny (model X.prog X.w) X.A (spliced (backTo pos (starEach [] X.env))) (fun vs z => wpAny (model X.prog X.w) X.A (call (.builtin "len") (Value.ref s1.heap.objs.size :: vs)) (EP X pins σ Q) X.xe z) X.xe { s1 with heap := h', toks := tk } := fun h' tk hS hk => by
    refine PyProof.Rows.args_nil ?_
    obtain ⟨o, es, ep, t, ho, hx, hd, hf, hsz⟩ := hS
    have I2 : L2.Inv X pins σ H1 { s1 with heap := h', toks := tk } := I1.kept hk
    have hfit : (es.size : Int) < 2 ^ 63 := by
      have : es.size ≤ 1000 := by
        rw [hsz]
        rcases hq with ⟨ns, _, h1, e1⟩ | ⟨ks, _, _, h1, e1⟩ | ⟨xs, _, h1, e1⟩
        · rw [e1]; exact Nat.le_trans (nd_len_le (nubG_nd ns) fun y hy => (nubG_mem _ y).mp hy) h1
        · rw [e1]; exact Nat.le_trans (nd_len_le (nubG_nd _) fun y hy => (nubG_mem _ y).mp hy) (by rw [List.length_map]; omega)
        · rw [e1]; exact Nat.le_trans (nd_len_le (nubG_nd xs) fun y hy => (nubG_mem _ y).mp hy) h1
      omega
    exact call_len_set ho hx hd hf hfit ⟨.int n, H1, I2.tok _, ⟨_, by rw [hsz]⟩, q1⟩
  have hsb : (1003 : Nat) < scanBound := by decide
  rcases hq with ⟨ns, hT, hl, rfl⟩ | ⟨ks, hT, hk, hl, rfl⟩ | ⟨xs, hT, hl, rfl⟩
  · obtain ⟨its, r, ⟨o, h1, h2, m, h3⟩, _⟩ := I1.tuple hT
    exact call_setTI ns (I1.ok.hd hc) ⟨o, h1, h2, m, h3⟩ (by simpa using r.ints) (by omega) fin
  · obtain ⟨its, r, ⟨o, h1, h2, m, h3⟩, _⟩ := I1.tuple hT
    refine call_setTT ks (I1.ok.hd hc) ⟨o, h1, h2, m, h3⟩ ?_ (fun p hp => I1.isT (hk p hp)) hl (by omega) fin
    have := refs_vals (as := ks.map (·.1)) (by rw [List.map_map]; exact r)
    rw [List.map_map] at this
    exact (by simpa using this : its = ks.map (Value.ref ∘ fun x => x.1))
  · obtain ⟨its, r, ⟨o, h1, h2, m, h3⟩, _⟩ := I1.tuple hT
    exact call_setTS xs (I1.ok.hd hc) ⟨o, h1, h2, m, h3⟩ (by simpa using r) (by omega) fin
def lenSetD : D → R D
  | .tup ds => match asI ds with
    | some ns => if ns.length ≤ 1000 then .ok (.int (nubG ns).length) else .fail
    | none => match asTs ds with
      | some ks => if ks.length ≤ 300 then .ok (.int (nubG ks).length) else .fail
      | none => match asS ds with
        | some xs => if xs.length ≤ 1000 then .ok (.int (nubG xs).length) else .fail
        | none => .fail
  | _ => .fail
theorem asTs_rds {G : Hp} : ∀ {ds : List D} {vs : List V} {ks : List (List Int)}, RDs k G ds vs → asTs ds = some ks → ∃ ps : List (Addr × List Int), vs = ps.map (fun p => V.ref p.1) ∧ ps.map (·.2) = ks ∧ ∀ p ∈ ps, SqU k.K G p.1 (p.2.map V.int)
  | _, _, ks, .nil, h => by cases h; exact ⟨[], rfl, rfl, by simp⟩
  | d :: ds, _, ks, .cons a b, h => by
    simp only [asTs] at h
    split at h
    · rename_i x xs h1 h2
      cases h
      obtain ⟨ad, rfl, hs⟩ := RD.asT a h1
      obtain ⟨ps, rfl, rfl, hp⟩ := asTs_rds b h2
      refine ⟨(ad, x) :: ps, rfl, rfl, fun p hp' => ?_⟩
      rcases List.mem_cons.mp hp' with rfl | hp'
      · exact hs
      · exact hp p hp'
    · cases h
theorem d_lenSet (hk : c.k.K = X.K) (hc : X.calm = true) (hu : X.A.units + 64 < cLine) (hm : X.mg "len" = none) (hm2 : X.mg "set" = none) (he : PE' X c k1 e f) (hg : Gl X "len" := by rfl) (hg2 : Gl X "set" := by rfl) (na : starEach [e] X.env = (false, eval e X.env) :: starEach [] X.env := by rfl) :
    PE' X c .st (.Call (.Name "len" p) [.Call (.Name "set" p2) [e] [] q] [] pos) (e1 lenSetD f) :=
  peI (pe_lenSetG hc hu hm hm2 he hg hg2 na) fun σ H Q z => e1_go (r := fun x H1 Q => ∃ l n, x = .ref l ∧ SetLen X.K H1 l n ∧ Q (.int n) H1) (fun G H x u d ex n hg Q p => by
    cases x with
    | tup ds =>
      obtain ⟨ad, vs, rfl, ha, r⟩ := n.tup
      have ha' : SqT X.K H ad vs := hk ▸ ex.sqT ha.t
      simp only [lenSetD] at hg
      split at hg
      · rename_i ns hn
        split at hg
        · rename_i hl
          cases hg
          have := asI_of r hn; subst this
          exact ⟨ad, _, rfl, .inl ⟨ns, ha', hl, rfl⟩, p _ G H (Step.refl ex) (.int _)⟩
        · cases hg
      · split at hg
        · rename_i ks hn
          split at hg
          · rename_i hl
            cases hg
            obtain ⟨ps, rfl, rfl, hp⟩ := asTs_rds r hn
            rw [List.length_map] at hl
            exact ⟨ad, _, rfl, .inr (.inl ⟨ps, ha', fun q hq => hk ▸ ex.sqT (hp q hq).t, by omega, rfl⟩), p _ G H (Step.refl ex) (.int _)⟩
          · cases hg
        · split at hg
          · rename_i xs hn
            split at hg
            · rename_i hl
              cases hg
              have := asS_of r hn; subst this
              exact ⟨ad, _, rfl, .inr (.inr ⟨xs, ha', hl, rfl⟩), p _ G H (Step.refl ex) (.int _)⟩
            · cases hg
          · cases hg
    | _ => simp [lenSetD] at hg) z
end
end M
set_option Elab.async false
set_option linter.all false
set_option maxRecDepth 100000
set_option maxHeartbeats 4000000
namespace M
open PySem L2
section
instance lawK : LawfulBEq Key where
  eq_of_beq := by
    intro a b h
    cases a with
    | inl x => cases b with
      | inl y => exact congrArg Sum.inl (by simpa using (show (x == y) = true from h))
      | inr y => cases h
    | inr x => cases b with
      | inl y => cases h
      | inr y => exact congrArg Sum.inr (by simpa using (show (x == y) = true from h))
  rfl := by
    intro a
    cases a with
    | inl x => show (x == x) = true; simp
    | inr x => show (x == x) = true; simp
theorem scan_ok {n : Nat} (h : n ≤ 1000) : n + 1 < scanBound := by
  have : (1003 : Nat) < scanBound := by decide
  omega
def kset (P : Program) (w : World) (t : List Key) (a : Addr) : HO := SetK P w a (fun q => decide (q ∈ t)) t.length
def nubK (acc : List Key) (k : Key) : List Key := if k ∈ acc then acc else k :: acc
theorem nubG_eq (ks : List Key) : nubG ks = ks.foldl nubK [] := by
  unfold nubG
  congr
  funext acc k
  unfold nubK
  by_cases h : k ∈ acc
  · rw [if_pos h, if_pos h]
  · rw [if_neg h, if_neg h]
def famK (P : Program) (w : World) (K : PySem.W.Frag) : Fam P w K (List Key) Key where
  ob := fun t a => kset P w t a
  t0 := []
  pre := fun t y k H => y = kV k ∧ t.length + 1 < scanBound
  post := fun t y k t' => t' = if k ∈ t then t else k :: t
  new := fun H h a e => setK_new ⟨freshSet w, #[], 0, _, e, ⟨rfl, rfl, rfl⟩, rfl, (fun e he => by simp at he), by simp, by decide, rfl, rfl⟩
  add := by
    intro X hP hw hK hu pins s σ H S t y k u Q E I hS ry hp hq
    subst hP hw hK
    obtain ⟨rfl, h2⟩ := hp
    have R := setK_get I hS
    refine call_set_add (knd := mixKind X.prog X.w) (kV_is ry) (key_scan ry) R h2 fun h' sb R' => ?_
    refine hq _ _ rfl (I.write (e := S) (by rw [hS]; trivial) (.inl rfl) (fun b u hb hu => (sb.2 b hb).trans hu) (by obtain ⟨o, _, _, _, ho, _⟩ := R'; exact ⟨o, ho⟩) (setK_new (PyProof.Rows.SetOf_congr R' (fun q => ?_) ?_)))
    · by_cases h : k ∈ t
      · rw [if_pos h]
        by_cases q1 : q ∈ t
        · simp [q1]
        · have : q ≠ k := fun e => q1 (by rw [e]; exact h)
          simp [q1, this]
      · rw [if_neg h]
        by_cases q1 : q ∈ t <;> by_cases q2 : q = k <;> simp [q1, q2]
    · by_cases h : k ∈ t <;> simp [h]
theorem call_lenK {X : Cx} : CallR X (.builtin "len") (fun xs H Q => ∃ a L, xs = [V.ref a] ∧ H a = some (kset X.prog X.w L a) ∧ Q (.int L.length) H) := by
  intro pins s σ H xs us Q I r h
  obtain ⟨a, L, rfl, ha, q⟩ := h
  rw [Vals.ref1 r]
  obtain ⟨o, es, ep, t, ho, hx, hd, _, _, hb, hf, hsz⟩ := setK_get I ha
  have hs : (scanBound : Int) < 2 ^ 63 := by decide
  exact call_len_set ho hx hd hf (by omega) ⟨.int L.length, H, I.tok _, ⟨_, by rw [hsz]⟩, q⟩
def lenScK (fi : FI) (ga : FG) (t : FT) (fe : FE) (vs : List Nat) : FE := fun S => fi S >>= fun ds => if ds.length < 900 then lcF ga t fe (wipeS S vs) ds >>= fun ys => (match keysD ys with
  | some ks => .ok (.int (nubG ks).length)
  | none => .fail) else .fail
theorem lenScK_go {X : Cx} {c : Cf} {t : FT} {ki gs vs : List Nat} {fi : FI} {ga : FG} {fe : FE} {σ : L2.St} {H : Hp} {Q : VK} {gi : TG} {tt : TT} {te : TE} (hk : c.k.K = X.K) (hg : ∀ v σ H Q, RdG c.nx gs ga v σ H Q → gi v σ H Q) (ht : ∀ σ H Q, RdT c.nx t σ H Q → tt σ H Q) (he : ∀ σ H Q, RdE c.nx .st fe σ H Q → te σ H Q)
    (hgs : ∀ i, i ∈ gs → i ∈ vs) (q : RdE c .st (lenScK fi ga t fe vs) σ H Q) :
    tScG (famK X.prog X.w X.K) (RdI c ki fi) gi tt te vs σ H fun v H1 => ∃ a L, [v] = [V.ref a] ∧ H1 a = some (kset X.prog X.w L a) ∧ Q (.int L.length) H1 := by
  obtain ⟨G, S, rel, p⟩ := q
  refine ⟨G, S, rel, ?_⟩
  have p : PostE c .st G S σ H Q (fi S >>= fun ds => if ds.length < 900 then lcF ga t fe (wipeS S vs) ds >>= fun ys => (match keysD ys with
    | some ks => .ok (.int (nubG ks).length)
    | none => .fail) else .fail) := p
  cases e0 : fi S with
  | exc x => rw [e0] at p; exact p
  | fail => rw [e0] at p; exact p
  | ok ds =>
    rw [e0, R.ok_bind] at p
    by_cases hz : ds.length < 900
    · rw [if_pos hz] at p
      intro J G1 H1 sp it Dl hD
      have relb := ((rel.grow sp).wipe vs).cw (W := liftX E0)
      refine ⟨fun i m H2 => m = ds.length - i ∧ i ≤ ds.length ∧ ∃ G2 ac, Step G1 H1 G2 H2 ∧ G2 Dl = none ∧ H2 Dl = some (kset X.prog X.w ac Dl) ∧ ac.length ≤ i ∧
          PostE c .st G S σ H Q (lcF ga t fe (wipeS S vs) (ds.drop i) >>= fun ys => (match keysD ys with
            | some ks => .ok (.int (ks.foldl nubK ac).length)
            | none => .fail)),
        ⟨_, rfl, Nat.zero_le _, G1, [], Step.new' sp.gh hD, sp.gh.free hD, upd_same, Nat.zero_le _, by simpa [nubG_eq] using p⟩, ?_⟩
      rintro i m H2 ⟨rfl, hle, G2, ac, sp2, hGD, hHD, hal, p2⟩
      have rel2 : Rel c.nx G2 (wipeS S vs) (L2.wipe σ vs) H2 := relb.grow sp2
      have itm := it G2 H2 sp2.g sp2.gh fun j hj x ow => by
        obtain ⟨_, _, o, _, ho, _⟩ := (rel.grow sp).own ow
        rw [ho, sp2.h _ _ ho]
      have nD : ∀ {G6 H6 : Hp}, Step G2 H2 G6 H6 → G6 Dl = none ∧ H6 Dl = some (kset X.prog X.w ac Dl) := fun {G6 H6} z => by
        refine ⟨?_, z.h _ _ hHD⟩
        cases q : G6 Dl with
        | none => rfl
        | some o =>
          rcases z.gr _ _ q with w | w
          · rw [hGD] at w; cases w
          · rw [hHD] at w; cases w
      by_cases hlt : i < ds.length
      · obtain ⟨d, hd⟩ : ∃ d, ds[i]? = some d := ⟨ds[i], List.getElem?_eq_getElem hlt⟩
        have hdrop : ds.drop i = d :: ds.drop (i + 1) := by
          rw [List.drop_eq_getElem_cons hlt]; congr 1; rw [List.getElem?_eq_getElem hlt] at hd; exact Option.some.inj hd
        rw [hdrop] at p2
        obtain ⟨hgo, hy⟩ := itm.2 i d hd
        refine .inr ⟨hgo, fun H' => ∃ G3 ac, Step G1 H1 G3 H' ∧ G3 Dl = none ∧ H' Dl = some (kset X.prog X.w ac Dl) ∧ ac.length ≤ i + 1 ∧
          PostE c .st G S σ H Q (lcF ga t fe (wipeS S vs) (ds.drop (i + 1)) >>= fun ys => (match keysD ys with
            | some ks => .ok (.int (ks.foldl nubK ac).length)
            | none => .fail)), fun H' ⟨G3, r3⟩ => ⟨_, by omega, rfl, hlt, G3, r3⟩, fun x H3 hx => ?_⟩
        obtain ⟨G3, sp3, hd3⟩ := hy x H3 hx
        refine hg x _ H3 _ ⟨G3, wipeS S vs, d, rel2.grow sp3, hd3, ?_⟩
        unfold lcF at p2
        cases e1 : ga d (wipeS S vs) with
        | exc x => rw [e1] at p2; exact p2.elim
        | fail => rw [e1] at p2; exact p2.elim
        | ok S1 =>
          rw [e1, R.nox_ok, R.ok_bind] at p2
          intro G4 σ4 H4 sp4 rel4 f4
          refine ⟨wipe_eq (by rw [f4.len, wipe_length]) fun j hj => f4.sg j fun z => hj (hgs j z), ht σ4 H4 _ ⟨G4, S1, rel4, ?_⟩⟩
          cases e2 : t S1 with
          | exc x => rw [e2] at p2; exact p2.elim
          | fail => rw [e2] at p2; exact p2.elim
          | ok b =>
            rw [e2, R.nox_ok, R.ok_bind] at p2
            intro G5 H5 sp5
            have spA : Step G2 H2 G5 H5 := (sp3.trans sp4).trans sp5
            cases b with
            | false =>
              rw [if_neg Bool.false_ne_true] at p2 ⊢
              exact ⟨G5, ac, sp2.trans spA, (nD spA).1, (nD spA).2, by omega, p2⟩
            | true =>
              rw [if_pos rfl] at p2 ⊢
              refine he σ4 H5 _ ⟨G5, S1, rel4.grow sp5, ?_⟩
              cases e3 : fe S1 with
              | exc x => rw [e3] at p2; exact p2.elim
              | fail => rw [e3] at p2; exact p2.elim
              | ok y =>
                rw [e3, R.nox_ok, R.ok_bind] at p2
                intro v G6 H6 sp6 hv
                have hv : RD c.k G6 y v := hv
                have spB := spA.trans sp6
                cases e4 : lcF ga t fe (wipeS S vs) (ds.drop (i + 1)) with
                | exc x => exact absurd e4 (lcF_exc _)
                | fail => rw [e4] at p2; exact p2.elim
                | ok ys =>
                  rw [e4] at p2
                  have p2 : PostE c .st G S σ H Q (match keysD (y :: ys) with
                    | some ks => .ok (.int (ks.foldl nubK ac).length)
                    | none => .fail) := p2
                  simp only [keysD] at p2
                  cases ek : keyD y with
                  | none => rw [ek] at p2; exact p2.elim
                  | some kk =>
                    cases es : keysD ys with
                    | none => rw [ek, es] at p2; exact p2.elim
                    | some ks =>
                      rw [ek, es] at p2
                      obtain rfl := keyD_rd ek hv
                      refine ⟨ac, kk, (nD spB).2, ⟨rfl, scan_ok (by omega)⟩, ?_⟩
                      rintro L' rfl
                      have spC : ∀ L' : List Key, Step G1 H1 G6 (upd H6 Dl (kset X.prog X.w L' Dl)) := fun L' => by
                        have z := sp2.trans spB
                        exact ⟨z.g, z.h.upd hD, z.gh.upd (nD spB).1, z.gr⟩
                      by_cases hm : kk ∈ ac
                      · rw [if_pos hm]
                        refine ⟨G6, ac, spC ac, (nD spB).1, upd_same, by omega, ?_⟩
                        rw [R.ok_bind, es]
                        simpa only [List.foldl_cons, nubK, if_pos hm] using p2
                      · rw [if_neg hm]
                        refine ⟨G6, kk :: ac, spC _, (nD spB).1, upd_same, by simp only [List.length_cons]; omega, ?_⟩
                        rw [R.ok_bind, es]
                        simpa only [List.foldl_cons, nubK, if_neg hm] using p2
      · have hi : i = ds.length := by omega
        subst hi
        rw [List.drop_length] at p2
        refine .inl ⟨itm.1 _ (Nat.le_refl _), Dl, ac, rfl, hHD, ?_⟩
        have p2 : PostE c .st G S σ H Q (.ok (.int ac.length)) := p2
        exact p2 _ G2 H2 (sp.trans sp2) (.int _)
    · rw [if_neg hz] at p; exact p.elim
theorem d_lenScK {X : Cx} {c : Cf} {t : FT} {tg elt iter : Expr} {ifs : List Expr} {scope : Scope} {p1 p2 pos : Pos} {x : Str} (own : List (Str × Nat)) {ki gs : List Nat} {fi : FI} {ga : FG} {fe : FE} (hk : c.k.K = X.K) (hu : X.A.units + 64 < cLine) (hm : X.mg x = none) (hc : X.calm = true) (hN : X.N.Nodup) (hi : PI' X c ki tg iter fi) (ok : BlkOk X.N X.env.scope scope own)
    (hg : ∀ (s : Shared) (H : Hp) (C : Addr) (cl : List (Str × Addr)) (fp : List Addr), PG' (X.blk s H scope (compEnvC scope cl C X.env) fp) c.nx gs tg ga) (ht : ∀ (s : Shared) (H : Hp) (C : Addr) (cl : List (Str × Addr)) (fp : List Addr), PTs' (X.blk s H scope (compEnvC scope cl C X.env) fp) c.nx ifs t)
    (he : ∀ (s : Shared) (H : Hp) (C : Addr) (cl : List (Str × Addr)) (fp : List Addr), PE' (X.blk s H scope (compEnvC scope cl C X.env) fp) c.nx .st elt fe) (hgs : ∀ i, i ∈ gs → i ∈ own.map (·.2) := by decide) (hs : ∀ x, foldedSetIterable iter X.env x = pure x := by intro _; rfl)
    (hv : bootBuiltins x = some (.builtin "len") := by decide +kernel) (hgl : Gl X x := by rfl) (hn : x ≠ "__name__" := by decide) (hdb : (x == ("__debug__" : Str)) = false := by decide) :
    PE' X c .st (.Call (.Name x p1) [.SetComp elt [⟨tg, iter, ifs, 0⟩] scope p2] [] pos) (lenScK fi ga t fe (own.map (·.2))) :=
  peI (pe_callB call_lenK hgl hm hv (pa_cons (pe_scG (famK X.prog X.w X.K) hu hc hN hi ok hg ht he hs) pa_nil rfl) hn hdb rfl rfl) fun σ H Q q => lenScK_go hk (fun _ _ _ _ z => z) (fun _ _ _ z => z) (fun _ _ _ z => z) hgs q
end
end M
set_option Elab.async false
set_option linter.all false
set_option maxRecDepth 100000
set_option maxHeartbeats 4000000
namespace M
open PySem L2 PySem.W PyProof.Rows
section
variable {prog : Program} {w : World} {A : Around} {E : Value → Shared → Prop} {s : Shared} {a kS : Addr} {b : Bool} {vs : List Value} {e1 : Nat} {P : PySem.Fin → Shared → Prop}
end
section
variable {X : Cx} {k : Nat} {f : Addr} {fd : FuncData} {ps : List Str} {sp : Sp}
end
end M
set_option Elab.async false
set_option linter.all false
set_option maxRecDepth 100000
set_option maxHeartbeats 4000000
namespace M
open PySem L2
section
variable {X : Cx} {k : Kn} {c : Cf} {e : Expr} {pos : Pos} {den : List D → R D}
end
end M
set_option Elab.async false
set_option linter.all false
set_option maxRecDepth 100000
set_option maxHeartbeats 4000000
namespace M
open PySem L2 PySem.W PySem.Calls PyProof.Rows
section
variable {prog : Program} {w : World} {A : Around} {E : Value → Shared → Prop} {s : Shared}
theorem collect_tup {l : Addr} {vs : List Value} {Q : List Value → Shared → Prop} (hl : IsTup s.heap l vs.toArray)
    (h : Q vs { s with heap := (s.heap.push (seqObj "list" #[] 0)).update s.heap.objs.size (Obj.mapSeq (· ++ vs.toArray)) }) (hsz : vs.length ≤ sizeLine) :
    wpAny (model prog w) A (collect (.ref l)) Q E s := by
  obtain ⟨o, ho, hc, n, hd⟩ := id hl
  unfold collect
  refine wpAny_bind (wpAny_runValue (codeAny_builtin entry_proto_collect' ?_))
  show wpAny _ _ (do again (.builtin "list.__iadd__" ⟨[← newList [], .ref l], []⟩)) _ _ s
  refine wpAny_bind (wpAny_newList (wpAny_pure ⟨Code.quiet_builtin _ (by decide +kernel), codeAny_builtin entry_list_iadd' ?_⟩))
  show wpAny _ _ (Builtin.List.listExtendWith (.ref s.heap.objs.size) (.ref l) (.ref s.heap.objs.size)) _ _ { s with heap := s.heap.push (seqObj "list" #[] 0) }
  unfold Builtin.List.listExtendWith
  have ho' : (s.heap.push (seqObj "list" #[] 0)).get? l = some o := Heap.get?_push_of_some _ ho
  refine wpAny_bind (wpAny_typeOf (T := "tuple") ⟨o, ho', hc⟩ ?_)
  have ht : (Value.type "tuple" == Value.type "tuple") = true := by rfl
  rw [if_pos (by rw [ht]; simp)]
  refine wpAny_bind (listItems_at ho' hd ?_)
  refine wpAny_bind (listItems_at (xs := #[]) (n := 0) (Heap.get?_push_size _ rfl) rfl ?_)
  rw [if_neg (by simp)]
  refine wpAny_bind (listUpdate_at (xs := #[]) (n := 0) (Heap.get?_push_size _ rfl) rfl ?_ (Nat.zero_le _) (by show (#[] ++ vs.toArray).size ≤ sizeLine + 1; simp only [Array.size_append, List.size_toArray, List.length_nil]; omega))
  refine wpAny_pure ?_
  show wpAny (model prog w) A (do
      let o ← load s.heap.objs.size
      match o.data with
      | .seq xs _ => pure xs.toList
      | _ => unsupported "internal:collect") Q E { s with heap := (s.heap.push (seqObj "list" #[] 0)).update s.heap.objs.size (Obj.mapSeq (· ++ vs.toArray)) }
  refine wpAny_bind (wpAny_load (get?_update_seq (Heap.get?_push_size _ rfl) _) ?_)
  show wpAny _ _ (pure ((#[] : Array Value) ++ vs.toArray).toList) Q E _
  rw [show ((#[] : Array Value) ++ vs.toArray).toList = vs by simp]
  exact wpAny_pure h
theorem sortedT_of_sort {l : Addr} {vs : List Value} {kw : List (Str × Value)} {Q : Value → Shared → Prop} (hl : IsTup s.heap l vs.toArray) (hL : vs.length ≤ sizeLine) (ha1 : argsOk "sorted" ⟨[.ref l], kw⟩) (ha2 : ∀ x, argsOk "list.sort" ⟨[.ref x], kw⟩)
    (body : ∀ E' : Value → Shared → Prop, wpAny (model prog w) A.in1.in1 (Builtin.«list.sort» ⟨[.ref (s.heap.objs.size + 1)], kw⟩) (fun f s' => f = .done (.ret .none) ∧ Q (.ref (s.heap.objs.size + 1)) s') E' { s with heap := copyHeap s.heap vs }) :
    wpAny (model prog w) A (call (.builtin "sorted") [.ref l] kw) Q E s := by
  refine call_function_entry_kw kind_sorted plain_sorted entry_sorted ha1 ?_
  unfold Builtin.«sorted»
  refine wpAny_bind (m := checkCount "sorted" 1 1 _) (wpAny_pure ?_)
  refine wpAny_bind (collect_tup hl ?_ hL)
  refine wpAny_bind (wpAny_newList ?_ hL)
  have hsz : ((s.heap.push (seqObj "list" #[] 0)).update s.heap.objs.size (Obj.mapSeq (· ++ vs.toArray))).objs.size = s.heap.objs.size + 1 := by
    rw [Heap.size_update, size_push']
  show wpAny _ _ _ _ _ { s with heap := copyHeap s.heap vs }
  rw [hsz]
  refine wpAny_bind (wpAny_holding (wpAny_call_entry_kw slot_list_sort ⟨_, copyHeap_at s.heap vs, rfl⟩ entry_list_sort ?body (ha2 _)))
  case body =>
    show wpAny (model prog w) A.in1.in1 (Builtin.«list.sort» ⟨[.ref (s.heap.objs.size + 1)], kw⟩) _ _ _
    refine wpAny_mono (body _) (fun f s' hf => ?_) fun _ _ e => e
    obtain ⟨rfl, hq⟩ := hf
    exact ⟨_, rfl, wpAny_pure ⟨_, rfl, hq⟩⟩
variable {κ : KeyKind}
theorem sortedT_vals {l : Addr} {vs : List Value} {Q : Value → Shared → Prop} (hl : IsTup s.heap l vs.toArray) (S : SortsAt prog w A.in1.in1 { s with heap := sortingHeap (copyHeap s.heap vs) (s.heap.objs.size + 1) vs } κ vs) (hL : vs.length ≤ sizeLine)
    (h : Q (.ref (s.heap.objs.size + 1)) { s with heap := sortedAll s.heap vs (sortVals κ false vs vs).toArray }) : wpAny (model prog w) A (call (.builtin "sorted") [.ref l]) Q E s :=
  sortedT_of_sort hl hL (args_sorted1 _) (fun _ => args_list_sort _) fun _ => list_sort_vals (s := { s with heap := copyHeap s.heap vs }) (copyHeap_at s.heap vs) S hL ⟨rfl, h⟩
variable {β : Type} {R : Value → β → Prop} {vs : List Value} {bs : List β} {enc : β → PyData}
theorem sortedT_data {l : Addr} {Q : Value → Shared → Prop} (hl : IsTup s.heap l vs.toArray) (e : EachIs R vs bs) (er : EachIs (fun v b => ∃ as, Reads s.heap v (enc b) as) vs bs) (hal : AllAlike (bs.map enc)) (hk : Sortable (bs.map enc)) (hL : bs.length ≤ sizeLine)
    (hu : ∀ b, b ∈ bs → A.units + 2 + (enc b).depth < cLine) (h : ∀ out, out.length = bs.length → EachIs R out (bs.mergeSort (dataLe false enc)) → Q (.ref (s.heap.objs.size + 1)) { s with heap := sortedAll s.heap vs (List.toArray out) }) :
    wpAny (model prog w) A (call (.builtin "sorted") [.ref l]) Q E s := by
  have er' : EachIs (fun v b => ∃ as, Reads (sortingHeap (copyHeap s.heap vs) (s.heap.objs.size + 1) vs) v (enc b) as) vs bs := er.mono fun _ _ ⟨as, r⟩ => ⟨as, PyProof.Rows.Reads.keeps (fun _ _ => sorting_copy_old) r⟩
  exact sortedT_vals hl (SortsAt.data (s := { s with heap := sortingHeap (copyHeap s.heap vs) (s.heap.objs.size + 1) vs }) (each_map (R := fun v d => ∃ as, Reads (sortingHeap (copyHeap s.heap vs) (s.heap.objs.size + 1) vs) v d as) enc er') hal hk (bound_map hu)) (by rw [e.length]; exact hL)
    (h _ (by rw [sortVals_length false rfl]; exact e.length) (sortVals_data false e er' hal))
end
section
variable {X : Cx} {k : Kn}
def rSrtT (X : Cx) : List V → Hp → VK → Prop := fun vs H Q => ∃ a xs ds, vs = [V.ref a] ∧ SqT X.K H a xs ∧ DpAll X.K H xs ds ∧ PySem.W.AllAlike ds ∧ PySem.W.Sortable ds ∧ (∀ d, d ∈ ds → d.depth ≤ 60) ∧
  ∀ p, H p = none → Q (.ref p) (upd H p (.lst (((xs.zip ds).mergeSort (PySem.W.dataLe false (·.2))).map (·.1))))
theorem cr_srtT (hu : X.A.units + 64 < cLine) : CallR X (.builtin "sorted") (rSrtT X) := by
  intro pins s σ H vs us Q I r h
  obtain ⟨a, xs, ds, rfl, hs, hd, hal, hso, hdp, q⟩ := h
  obtain ⟨u, rfl, ru⟩ := vals1 r
  cases ru
  obtain ⟨its, rv, pl, hz⟩ := I.tuple hs
  have hlen := DpAll.length hd
  have hm : (xs.zip ds).map (·.2) = ds := by rw [List.map_snd_zip]; omega
  have ea := DpAll.zip hd rv
  refine sortedT_data (enc := fun (b : V × PyData) => b.2) (R := fun u (b : V × PyData) => RelV b.1 u) (bs := xs.zip ds) pl (EachIs.imp (fun _ _ z => z.1) ea) (EachIs.imp (fun u b z => Dp.reads I b.2 b.1 u z.2 z.1) ea) (by rw [hm]; exact hal) (by rw [hm]; exact hso) (by rw [List.length_zip]; omega) ?_ ?_
  · intro b hb
    have : b.2 ∈ ds := by rw [← hm]; exact List.mem_map.mpr ⟨b, hb, rfl⟩
    have := hdp _ this
    omega
  · intro out ho eo
    obtain ⟨m, F⟩ := I.fr
    obtain ⟨cn, _, N, _, kp⟩ := PySem.W.sorted_news (news := []) F (fun p hp => nomatch hp) its out
    have hobj := (N _ List.mem_cons_self).1
    have hv := each_vals eo
    refine ⟨.ref (s.heap.objs.size + 1), _, I.laid (a := s.heap.objs.size + 1) (t' := s.toks) (o := .lst _) kp (Nat.le_succ _) ⟨?_, out, cn, hv, hobj⟩, rfl, q _ (I.hok.fresh (Nat.le_succ _))⟩
    rw [List.length_map, List.length_mergeSort, List.length_zip]; omega
def srtAD : D → R D
  | .lst ds => if srtOk ds then .ok (.lst (srt ds)) else .fail
  | .tup ds => if srtOk ds then .ok (.lst (srt ds)) else .fail
  | _ => .fail
theorem c_srtA (hk : k.K = X.K) (hu : X.A.units + 64 < cLine) : ClR X k (.builtin "sorted") .fr (f1 srtAD) := cl1 ((cr_srt hu).or (cr_srtT hu)) fun G H x v d e n hg Q p => by
  cases x <;> simp only [srtAD] at hg <;> first | (cases hg; done) | skip
  · split at hg
    · rename_i ho
      cases hg; obtain ⟨a, vs, rfl, ha, r⟩ := n.tup
      have hd : doks 59 _ = true := (by unfold srtOk at ho; simp only [Bool.and_eq_true] at ho; exact ho.1.1)
      refine .inr ⟨a, vs, _, rfl, hk ▸ e.sqT ha.t, hk ▸ (r.mono e).dp 59 hd, fun p hp q hq => ?_, srt_sortable ho, fun q hq => ?_, fun pp hp => p _ _ _ (Step.new' e hp) ⟨pp, _, rfl, e.free hp, hp, upd_same, .lst r.srt⟩⟩
      · obtain ⟨d1, h1, rfl⟩ := toPs_mem hp
        obtain ⟨d2, h2, rfl⟩ := toPs_mem hq
        unfold srtOk at ho
        simp only [Bool.and_eq_true, List.all_eq_true] at ho
        exact alikeD_of _ _ (ho.1.2 d1 h1 d2 h2)
      · obtain ⟨d1, h1, rfl⟩ := toPs_mem hq
        have := (dok_lay 59 d1 (doks_mem hd h1)).2
        omega
    · cases hg
  · split at hg
    · rename_i ho
      cases hg; obtain ⟨a, vs, rfl, ha, r⟩ := n.lst e
      have hd : doks 59 _ = true := (by unfold srtOk at ho; simp only [Bool.and_eq_true] at ho; exact ho.1.1)
      refine .inl ⟨a, vs, _, rfl, SqL.of ha, hk ▸ (r.mono e).dp 59 hd, fun p hp q hq => ?_, srt_sortable ho, fun q hq => ?_, fun pp hp => p _ _ _ (Step.new' e hp) ⟨pp, _, rfl, e.free hp, hp, upd_same, .lst r.srt⟩⟩
      · obtain ⟨d1, h1, rfl⟩ := toPs_mem hp
        obtain ⟨d2, h2, rfl⟩ := toPs_mem hq
        unfold srtOk at ho
        simp only [Bool.and_eq_true, List.all_eq_true] at ho
        exact alikeD_of _ _ (ho.1.2 d1 h1 d2 h2)
      · obtain ⟨d1, h1, rfl⟩ := toPs_mem hq
        have := (dok_lay 59 d1 (doks_mem hd h1)).2
        omega
    · cases hg
end
end M
set_option Elab.async false
set_option linter.all false
set_option maxRecDepth 100000
set_option maxHeartbeats 4000000
namespace MxD
open PySem
open Sem (wp)
theorem nm : (toString "max" ++ toString ".loop" : String) = "max.loop" := by decide
abbrev kwD (d : Value) : List (Str × Value) := [(Str.ofString "default", d)]
section
variable {p : Program} {w : World} {A : Around} {R : Result → Shared → Prop} {I B : Addr} {fp wr : List Addr} {n : Nat} {P : Nat → Value → Prop} {St : Nat → Heap → Prop} {bt : Nat → Nat → Bool} {dv : Value}
theorem lp (W : Walks p w A.in1 I fp wr n P St) (cm : CmpOf p w A.in1 .Gt P bt) (out : B ∉ fp) : ∀ (m i : Nat) (s : Shared) (v : Value) (c : Nat), n - (i + 1) = m → i + 1 ≤ n → St (i + 1) s.heap → P (argBest bt i) v →
    s.heap.get? B = some { cls := .type "list", dict := none, data := .seq #[v, v] c, slots := #[] } →
    (∀ u h tk, P (argBest bt (n - 1)) u → (∀ b o, b ∉ wr → b ≠ B → s.heap.get? b = some o → h.get? b = some o) → R (.ok (.ret u)) { s with heap := h, toks := tk }) →
    codeAny (model p w) A (.builtin "max.loop" ⟨[.ref I, .none, .ref B], kwD dv⟩) R s := by
  have ow : B ∉ wr := fun z => out (W.sub _ z)
  intro m
  induction m with
  | zero =>
    intro i s v c em le st pb hb q
    have en : i + 1 = n := by omega
    refine codeAny_builtin F.entry_max_loop ?_
    rw [Around.under_plainId F.plain_max_loop _]
    show wpAny _ A.in1 (seqItems? (.ref B) >>= _) _ _ s
    refine wpAny_bind (wpAny_seqItems hb rfl ?_)
    show wpAny _ A.in1 (tryCatch (pyNext (.ref I)) _ >>= _) _ _ s
    refine wpAny_bind (wpAny_tryCatch (W.done s _ _ (en ▸ st) fun h1 tk k1 => ?_))
    have hb1 := k1 B _ ow hb
    show wpAny _ A.in1 (updateSeq B (fun _ => #[]) >>= _) _ _ _
    refine wpAny_bind (wpAny_updateSeq hb1 rfl (wpAny_bind (wpAny_letGo (wpAny_pure ?_))))
    exact q v _ tk (by rw [← en]; exact pb) fun b o nw nb e => (Heap.get?_update_other _ _ (Ne.symm nb)).trans (k1 b o nw e)
  | succ m ih =>
    intro i s v c em le st pb hb q
    have lt : i + 1 < n := by omega
    refine codeAny_builtin F.entry_max_loop ?_
    rw [Around.under_plainId F.plain_max_loop _]
    show wpAny _ A.in1 (seqItems? (.ref B) >>= _) _ _ s
    refine wpAny_bind (wpAny_seqItems hb rfl ?_)
    show wpAny _ A.in1 (tryCatch (pyNext (.ref I)) _ >>= _) _ _ s
    refine wpAny_bind (wpAny_tryCatch (W.item (i + 1) s _ _ lt st fun u h1 tk pu st1 k1 => ?_))
    have hb1 := k1 B _ ow hb
    show wpAny _ A.in1 (tryCatch (holding [u, u] (richCompare .Gt u v >>= _)) _ >>= _) _ _ _
    refine wpAny_bind (wpAny_tryCatch (wpAny_holding (wpAny_bind (cm (i + 1) (argBest bt i) u v _ _ _ pu pb (wpAny_bind (wpAny_holding (wpAny_truthy_bool (wpAny_bind (wpAny_letGo (wpAny_pure ?_)))))))))) 
    cases hc : bt (i + 1) (argBest bt i) with
    | true =>
      simp only [if_true]
      refine wpAny_bind (wpAny_updateSeq hb1 rfl (wpAny_bind (wpAny_letGo ?_)))
      rw [nm]
      refine wpAny_pure ⟨plainId_quiet F.plain_max_loop _, ih (i + 1) _ u _ (by omega) lt (W.frame _ _ _ st1 fun b bf o e => ?_) (by simp only [argBest, hc, if_true]; exact pu) (Heap.get?_update_self _ hb1 rfl) fun u' h2 tk2 p2 k2 => ?_⟩
      · exact (Heap.get?_update_other _ _ (fun z : B = b => out (by rw [z]; exact bf))).trans e
      · exact q u' h2 tk2 p2 fun b o nw nb e => k2 b o nw nb ((Heap.get?_update_other _ _ (Ne.symm nb)).trans (k1 b o nw e))
    | false =>
      simp only [Bool.false_eq_true, if_false]
      refine wpAny_bind (wpAny_letGo ?_)
      rw [nm]
      exact wpAny_pure ⟨plainId_quiet F.plain_max_loop _, ih (i + 1) _ v c (by omega) lt st1 (by simp only [argBest, hc, Bool.false_eq_true, if_false]; exact pb) hb1 fun u' h2 tk2 p2 k2 => q u' h2 tk2 p2 fun b o nw nb e => k2 b o nw nb (k1 b o nw e)⟩
end
section
variable {p : Program} {w : World} {A : Around} {E : Value → Shared → Prop} {s : Shared} {l : Addr} {xs : Array (Int × Tok)} {dv : Value}
end
end MxD
namespace M
open PySem L2
section
variable {X : Cx} {c : Cf} {k : Kn} {e : Expr} {pos : Pos}
end
end M
set_option Elab.async false
set_option linter.all false
set_option maxRecDepth 100000
set_option maxHeartbeats 4000000
namespace PySem
namespace SupX
open PySem.W PySem.Calls PyProof.Rows PySem.HandSPX
def Stores : List Str → List Stmt → Prop
  | [], [] => True
  | f :: fs, st :: sts => (∃ p1 p2 p3 p4 : Pos, st = .Assign [.Attribute (.Name "self" p1) f p2] (.Name f p3) p4) ∧ Stores fs sts
  | _, _ => False
def InitBody (fs : List Str) (body : List Stmt) : Prop :=
  ∃ (p0 p1 p2 p3 p4 p5 : Pos) (m : Str) (j : Nat) (sts : List Stmt), body = .Expr (.Call (.Attribute (.Call (.Name "super" p0) [] [] p1) "__init__" p2) [.Constant (.str m) j p3] [] p4) p5 :: sts ∧ (p2.endLine == p4.line) = true ∧ Stores fs sts
structure SupT (prog : Program) (K : Frag) (C fI : Addr) (fs : List Str) : Prop where
  cls : ∃ nm q N bs bm sn sub ab col dd k0 k1 k2 k3 k5, K.lookup C = some (excClassObj nm q C N bs bm true sn sub ab col dd k0 k1 k2 k3 k5 "ValueError.__new__") ∧ refsVE bm = true
  sa : findIn K (.ref C) "__setattr__" = some (some (.builtin "object.__setattr__"))
  noN : ∀ f, f ∈ fs → findIn K (.ref C) f = some none
  nd : ((("self" : Str)) :: fs).Nodup
  nod : ∀ f, f ∈ fs → (f == ("__debug__" : Str)) = false
  sup : ks_superIn K C C "__init__" = some (some (.builtin "ValueError.__init__"))
  isV : subIn K (.ref C) (.type "ValueError") = some true
  mro : mroIn K C (.ref C) = some true
  opq : nsIn K cStatics "thirdparty.any" = some none
  iC : findIn K (.ref C) "__init__" = some (some (.ref fI))
  tI : typeIn K (.ref fI) = some (.type "function")
  sup0 : nsIn K mainGlobals "super" = some none
  htop : (prog.main.scope.names.lookup ("super" : Str)).isSome = false
  fn : ∃ (oc : Value) (od : Option Addr) (qual : Str) (params : Arguments) (body : List Stmt) (scope : Scope) (dV kV doc pm : Value) (an : Option Addr) (ct : Value) (osl : Array (Option Value)) (cda cc : Addr)
      (ccl cl : Value) (cdd cld : Option Addr) (vs : Array Value) (ccs csl : Array (Option Value)) (file : Str) (tf : Tok) (ar : Arg),
    K.lookup fI = some ⟨oc, od, .func (ksFn "__init__" qual params body scope dV kV doc pm an (.ref cda) ct cc), osl⟩ ∧ codeIn K (.ref cda) qual = true ∧ K.lookup cda = some ⟨ccl, cdd, .fields vs, ccs⟩ ∧ vs[2]? = some (.str file tf) ∧
    ((prog.main.file : Str) == file) = true ∧ K.lookup cc = some ⟨cl, cld, .cell (some (.ref C)), csl⟩ ∧ InitBody fs body ∧ (params.posonlyargs ++ params.args).head? = some ar ∧ ar.arg = "self" ∧
    (∀ (s : Shared) (us : List Value), us.length = fs.length + 1 → BindsTo s (ksFn "__init__" qual params body scope dV kV doc pm an (.ref cda) ct cc) ⟨us, []⟩ ((("self" : Str) :: fs).zip us)) ∧
    scope.names.lookup ("super" : Str) = some .globalImplicit ∧ scope.names.lookup ("__class__" : Str) = some .free ∧ (∀ f, f ∈ ("self" : Str) :: fs → scope.names.lookup f = some .local) ∧ scope.kind = .function ∧ scope.isGenerator = false ∧ scope.isCoroutine = false ∧
    (∀ x ∈ scope.names, x.2 ≠ .cell)
def exD (C t : Addr) (d : Option Addr) : Obj := { cls := .ref C, dict := d, data := .fields #[.ref t, .none, .none, .none, .bool false, .none] }
section
variable {prog : Program} {w : World} {A : Around} {E : Value → Shared → Prop} {K : Frag} {C fI : Addr} {fs : List Str}
theorem clsIn_of (T : SupT prog K C fI fs) : ∃ cd, clsIn K C = some cd ∧ cd.hasDict = true ∧ refsVE cd.mro = true ∧ ∃ bm, cd.mro = .ref C :: bm := by
  obtain ⟨nm, q, N, bs, bm, sn, sub, ab, col, dd, k0, k1, k2, k3, k5, hC, hbm⟩ := T.cls
  refine ⟨{ name := nm, bases := bs, mro := .ref C :: bm, ns := N, qualname := q, hasDict := true, slotNames := sn, subclasses := sub, abstract := ab, collection := col, hasDel := false }, ?_, rfl, hbm, bm, rfl⟩
  unfold clsIn; rw [hC] <;> rfl
theorem call_mw {u x t : Addr} {h : Heap} {g : Array GenState} {d : Drawn} {tk : Nat} {os : OsState} {rest : List Value} {Q : Value → Shared → Prop} (T : SupT prog K C fI fs) (X : K.In h)
    (hu : h.get? u = some (kxs_mw "ValueError.__init__" x)) (he : h.get? x = some (exD C t none)) (hz : rest.length ≤ sizeLine)
    (fin : ∀ h' t', (∀ b o, b ≠ x → h.get? b = some o → h'.get? b = some o) → h'.get? x = some (exD C t' none) → Q .none ⟨h', g, d, tk, os⟩) :
    wpAny (model prog w) A (call (.ref u) rest) Q E ⟨h, g, d, tk, os⟩ := by
  obtain ⟨nm, q, N, bs, bm, sn, sub, ab, col, dd, k0, k1, k2, k3, k5, hC, hbm⟩ := T.cls
  refine wpAny_call (codeAny_of_tree ?_)
  show wpAny _ A.in1 (callAny (.ref u) ⟨rest, []⟩) _ _ _
  simp only [callAny]
  refine wpAny_bind (wpAny_load hu ?_)
  simp only [kxs_mw, show (Value.type "method-wrapper" == Value.type "method" || Value.type "method-wrapper" == Value.type "builtin_function_or_method" || Value.type "method-wrapper" == Value.type "method-wrapper") = true by decide, if_true]
  refine KFB.if_so (by decide) ?_
  refine wpAny_bind (check_bound_init F.excBase_ValueError.toExcCallFacts (X _ _ hC) he rfl ?_)
  refine wpAny_bind (wpAny_pure (wpAny_pure ?_))
  refine ⟨plainId_quiet F.excBase_ValueError.init.plain _, codeAny_builtin F.excBase_ValueError.initEntry ?_⟩
  exact exc_init_tree (cls := .ref C) (t0 := t) (dv := none) (c2 := .none) (c3 := .none) (b4 := .bool false) he hz fun h' k1 k2 _ => fin h' _ k1 k2
theorem call_shape {p0 p1 p2 p3 p4 : Pos} {m : Str} {j : Nat} (env : Env) (hpl : (p2.endLine == p4.line) = true) :
    eval (.Call (.Attribute (.Call (.Name "super" p0) [] [] p1) "__init__" p2) [.Constant (.str m) j p3] [] p4) env = (do
      let ov ← attributeBase (.Call (.Name "super" p0) [] [] p1) "__init__" env (eval (.Call (.Name "super" p0) [] [] p1) env)
      standAt p2.atName
      let (f, first) ← holding [ov] (getMethod ov "__init__" (do return (← importBound (.Call (.Name "super" p0) [] [] p1) env).getD true))
      callWith p4 f first (backTo p4 (starEach [.Constant (.str m) j p3] env)) []) := by
  have hmp : ∀ few, methodCallPos few (.Call (.Name "super" p0) [] [] p1) env p2 p4 = pure p4 := fun few => by
    unfold methodCallPos
    rw [hpl, Bool.or_true, if_pos rfl]
  show (attributeBase (.Call (.Name "super" p0) [] [] p1) "__init__" env (eval (.Call (.Name "super" p0) [] [] p1) env) >>= fun ov => standAt p2.atName >>= fun _ =>
    methodCall (.Call (.Name "super" p0) [] [] p1) "__init__" p2 p4 env ov _ _ _) = _
  refine congrArg (_ >>= ·) (funext fun ov => congrArg (_ >>= ·) (funext fun _ => ?_))
  unfold methodCall
  simp only [hmp, pure_bind]
  rfl
theorem kindOf_ks {qual : Str} {scope : Scope} {L cc : Addr} {cda : Value} {y : Str} (h : scope.names.lookup y = some .local) : (ksEnv qual scope L fI cda cc).kindOf y = some .local := h
theorem ldK {M : Model} {s : Shared} {qual : Str} {scope : Scope} {L cc : Addr} {cda : Value} {m : Str → Option Value} {x : Str} {pos : Pos} {v : Value} {Q : Value → Shared → Prop} (hn : s.heap.Ns L m) (hv : m x = some v) (h : Q v s)
    (hk : scope.kind = .function) (hl : scope.names.lookup x = some .local) (hd : (x == ("__debug__" : Str)) = false) :
    wpAny M A (eval (.Name x pos) (ksEnv qual scope L fI cda cc)) Q E s := wpAny_Name (wpAny_loadName_local hk (kindOf_ks hl) hn hv h) hd
theorem ns_keep {h h' : Heap} {L : Addr} {m : Str → Option Value} (hn : h.Ns L m) (k : ∀ o, h.get? L = some o → h'.get? L = some o) : h'.Ns L m := by
  obtain ⟨oL, es, ep, hL, r⟩ := hn
  exact ⟨oL, es, ep, k _ hL, r⟩
def putAll (mD : Str → Option Value) : List Str → List Value → Str → Option Value
  | f :: fs, v :: vs => putAll (fun y => if y = f then some v else mD y) fs vs
  | _, _ => mD
theorem stores_rest {g : Array GenState} {d : Drawn} {os : OsState} {qual : Str} {scope : Scope} {L cc x t dx : Addr} {cda : Value} {m : Str → Option Value} (T : SupT prog K C fI fs) (hk : scope.kind = .function) (hself : m "self" = some (.ref x)) (hsl : scope.names.lookup ("self" : Str) = some .local)
    (hdL : dx ≠ L) (hdx : dx ≠ x) : ∀ (ys : List Str) (vs : List Value) (sts : List Stmt) (h : Heap) (tk : Nat) (mD : Str → Option Value) (nl : List Str) (Q : Flow → Shared → Prop), Stores ys sts → ys.length = vs.length → (∀ y, y ∈ ys → y ∈ fs ∧ scope.names.lookup y = some .local) →
    (∀ (i : Nat) (y : Str), ys[i]? = some y → m y = vs[i]?) → K.In h → (∀ b, b = dx → K.lookup b = none) → h.Ns L m → h.get? x = some (exD C t (some dx)) → h.Ns1 dx mD → Within mD nl → nl.length + ys.length ≤ 1000 →
    (∀ h' tk', (∀ b o, b ≠ dx → h.get? b = some o → h'.get? b = some o) → h'.Ns1 dx (putAll mD ys vs) → Q .next ⟨h', g, d, tk', os⟩) →
    wpAny (model prog w) A (execs sts (ksEnv qual scope L fI cda cc)) Q E ⟨h, g, d, tk, os⟩
  | [], [], [], h, tk, mD, nl, Q, _, _, _, _, _, _, _, _, hD, _, _, fin => wpAny_execs_nil (fin h tk (fun _ _ _ e => e) hD)
  | [], [], _ :: _, _, _, _, _, _, hs, _, _, _, _, _, _, _, _, _, _, _ => (by cases hs)
  | [], _ :: _, _, _, _, _, _, _, _, hl, _, _, _, _, _, _, _, _, _, _ => (by cases hl)
  | _ :: _, [], _, _, _, _, _, _, _, hl, _, _, _, _, _, _, _, _, _, _ => (by cases hl)
  | _ :: _, _ :: _, [], _, _, _, _, _, hs, _, _, _, _, _, _, _, _, _, _, _ => (by cases hs)
  | y :: ys, v :: vs, st :: sts, h, tk, mD, nl, Q, hs, hl, hy, hm, X, hKd, hn, hx, hD, hw, hz, fin => by
    obtain ⟨⟨p1, p2, p3, p4, rfl⟩, hs2⟩ := hs
    obtain ⟨hyf, hyl⟩ := hy y (List.mem_cons_self ..)
    obtain ⟨cd, hcd, hhd, hmr, _⟩ := clsIn_of T
    refine wpAny_execs_cons (plainObj_wpAny_Assign_Attribute ?_)
    refine ldK (v := v) hn (by have := hm 0 y rfl; simpa using this) (ldK (v := .ref x) hn hself ?_ hk hsl (by decide)) hk hyl (T.nod y hyf)
    obtain ⟨oD, _, _, hoD, _, _⟩ := hD.count hw
    refine set_plain X (ox := exD C t (some dx)) (od := some oD) ⟨hx, rfl, rfl, hoD⟩ T.sa ?_
    refine PySem.OEX.osa_old X hx hD hw (by rw [List.length_cons] at hz; omega) hcd hmr hhd (T.noN y hyf) fun h3 tk3 k3 hD3 => ?_
    refine stores_rest T hk hself hsl hdL hdx ys vs sts h3 tk3 (fun z => if z = y then some v else mD z) (y :: nl) Q hs2 (Nat.succ.inj hl) (fun z hz => hy z (List.mem_cons_of_mem _ hz)) (fun i z hi => by have := hm (i + 1) z (by simpa using hi); simpa using this)
      (fun b o e => k3 b o (fun z => by rw [hKd b z] at e; cases e) (X b o e)) hKd (ns_keep hn fun o q => k3 _ _ hdL.symm q) (k3 _ _ hdx.symm hx) hD3 (Within.cons y v hw) (by rw [List.length_cons] at hz ⊢; omega) fun h' tk' k' hD' => ?_
    exact fin h' tk' (fun b o hb e => k' b o hb (k3 b o hb e)) hD'
theorem lookup_nd {α : Type} : ∀ {l : List (Str × α)} {k : Str} {v : α}, (l.map (·.1)).Nodup → (k, v) ∈ l → l.lookup k = some v
  | (k', v') :: l, k, v, hn, hm => by
    rw [List.map_cons, List.nodup_cons] at hn
    rcases List.mem_cons.mp hm with e | hm2
    · cases e; simp [List.lookup]
    · have : (k == k') = false := by
        simp only [beq_eq_false_iff_ne, ne_eq]
        intro e
        subst e
        exact hn.1 (List.mem_map.mpr ⟨(k, v), hm2, rfl⟩)
      simp only [List.lookup, this]
      exact lookup_nd hn.2 hm2
structure InitEnd (h h' : Heap) (x C dx t : Addr) (mD : Str → Option Value) : Prop where
  keep : ∀ b o, b ≠ x → h.get? b = some o → h'.get? b = some o
  obj : h'.get? x = some (exD C t (some dx))
  dbig : h.objs.size ≤ dx
  dne : dx ≠ x
  ns : h'.Ns1 dx mD
theorem sup_init {f0 : Str} {R : Result → Shared → Prop} {s : Shared} {mg mb : Str → Option Value} (T : SupT prog K C fI (f0 :: fs)) {x t0 : Addr} {v0 : Value} {vs : List Value} (hlen : fs.length = vs.length) (hfl : fs.length ≤ 900) (X : K.In s.heap) (hlim : s.heap.NoLimit)
    (G : s.heap.Ns mainGlobals mg) (Bn : s.heap.Ns builtinsNs mb) (hb : mb "super" = bootBuiltins "super") (hx : s.heap.get? x = some (exD C t0 none)) (hnx : K.lookup x = none) (hroom : A.depth < recursionLimit)
    (hq : ∀ h' tk dx t, InitEnd s.heap h' x C dx t (putAll (fun y => if y = f0 then some v0 else none) fs vs) → R (.ok (.ret .none)) { s with heap := h', toks := tk }) :
    codeAny (model prog w) A (.call (.ref fI) ⟨.ref x :: v0 :: vs, []⟩) R s := by
  obtain ⟨oc, od, qual, params, body, scope, dV, kV, doc, pm, an, ct, osl, cda, cc, ccl, cl, cdd, cld, fv, ccs, csl, file, tf, ar, lk, hcd, lcda, hvs, hfile, lcc, hbody, har, harg, hbind, hks, hkc, hloc, hk, hgen, hco, hcell⟩ := T.fn
  obtain ⟨p0, p1, p2, p3, p4, p5, m, j, sts, rfl, hpl, hst⟩ := hbody
  cases sts with
  | nil => cases hst
  | cons st sts =>
  obtain ⟨⟨q1, q2, q3, q4, rfl⟩, hst2⟩ := hst
  obtain ⟨cd, hcl, hhd, hmr, bm, hbm⟩ := clsIn_of T
  have hzl : (((("self" : Str) :: f0 :: fs)).zip (Value.ref x :: v0 :: vs)).map (·.1) = ("self" : Str) :: f0 :: fs := by
    rw [List.map_fst_zip]; simp [hlen]
  refine ks_codeAny_call_defAt (binds := (("self" : Str) :: f0 :: fs).zip (Value.ref x :: v0 :: vs)) hroom (X _ _ lk) rfl hlim (codeRec_of X hcd) rfl (hbind s _ (by simp [hlen])) hcell (fun y hy => hloc _ (List.of_mem_zip hy).1) (fun h1 hns hk1 => ?_) hco hgen hk
  have X1 : K.In h1 := X.keeps hk1
  have look : ∀ (y : Str) (u : Value), (y, u) ∈ (("self" : Str) :: f0 :: fs).zip (Value.ref x :: v0 :: vs) → ((("self" : Str) :: f0 :: fs).zip (Value.ref x :: v0 :: vs)).reverse.lookup y = some u := fun y u hm =>
    lookup_nd (by rw [List.map_reverse, hzl]; exact (List.reverse_perm _).nodup_iff.mpr T.nd) (List.mem_reverse.mpr hm)
  have hself : ((("self" : Str) :: f0 :: fs).zip (Value.ref x :: v0 :: vs)).reverse.lookup ("self" : Str) = some (Value.ref x) := look _ _ (by simp)
  have hf0 : ((("self" : Str) :: f0 :: fs).zip (Value.ref x :: v0 :: vs)).reverse.lookup f0 = some v0 := look _ _ (by simp)
  have hx1 := hk1 _ _ hx
  have hxL : s.heap.objs.size ≠ x := Nat.ne_of_gt (Heap.lt_size hx)
  obtain ⟨oD, hD1, hD2⟩ : ∃ oD, h1.get? C = some oD ∧ oD.data = .cls cd := by
    unfold clsIn at hcl
    split at hcl
    · rename_i c d cd' sl ho
      cases hcl
      exact ⟨_, X1 _ _ ho, rfl⟩
    · cases hcl
  have hsl := hloc ("self" : Str) (List.mem_cons_self ..)
  refine ks_wpAt_execs_cons (ks_wpAt_Expr_any (hi := by unfold interactive; show (scope.kind == _ && _) = false; rw [hk]; rfl) (ks_wpAt_MethodCall (he := call_shape _ hpl) ?_))
  refine ks_wpAt_super_base (env := ksEnv qual scope s.heap.objs.size fI (.ref cda) cc) hks hkc rfl rfl (X1 _ _ lk) rfl har rfl (X1 _ _ lcda) rfl hvs hfile T.htop ?_
  refine ks_loadName_global hk hks (loadGlobal_builtin (env := ksEnv qual scope s.heap.objs.size fI (.ref cda) cc) (G.keeps hk1) (mg_none_of X G T.sup0) (Bn.keeps hk1) (hb.trans (by decide +kernel)) ⟨rfl, ?_⟩)
  refine wpAny_loadName_free hk hkc rfl ⟨_, X1 _ _ lcc, rfl⟩ ?_
  rw [harg]
  refine wpAny_loadName_local hk hsl hns hself ?_
  refine ks_wpAny_isType_cls hD1 hD2 ⟨rfl, ?_⟩
  have hCC : Looks (model prog w) h1 (isSubtype (.ref C) (.ref C)) true := looks_mroIn X1 T.mro
  refine ks_wpAny_call_super hD1 hD2 hx1 rfl (fun c e => by cases e) hCC fun h2 e2 k2 => ?_
  have X2 : K.In h2 := X1.keeps k2
  have hx2 := k2 _ _ hx1
  have hns2 := hns.keeps k2
  have hmro : Looks (model prog w) h2 (mroOf (.ref C)) cd.mro := fun A Q E s k q => wpAny_bind ((looks_clsIn X2 hcl) A _ E s k (wpAny_pure q))
  have hI : Looks (model prog w) h2 (isInstance (.ref x) (.type "ValueError")) true := (InstAt.type (ox := exD C t0 none) (od := none) ⟨hx2, rfl, rfl, trivial⟩).andThen (looks_subIn X2 T.isV)
  have hxC : x ≠ C := fun e => by
    obtain ⟨_, _, _, _, _, _, _, _, _, _, _, _, _, _, _, hC, _⟩ := T.cls
    rw [e, hC] at hnx; cases hnx
  have hsup : alongIn K "__init__" ((cd.mro.dropWhile (· != .ref C)).drop 1) = some (some (.builtin "ValueError.__init__")) := by
    have := T.sup
    unfold ks_superIn at this
    rw [hcl] at this
    exact this
  refine kxs_getMethod kxs_ValueError e2 (looks_opaque X2 T.opq) hmro rfl X2 hsup hI hxC rfl ?_
  obtain ⟨u, hu⟩ : ∃ u, h2.objs.size = u := ⟨_, rfl⟩
  have hmw : (h2.push (kxs_mw "ValueError.__init__" x)).get? u = some (kxs_mw "ValueError.__init__" x) := by rw [← hu]; exact Heap.get?_push_at rfl rfl
  have k3 : ∀ b o, h2.get? b = some o → (h2.push (kxs_mw "ValueError.__init__" x)).get? b = some o := fun b o e => Heap.get?_push_of_some _ e
  have X3 := X2.keeps k3
  rw [hu]
  show wpAny _ _ (callWith p4 (.ref u) [] (backTo p4 (starEach [.Constant (.str m) j p3] _)) []) _ _ _
  refine kxs_callWith (i := "ValueError.__init__") (x := x) rfl ?_
  refine evalArgs_plain (spliced_cons ?_)
  show wpAny _ _ (eval (.Constant (.str m) j p3) _) _ _ _
  refine wpAny_Constant_str ?_
  refine spliced_nil ⟨hmw, ?_⟩
  have hx3 := k3 _ _ hx2
  refine call_mw T X3 hmw hx3 (by show 1 ≤ sizeLine; rw [sizeLine_eq]; omega) fun h4 t4 k4 hx4 => ?_
  have X4 : K.In h4 := fun b o e => k4 b o (fun z => by rw [z, hnx] at e; cases e) (X3 b o e)
  have hns4 : h4.Ns s.heap.objs.size (fun y => ((("self" : Str) :: f0 :: fs).zip (Value.ref x :: v0 :: vs)).reverse.lookup y) := ns_keep (hns2.keeps k3) fun o q => k4 _ _ hxL q
  refine wpAt_of_wpAny (wpAny_execs_cons (plainObj_wpAny_Assign_Attribute ?_))
  have hf0l := hloc f0 (by simp)
  refine ldK (v := v0) hns4 hf0 (ldK (v := .ref x) hns4 hself ?_ hk hsl (by decide)) hk hf0l (T.nod f0 (List.mem_cons_self ..))
  refine set_plain X4 (ox := exD C t4 none) (od := none) ⟨hx4, rfl, rfl, trivial⟩ T.sa ?_
  refine exc_osa X4 hx4 hcl hmr hhd (T.noN f0 (List.mem_cons_self ..)) fun h5 tk5 dx k5 dn dne hx5 hD5 => ?_
  have dn : h4.objs.size ≤ dx := dn
  have hL5 : s.heap.objs.size < h4.objs.size := hns4.lt
  have hdL : dx ≠ s.heap.objs.size := by omega
  have X5 : K.In h5 := fun b o e => k5 b o (fun z => by rw [z, hnx] at e; cases e) (X4 b o e)
  have hKd : K.lookup dx = none := by
    cases e : K.lookup dx with
    | none => rfl
    | some o =>
      exact absurd (Heap.lt_size (show h4.get? dx = some o from X4 _ _ e)) (Nat.not_lt.mpr dn)
  have hns5 := ns_keep hns4 fun o q => k5 _ _ hxL q
  have old : ∀ b o, b ≠ x → s.heap.get? b = some o → h5.get? b = some o := fun b o hb e => k5 b o hb (k4 b o hb (k3 b o (k2 b o (hk1 b o e))))
  refine stores_rest T hk hself hsl hdL dne fs vs sts h5 tk5 (fun y => if y = f0 then some v0 else none) [f0] _ hst2 hlen (fun y hy => ⟨List.mem_cons_of_mem _ hy, hloc y (by simp [hy])⟩) (fun i y hi => ?_) X5 (fun b e => by rw [e]; exact hKd) hns5 hx5 hD5 (fun y hy => ?_) (by simp; omega) fun h' tk' k' hD' => ?_
  · have hi' : i < vs.length := by rw [← hlen]; exact (List.getElem?_eq_some_iff.mp hi).1
    rw [List.getElem?_eq_getElem hi']
    refine look _ _ ?_
    rw [List.zip_cons_cons, List.zip_cons_cons]
    refine List.mem_cons_of_mem _ (List.mem_cons_of_mem _ (List.mem_of_getElem? (i := i) ?_))
    rw [List.getElem?_zip_eq_some]
    exact ⟨hi, List.getElem?_eq_getElem hi'⟩
  · by_cases e : y = f0
    · simp [e]
    · simp [e] at hy
  · exact hq h' tk' dx t4 ⟨fun b o hb e => k' b o (fun z => absurd (Heap.lt_size (show s.heap.get? dx = some o from z ▸ e)) (Nat.not_lt.mpr (Nat.le_trans (Nat.le_of_lt hL5) dn))) (old b o hb e), k' _ _ dne.symm hx5, Nat.le_trans (Nat.le_of_lt hL5) dn, dne, hD'⟩
end
end SupX
end PySem
set_option Elab.async false
set_option linter.all false
set_option maxRecDepth 100000
set_option maxHeartbeats 4000000
namespace PySem
namespace SupX
open PySem.W PySem.Calls PyProof.Rows PySem.HandSPX
structure Made (h h' : Heap) (e C d : Addr) (mD : Str → Option Value) : Prop where
  keep : ∀ b o, h.get? b = some o → h'.get? b = some o
  new : h.objs.size ≤ e
  obj : ∃ t, h'.get? e = some (exD C t (some d))
  dbig : h.objs.size ≤ d
  dne : d ≠ e
  ns : h'.Ns1 d mD
section
variable {prog : Program} {w : World} {A : Around} {E : Value → Shared → Prop} {K : Frag} {C fI : Addr} {fs : List Str}
theorem sup_made {f0 : Str} {R : Result → Shared → Prop} {s : Shared} {mg mb : Str → Option Value} (T : SupT prog K C fI (f0 :: fs)) {v0 : Value} {vs : List Value} (hlen : fs.length = vs.length) (hfl : fs.length ≤ 900) (X : K.In s.heap) (hlim : s.heap.NoLimit)
    (G : s.heap.Ns mainGlobals mg) (Bn : s.heap.Ns builtinsNs mb) (hb : mb "super" = bootBuiltins "super") (hroom : A.depth + 1 < recursionLimit)
    (hq : ∀ h' tk e d, Made s.heap h' e C d (putAll (fun y => if y = f0 then some v0 else none) fs vs) → R (.ok (.ret (.ref e))) { s with heap := h', toks := tk }) :
    codeAny (model prog w) A (.call (.ref C) ⟨v0 :: vs, []⟩) R s := by
  obtain ⟨nm, q, N, bs, bm, sn, sub, ab, col, dd, k0, k1, k2, k3, k5, hC, hbm⟩ := T.cls
  obtain ⟨hp, g, dr, tk, os⟩ := s
  have k : ∀ b o, hp.get? b = some o → ((hp.push (kdv_tup (v0 :: vs))).push (excO C hp.objs.size)).get? b = some o := fun b o e => Heap.get?_push_of_some _ (Heap.get?_push_of_some _ e)
  have hget : ((hp.push (kdv_tup (v0 :: vs))).push (excO C hp.objs.size)).get? (hp.objs.size + 1) = some (excO C hp.objs.size) := by heap_get
  have hnx : K.lookup (hp.objs.size + 1) = none := by
    cases e : K.lookup (hp.objs.size + 1) with
    | none => rfl
    | some o =>
      have z : hp.get? (hp.objs.size + 1) = some o := X _ _ e
      exact absurd (Nat.lt_of_succ_lt (Heap.lt_size z)) (Nat.lt_irrefl _)
  have hsz : (v0 :: vs).length ≤ sizeLine := by
    rw [sizeLine_eq, List.length_cons, ← hlen]
    omega
  refine call_own F.excBase_ValueError (fun X => refsVE_contains X bm hbm) (X _ _ hC) (looks_findIn X T.iC) (fun self => bind_fn X self T.tI) hsz ?_
  refine sup_init (s := ⟨(hp.push (kdv_tup (v0 :: vs))).push (excO C hp.objs.size), g, dr, tk, os⟩) T hlen hfl (X.keeps k) (hlim.keeps k) (G.keeps k) (Bn.keeps k) hb hget hnx ?_ fun h' tk' dx t ⟨k', hx, dn, dne, hns⟩ => ?_
  · show A.depth + 1 < recursionLimit
    exact hroom
  · have old : ∀ b o, hp.get? b = some o → h'.get? b = some o := fun b o e => k' b o (Nat.ne_of_lt (Nat.lt_succ_of_lt (Heap.lt_size e))) (k b o e)
    have z : hp.objs.size + 1 + 1 ≤ dx := by
      first
        | (simpa only [Heap.size_push] using dn)
        | exact dn
        | (have q := dn; rw [Heap.size_push, Heap.size_push] at q; exact q)
    exact ⟨rfl, hq h' tk' (hp.objs.size + 1) dx ⟨old, Nat.le_succ _, ⟨_, hx⟩, Nat.le_trans (Nat.le_trans (Nat.le_succ _) (Nat.le_succ _)) z, dne, hns⟩⟩
end
end SupX
end PySem
namespace M
open PySem L2 PySem.W PySem.Calls PyProof.Rows
theorem zip_look : ∀ {fs : List Str} {vs : List V} {us : List Value} (mD : Str → Option Value) (pre : List (Str × V)), Vals vs us → fs.length = vs.length → fs.Nodup → (∀ f, f ∈ fs → pre.lookup f = none) → (∀ f, RelO (pre.lookup f) (mD f)) → ∀ f, RelO ((pre ++ fs.zip vs).lookup f) (PySem.SupX.putAll mD fs us f)
  | [], [], _, mD, pre, .nil, _, _, _, h, f => by
    simp only [List.zip_nil_left, List.append_nil]
    exact h f
  | x :: fs, v :: vs, u :: us, mD, pre, .cons r rs, hl, hn, hd, h, f => by
    rw [List.nodup_cons] at hn
    have e : pre ++ (x :: fs).zip (v :: vs) = (pre ++ [(x, v)]) ++ fs.zip vs := by simp
    rw [e]
    show RelO _ (PySem.SupX.putAll (fun y => if y = x then some u else mD y) fs us f)
    have look : ∀ g, (pre ++ [(x, v)]).lookup g = (pre.lookup g).or (if g = x then some v else none) := fun g => by
      rw [List.lookup_append]
      congr 1
      by_cases hg : g = x
      · subst hg; simp [List.lookup]
      · rw [if_neg hg]
        have : (g == x) = false := by simpa using hg
        simp [List.lookup, this]
    refine zip_look _ (pre ++ [(x, v)]) rs (Nat.succ.inj hl) hn.2 (fun g hg => ?_) (fun g => ?_) f
    · rw [look, hd g (List.mem_cons_of_mem _ hg), if_neg (fun (z : g = x) => hn.1 (z ▸ hg))]; rfl
    · rw [look]
      by_cases hg : g = x
      · subst hg
        rw [hd g (List.mem_cons_self ..), if_pos rfl, if_pos rfl]
        exact r
      · rw [if_neg hg, if_neg hg, Option.or_none]
        exact h g
  | [], _ :: _, _, _, _, .cons _ _, hl, _, _, _, _ => by cases hl
  | _ :: _, [], _, _, _, .nil, hl, _, _, _, _ => by cases hl
section
variable {X : Cx} {C fI : Addr}
def tMkS (C : Addr) (fs : List Str) (ta : TA) : L2.St → Hp → XK → Prop := fun σ H Q => ta σ H fun vs H1 => fs.length = vs.length ∧ ∀ d, H1 d = none → Q (.ref C) (some d) (upd H1 d (.xd (fs.zip vs)))
theorem pmk_sup {x : Str} {f0 : Str} {fs : List Str} {e : Expr} {es : List Expr} {ta : TA} {p pos : Pos} {k : Nat} (T : PySem.SupX.SupT X.prog X.K C fI (f0 :: fs)) (hfl : fs.length ≤ 900) (gC : X.mg x = some (.ref C)) (kC : PySem.W.keepIn X.K (.ref C) = true) (r : Raises X (.ref C)) (hr : Room k X.A)
    (ha : PA X (e :: es) ta) (hg : Gl X x := by rfl) (hdb : (x == ("__debug__" : Str)) = false := by decide)
    (he : starEach (e :: es) X.env = (false, eval e X.env) :: starEach es X.env := by rfl) (hpl : (backTo pos (starEach es X.env)).any (·.1) = false := by rfl) :
    L2N.PMk X (.Call (.Name x p) (e :: es) [] pos) (tMkS C (f0 :: fs) ta) := by
  intro pins s σ H Q I h
  refine wpAny_Call_Name_kw (ld_glob I hg gC ?_ hdb)
  refine PySem.W.callWith_K (h₀ := X.base) I.ok.mod.kin kC (thn (ha.run pos pins s σ H _ I h) fun us s1 hh => ?_) he hpl
  obtain ⟨vs, H1, I1, r1, hl, q1⟩ := hh
  refine ⟨I1.kIn, ?_⟩
  cases r1 with
  | nil => cases hl
  | cons rv rn =>
    rename_i v u vs' us''
    show wpAny _ _ (call (.ref C) (_ :: _)) _ _ _
    have hlim := I1.nolimit
    obtain ⟨mb, hb1, hb2⟩ := I1.mod.blt
    have hlen : fs.length = us''.length := by
      have := rn.length
      simp only [List.length_cons] at hl
      omega
    have hnd : (f0 :: fs).Nodup := (List.nodup_cons.mp T.nd).2
    have G := I1.mod.glob.keeps I1.bk
    have Bn := hb1.keeps I1.bk
    obtain ⟨hp, g, dr, tk, os⟩ := s1
    refine wpAny_call (PySem.SupX.sup_made T hlen hfl I1.kIn hlim G Bn (hb2 _ (by decide)) (by have := hr.dp; omega) fun h' tk' e d M => ?_)
    show L2N.MkP X pins σ Q (.ref e) ⟨h', g, dr, tk', os⟩
    obtain ⟨t, hoe⟩ := M.obj
    have hns := M.ns
    obtain ⟨G', g1, g2⟩ := restrict h' fun b => decide (b ≠ e)
    have gk : ∀ b, b ≠ e → G'.get? b = h'.get? b := fun b hb => g1 b (decide_eq_true hb)
    have ge : G'.get? e = none := g2 e (by simp)
    have old : ∀ b o, hp.get? b = some o → G'.get? b = some o := fun b o q => (gk b (Nat.ne_of_lt (Nat.lt_of_lt_of_le (Heap.lt_size q) M.new))).trans (M.keep b o q)
    have ob : ObjOk X.prog X.w (upd H1 d (.xd ((f0 :: fs).zip (v :: vs')))) G' d (.xd ((f0 :: fs).zip (v :: vs'))) := by
      refine ⟨_, hns.at (fun o q => (gk d M.dne).trans q), fun f => ?_⟩
      have z := zip_look (fun _ => none) [] (show Vals (v :: vs') (u :: us'') from .cons rv rn) hl hnd (fun _ _ => rfl) (fun _ => True.intro) f
      exact z
    have J : L2.Inv X pins σ (upd H1 d (.xd ((f0 :: fs).zip (v :: vs')))) ⟨G', g, dr, tk', os⟩ := I1.laid (t' := tk') old M.dbig ob
    refine ⟨e, _, _, ⟨G', g, dr, tk', os⟩, _, .ref C, some d, rfl, J, fun b o q => ?_, ge, hoe, ⟨rfl, rfl, fun vs e => by cases e; rfl⟩, rfl, rfl, ?_, rfl, I1.bare, r, q1 d (I1.hok.fresh M.dbig)⟩
    · by_cases hb : b = e
      · have q' : G'.get? b = some o := q
        rw [hb, ge] at q'; cases q'
      · exact (gk b hb).symm.trans q
    · rw [upd_ne (Ne.symm M.dne)]
      exact I1.hok.fresh M.new
end
end M
set_option Elab.async false
set_option linter.all false
set_option maxRecDepth 100000
set_option maxHeartbeats 4000000
namespace M
open PySem L2
def xix : Nat := 1000000
def Kn.at (k : Kn) (a : Addr) : Kn := ⟨k.K, fun i => if i = xix then some (a, []) else k.cl i⟩
mutual
def D.noX : D → Bool
  | .cls c => decide (c ≠ xix)
  | .obj c xs => decide (c ≠ xix) && D.noXs xs
  | .tup xs => D.noXs xs
  | .lst xs => D.noXs xs
  | .dic _ xs => D.noXs xs
  | .dit _ xs => D.noXs xs
  | .dkf _ xs => D.noXs xs
  | .dig _ xs => D.noXs xs
  | _ => true
def D.noXs : List D → Bool
  | [] => true
  | x :: xs => x.noX && D.noXs xs
end
theorem Kn.at_cl {k : Kn} {a : Addr} {i : Nat} (h : i ≠ xix) : (k.at a).cl i = k.cl i := if_neg h
theorem Kn.up {k : Kn} {a : Addr} (h0 : k.cl xix = none) {i : Nat} {p : Addr × List Str} (h : k.cl i = some p) : (k.at a).cl i = some p := by
  rw [Kn.at_cl]; exact h
  rintro rfl; rw [h0] at h; cases h
mutual
theorem RD.up {k : Kn} {G : Hp} {a : Addr} (h0 : k.cl xix = none) : ∀ {d : D} {v : V}, RD k G d v → RD (k.at a) G d v
  | _, _, .non => .non
  | _, _, .bl b => .bl b
  | _, _, .int i => .int i
  | _, _, .str x => .str x
  | _, _, .ty n => .ty n
  | _, _, .tup h r => .tup h (RDs.up h0 r)
  | _, _, .lst h r => .lst h (RDs.up h0 r)
  | _, _, .scr h => .scr h
  | _, _, .cls h => .cls (Kn.up h0 h)
  | _, _, .dic h l r => .dic h l (RDs.up h0 r)
  | _, _, .dit h l r => .dit h l (RDs.up h0 r)
  | _, _, .dkf h l r => .dkf h l (RDs.up h0 r)
  | _, _, .dig h l kk r => .dig h l kk (RDs.up h0 r)
  | _, _, .obj c h r => .obj (Kn.up h0 c) h (RDs.up h0 r)
theorem RDs.up {k : Kn} {G : Hp} {a : Addr} (h0 : k.cl xix = none) : ∀ {ds : List D} {vs : List V}, RDs k G ds vs → RDs (k.at a) G ds vs
  | _, _, .nil => .nil
  | _, _, .cons a b => .cons (RD.up h0 a) (RDs.up h0 b)
end
mutual
theorem RD.down {k : Kn} {G : Hp} {a : Addr} : ∀ {d : D} {v : V}, RD (k.at a) G d v → d.noX = true → RD k G d v
  | _, _, .non, _ => .non
  | _, _, .bl b, _ => .bl b
  | _, _, .int i, _ => .int i
  | _, _, .str x, _ => .str x
  | _, _, .ty n, _ => .ty n
  | _, _, .tup h r, q => by simp only [D.noX] at q; exact .tup h (RDs.down r q)
  | _, _, .lst h r, q => by simp only [D.noX] at q; exact .lst h (RDs.down r q)
  | _, _, .scr h, _ => .scr h
  | _, _, .cls h, q => by simp only [D.noX, decide_eq_true_eq] at q; rw [Kn.at_cl q] at h; exact .cls h
  | _, _, .dic h l r, q => by simp only [D.noX] at q; exact .dic h l (RDs.down r q)
  | _, _, .dit h l r, q => by simp only [D.noX] at q; exact .dit h l (RDs.down r q)
  | _, _, .dkf h l r, q => by simp only [D.noX] at q; exact .dkf h l (RDs.down r q)
  | _, _, .dig h l kk r, q => by simp only [D.noX] at q; exact .dig h l kk (RDs.down r q)
  | _, _, .obj c h r, q => by
    simp only [D.noX, Bool.and_eq_true, decide_eq_true_eq] at q
    rw [Kn.at_cl q.1] at c
    exact .obj c h (RDs.down r q.2)
theorem RDs.down {k : Kn} {G : Hp} {a : Addr} : ∀ {ds : List D} {vs : List V}, RDs (k.at a) G ds vs → D.noXs ds = true → RDs k G ds vs
  | _, _, .nil, _ => .nil
  | _, _, .cons a b, q => by
    simp only [D.noXs, Bool.and_eq_true] at q
    exact .cons (RD.down a q.1) (RDs.down b q.2)
end
theorem Gc.up {mg : Str → Option Value} {k : Kn} {x : Str} {d : D} {a : Addr} (h0 : k.cl xix = none) (h : Gc mg k x d) : Gc mg (k.at a) x d := by
  obtain ⟨v, u, h1, h2, h3⟩ := h.ex
  exact ⟨v, u, h1, h2, fun G => (h3 G).up h0⟩
section
variable {P : Program} {w : World} {K : PySem.W.Frag} {mg : Str → Option Value} {base : Heap}
theorem fn_okX {k : Kn} {fr : Bool} {as : List Nat} {x qual : Str} {params : Arguments} {body : List Stmt} {scope : Scope} {dvs : List V} {kws : List (Str × V)} {f : Addr} {fd : FuncData} {N ps : List Str} {lv : Nat} {s : FS} (F : FunD K x qual params body scope dvs kws f fd) (S : FnScope N ps scope)
    (hb : ∀ (cdv : Value) (A : Around) (outer : List PySem.Env) (sh : Shared) (H G0 : Hp) (E : XK), Room lv (A.deeper (PyProof.Rows.envOfC qual scope sh.heap.objs.size f cdv)) → L2N.Takes (cxOf (L2N.CX P w) P w K mg base N qual scope f cdv A outer sh H E) (liftX E) →
      PB' (cxOf (L2N.CX P w) P w K mg base N qual scope f cdv A outer sh H E) ⟨k, H, G0, liftX E⟩ fr as body s) :
    FnOk P w K mg base (L2N.CX P w) (lv + 1) f fd ps (SpF k fr ps.length (runF fr N.length s)) := by
  refine F.ok S (fun vs H Q E q => q.1) fun cdv A outer sh H vs Q E hr q => ?_
  exact body_ok (X := cxOf (L2N.CX P w) P w K mg base N qual scope f cdv A outer sh H E) (fun G0 => hb cdv A outer sh H G0 E hr (L2N.takes_of rfl rfl rfl rfl)) q
theorem init_okX {k : Kn} {as : List Nat} {x qual : Str} {params : Arguments} {body : List Stmt} {scope : Scope} {dvs : List V} {kws : List (Str × V)} {f : Addr} {fd : FuncData} {N ps : List Str} {lv ci : Nat} {s : FS} (F : FunD K x qual params body scope dvs kws f fd) (S : FnScope N ps scope) (h0 : 0 ∉ as)
    (hb : ∀ (cdv : Value) (A : Around) (outer : List PySem.Env) (sh : Shared) (H H0 G0 : Hp) (E : XK), Room lv (A.deeper (PyProof.Rows.envOfC qual scope sh.heap.objs.size f cdv)) → L2N.Takes (cxOf (L2N.CX P w) P w K mg base N qual scope f cdv A outer sh H E) (liftX E) →
      PB' (cxOf (L2N.CX P w) P w K mg base N qual scope f cdv A outer sh H E) ⟨k, H0, G0, liftX E⟩ false as body s) :
    FnOk P w K mg base (L2N.CX P w) (lv + 1) f fd ps (SpN k ci ps.length (runN N.length ci s)) := by
  refine F.ok S (fun vs H Q E q => q.1) fun cdv A outer sh H vs Q E hr q => ?_
  exact body_init (X := cxOf (L2N.CX P w) P w K mg base N qual scope f cdv A outer sh H E) h0 (fun H0 G0 => hb cdv A outer sh H H0 G0 E hr (L2N.takes_of rfl rfl rfl rfl)) q
end
structure CalleeX (P : Program) (w : World) (K : PySem.W.Frag) (mg : Str → Option Value) (base : Heap) (k : Kn) (lv : Nat) (x : Str) (n : Nat) (fr : Bool) (den : List D → R D) : Prop where
  ex : ∃ (f : Addr) (fd : FuncData) (ps : List Str), ps.length = n ∧ FnOk P w K mg base (L2N.CX P w) lv f fd ps (SpF k fr n den) ∧ mg x = some (.ref f) ∧ PySem.W.keepIn K (.ref f) = true ∧ Binds K fd ps []
structure MethodX (P : Program) (w : World) (K : PySem.W.Frag) (mg : Str → Option Value) (base : Heap) (k : Kn) (lv : Nat) (ci : Nat) (m : Str) (n : Nat) (fr : Bool) (den : List D → R D) : Prop where
  ex : ∃ (C f : Addr) (fd : FuncData) (ps nm : List Str), ps.length = n ∧ k.cl ci = some (C, nm) ∧ m ∉ nm ∧ Cls K C ∧ Meth K C m f ∧ FnOk P w K mg base (L2N.CX P w) lv f fd ps (SpF k fr n den) ∧ Binds K fd ps []
structure MakerX (P : Program) (w : World) (K : PySem.W.Frag) (mg : Str → Option Value) (base : Heap) (k : Kn) (lv : Nat) (x : Str) (ci n : Nat) (den : List D → R D) : Prop where
  ex : ∃ (C f : Addr) (fd : FuncData) (ps : List Str) (nm : List Str), ps.length = n + 1 ∧ k.cl ci = some (C, nm) ∧ Mk K C f ∧ FnOk P w K mg base (L2N.CX P w) lv f fd ps (SpN k ci (n + 1) den) ∧ mg x = some (.ref C) ∧ Binds K fd ps []
section
variable {X : Cx} {c : Cf} {kd k1 k2 k3 : Kd} {a b e o : Expr} {f g h : FE} {pos apos : Pos} {fr : Bool} {x : Str} {den : List D → R D} {ci : Nat}
def eCX (o : List D → R D) (g : FA) : FE := fun S => g S >>= fun xs => o xs
theorem callX_go {n : Nat} {fa : FA} {σ : L2.St} {H : Hp} {Q : VK} (hl : ∀ S ds, fa S = .ok ds → ds.length = n) (q : RdE c (kdOf fr) (eCX den fa) σ H Q) : RdA c false fa σ H fun vs H1 => SpF c.k fr n den vs H1 Q (WE c.W σ) := by
  obtain ⟨G, S, rel, p⟩ := q
  have p : PostE c (kdOf fr) G S σ H Q (fa S >>= fun ds => den ds) := p
  refine ⟨G, S, rel, ?_⟩
  cases e0 : fa S with
  | exc x => rw [e0] at p; exact p
  | fail => rw [e0] at p; exact p
  | ok ds =>
    rw [e0] at p
    intro vs G1 H1 s1 q1
    have q1 : RDs c.k G1 ds vs := q1
    refine ⟨by rw [← q1.length]; exact hl S ds e0, G1, ds, s1.gh, q1, ?_⟩
    have p : PostE c (kdOf fr) G S σ H Q (den ds) := p
    cases e1 : den ds with
    | ok d => rw [e1] at p; exact fun v G' H' s2 r2 => p v G' H' (s1.trans s2) (r2.mono s1.h)
    | exc x =>
      rw [e1] at p
      have p : PX c σ x := p
      exact fun _ cls da G' H' s2 xr => p cls da G' H' ((rel.grow s1).st.trans s2) xr
    | fail => rw [e1] at p; exact p.elim
theorem d_callX {lv m n : Nat} {p : Pos} {es : List Expr} {fa : FA} (F : CalleeX X.prog X.w X.K X.mg X.base c.k lv x n fr den) (hr : Room m X.A) (hle : lv ≤ m) (tk : L2N.Takes X c.W) (ha : PA' X c false (e :: es) fa) (hl : Len n fa) (hg : Gl X x := by rfl) (hdb : (x == ("__debug__" : Str)) = false := by decide)
    (hs : starEach (e :: es) X.env = (false, eval e X.env) :: starEach es X.env := by rfl) (hs2 : ((backTo pos (starEach es X.env)).any fun x => x.1) = false := by rfl) : PE' X c (kdOf fr) (.Call (.Name x p) (e :: es) [] pos) (eCX den fa) := by
  obtain ⟨f, fd, ps, hn, ok, hm, hk, hb⟩ := F.ex
  exact peI (pe_callS ok (hr.mono hle) hg hm hk hb (fun σ => L2N.passAt tk σ) ha hdb hs hs2) fun σ H Q q => callX_go hl q
def eMX (ci : Nat) (den : List D → R D) (f : FE) (fa : FA) : FE := fun S => f S >>= fun o => if o.isObj ci then fa S >>= fun ds => den (o :: ds) else .fail
end
end M
set_option Elab.async false
set_option linter.all false
set_option maxRecDepth 100000
set_option maxHeartbeats 4000000
namespace M
open PySem L2
section
variable {X : Cx} {c : Cf} {kd k1 k2 k3 : Kd} {a b e o : Expr} {f g h : FE} {pos apos : Pos} {fr : Bool} {x : Str} {den : List D → R D} {ci : Nat}
structure RaO (K : PySem.W.Frag) (mg : Str → Option Value) (k : Kn) (x : Str) (ci : Nat) : Prop where
  ex : ∃ C, k.cl ci = some (C, []) ∧ PySem.W.excIn K C [.type "ValueError", .type "Exception", .type "BaseException", .type "object"] "ValueError.__new__" = true ∧ mg x = some (.ref C) ∧ PySem.W.keepIn K (.ref C) = true ∧
    PySem.W.subIn K (.ref C) (.type "BaseException") = some true ∧ PySem.W.typeIn K (.ref C) = some (.type "type")
structure RaI (P : Program) (K : PySem.W.Frag) (mg : Str → Option Value) (k : Kn) (x : Str) (ci : Nat) (fs : List Str) : Prop where
  ex : ∃ C fI, k.cl ci = some (C, fs) ∧ fs ≠ [] ∧ fs.length ≤ 900 ∧ PySem.SupX.SupT P K C fI fs ∧ mg x = some (.ref C) ∧ PySem.W.keepIn K (.ref C) = true ∧
    PySem.W.subIn K (.ref C) (.type "BaseException") = some true ∧ PySem.W.typeIn K (.ref C) = some (.type "type")
def sExc0 (ci : Nat) : FS := fun _ => .exc ⟨ci, []⟩
theorem s_raise0 {j : Nat} {p p2 pos' : Pos} {m : Str} (R : RaO X.K X.mg c.k x ci) (hc : X.calm = true) (tk : L2N.Takes X c.W) (hg : Gl X x := by rfl) (hdb : (x == ("__debug__" : Str)) = false := by decide) :
    PS' X c fr [] (.Raise (some (.Call (.Name x p) [.Constant (.str m) j p2] [] pos)) none pos') (sExc0 ci) := by
  obtain ⟨C, hcl, h1, h2, h3, h4, h5⟩ := R.ex
  refine psI (L2N.ps_raise hc tk (L2N.pmk_own PySem.F.excBase_ValueError h1 h2 h3 (raises_own h4 h5) hg hdb)) fun Dn σ H ⟨G, S, rel, p⟩ => ?_
  have p : PXs c ⟨ci, []⟩ := p
  exact p σ (.ref C) none G H rel.st ⟨C, [], hcl, rfl, .inl ⟨rfl, rfl, rfl⟩⟩
def sExcI (ci n : Nat) (fa : FA) : FS := fun S => fa S >>= fun ds => if ds.length = n then .exc ⟨ci, ds⟩ else .fail
theorem s_raiseI {m n : Nat} {p pos' : Pos} {es : List Expr} {fa : FA} {fs : List Str} (R : RaI X.prog X.K X.mg c.k x ci fs) (hn : fs.length = n) (hr : Room m X.A) (hc : X.calm = true) (tk : L2N.Takes X c.W) (ha : PA' X c false (e :: es) fa) (hg : Gl X x := by rfl) (hdb : (x == ("__debug__" : Str)) = false := by decide)
    (he : starEach (e :: es) X.env = (false, eval e X.env) :: starEach es X.env := by rfl) (hpl : (backTo pos (starEach es X.env)).any (·.1) = false := by rfl) :
    PS' X c fr [] (.Raise (some (.Call (.Name x p) (e :: es) [] pos)) none pos') (sExcI ci n fa) := by
  obtain ⟨C, fI, hcl, hne, hfl, T, h2, h3, h4, h5⟩ := R.ex
  cases fs with
  | nil => exact absurd rfl hne
  | cons f0 fs =>
  refine psI (L2N.ps_raise hc tk (pmk_sup T (by simp at hfl; omega) h2 h3 (raises_own h4 h5) hr ha hg hdb he hpl)) fun Dn σ H ⟨G, S, rel, p⟩ => ?_
  have p : PostS c fr [] G S σ H Dn (fa S >>= fun ds => if ds.length = n then .exc ⟨ci, ds⟩ else .fail) := p
  refine ⟨G, S, rel, ?_⟩
  cases e0 : fa S with
  | exc x => rw [e0] at p; exact p _
  | fail => rw [e0] at p; exact p
  | ok ds =>
    rw [e0] at p
    intro vs G1 H1 s1 q1
    have q1 : RDs c.k G1 ds vs := q1
    have p : PostS c fr [] G S σ H Dn (if ds.length = n then .exc ⟨ci, ds⟩ else .fail) := p
    by_cases hd : ds.length = n
    · rw [if_pos hd] at p
      have p : PXs c ⟨ci, ds⟩ := p
      refine ⟨by rw [hn, ← hd, q1.length], fun d hd0 => ?_⟩
      have sp := s1.trans (Step.new' (o := .xd ((f0 :: fs).zip vs)) s1.gh hd0)
      exact p σ (.ref C) (some d) _ _ (rel.grow sp).st ⟨C, f0 :: fs, hcl, rfl, .inr ⟨d, vs, rfl, upd_same, q1, by rw [hn, ← hd, q1.length]⟩⟩
    · rw [if_neg hd] at p; exact p.elim
end
end M
set_option Elab.async false
set_option linter.all false
set_option maxRecDepth 100000
set_option maxHeartbeats 4000000
namespace M
open PySem L2
def PostS1 (c : Cf) (fr : Bool) (as : List Nat) (G : Hp) (S : Env) (σ : L2.St) (H : Hp) (Dn : Ends) : R (Fl × Env) → Prop
  | .ok z => PostS c fr as G S σ H Dn (.ok z)
  | .exc x => PX c σ x
  | .fail => False
def RdS1 (c : Cf) (fr : Bool) (as : List Nat) (f : FS) : TS := fun Dn σ H => ∃ G S, Rel c G S σ H ∧ PostS1 c fr as G S σ H Dn (f S)
abbrev PS1' (X : Cx) (c : Cf) (fr : Bool) (as : List Nat) (st : Stmt) (f : FS) : Prop := PS X st (RdS1 c fr as f)
abbrev PB1' (X : Cx) (c : Cf) (fr : Bool) (as : List Nat) (sts : List Stmt) (f : FS) : Prop := PSs X sts (RdS1 c fr as f)
theorem PostS1.of {c : Cf} {fr : Bool} {as : List Nat} {G : Hp} {S : Env} {σ : L2.St} {H : Hp} {Dn : Ends} {r : R (Fl × Env)} (p : PostS c fr as G S σ H Dn r) : PostS1 c fr as G S σ H Dn r := by
  cases r with
  | ok z => exact p
  | exc x => exact p σ
  | fail => exact p
section
variable {X : Cx} {c : Cf} {kd k1 k2 k3 : Kd} {a b e o : Expr} {f g h : FE} {t u : FT} {s r : FS} {pos apos : Pos} {fr : Bool} {x : Str} {den : List D → R D} {ci : Nat} {as bs : List Nat} {st : Stmt} {sts : List Stmt}
theorem s1_drop (he : PE' X c kd e f) (hs : swapsWith e none pos.line X.env = pure false := by rfl) : PS1' X c fr [] (.Expr e pos) (sDrop f) :=
  psI (ps_expr he hs) fun Dn σ H ⟨G, S, rel, p⟩ => by
    refine rdE_go (g := fun d => .ok (Fl.nx, S)) (Post := PostS1 c fr [] G S σ H Dn) rel p (fun _ z => z) (fun z => z) fun d v G' H' sp q p1 => ?_
    exact p1 G' σ H' sp.g (rel.grow sp) (Frm.step rel sp)
theorem PostS1.gr {G H G' H' : Hp} {S : Env} {σ : L2.St} {Dn : Ends} {q : R (Fl × Env)} (rel : Rel c G S σ H) (sp : Step G H G' H') (p : PostS1 c fr as G S σ H Dn q) : PostS1 c fr as G' S σ H' Dn q := by
  cases q with
  | ok z => exact PostS.gr rel sp p
  | exc x => exact p
  | fail => exact p
theorem PostS1.sub {as' : List Nat} {G H : Hp} {S : Env} {σ : L2.St} {Dn : Ends} {q : R (Fl × Env)} (hs : ∀ i, i ∈ as' → i ∈ as) (p : PostS1 c fr as G S σ H Dn q) : PostS1 c fr as' G S σ H Dn q := by
  cases q with
  | ok z => exact PostS.sub hs p
  | exc x => exact p
  | fail => exact p
theorem s1_if {cc : Expr} {aa bb : List Stmt} (hc : PT' X c cc t) (ha : PB1' X c fr as aa s) (hb : PB1' X c fr bs bb r) : PS1' X c fr (as ++ bs) (.If cc aa bb pos) (sIf t s r) :=
  psI (ps_if hc ha hb) fun Dn σ H ⟨G, S, rel, p⟩ => rdT_go (g := fun b => if b then s S else r S) (Post := PostS1 c fr (as ++ bs) G S σ H Dn) rel p (fun _ z => z) (fun z => z) fun b G' H' sp p1 => by
    cases b with
    | true => exact ⟨G', S, rel.grow sp, PostS1.sub (fun i q => List.mem_append_left _ q) (PostS1.gr rel sp p1)⟩
    | false => exact ⟨G', S, rel.grow sp, PostS1.sub (fun i q => List.mem_append_right _ q) (PostS1.gr rel sp p1)⟩
theorem b1_one (h1 : PS1' X c fr as st s) : PB1' X c fr as [st] s := pss_one h1
def noOwn (S : Env) : Bool := S.all fun o => match o with
  | some ⟨true, _⟩ => false
  | _ => true
theorem noOwn_at {S : Env} (h : noOwn S = true) {i : Nat} {d : D} (q : S[i]? = some (some ⟨true, d⟩)) : False := by
  have := List.all_eq_true.mp h _ (List.mem_of_getElem? q)
  simp at this
def hndF (h : FS) (S : Env) : R (Fl × Env) := match h S with
  | .ok (.rt d, _) => if d.noX then .ok (.rt d, S) else .fail
  | _ => .fail
def sTryAs (mt : Nat → Option Bool) (i : Nat) (s : FS) (hnd : Exc → FS) : FS := fun S => if noOwn S then (match s S with
  | .ok z => .ok z
  | .fail => .fail
  | .exc x => match mt x.c with
    | some true => hndF (hnd x) (S.set i (some ⟨false, .cls xix⟩))
    | some false => .exc x
    | none => .fail) else .fail
theorem Rel.rebase {G H : Hp} {S : Env} {σ : L2.St} {W : WX} (rel : Rel c G S σ H) (h : noOwn S = true) : Rel ⟨c.k, H, G, W⟩ G S σ H :=
  ⟨Step.refl rel.st.gh, rel.len, rel.fz, fun i d q => (noOwn_at h q).elim, fun i j a o _ => by obtain ⟨⟨d, q⟩, _⟩ := o; exact (noOwn_at h q).elim⟩
theorem Rel.back {G H G' H' : Hp} {S S' : Env} {σ σ' : L2.St} {W : WX} (rel : Rel c G S σ H) (r2 : Rel ⟨c.k, H, G, W⟩ G' S' σ' H') : Rel c G' S' σ' H' :=
  ⟨rel.st.trans r2.st, r2.len, r2.fz, fun i d q => by
    obtain ⟨a, o, e, g, h0, ho, ct⟩ := r2.ow i d q
    exact ⟨a, o, e, g, rel.st.h.free h0, ho, ct⟩, r2.nd⟩
theorem s_tryAs {n : Str} {cv : Value} {i : Nat} {body suite : List Stmt} {b₀ : Stmt} {np pos' : Pos} {hnd : Exc → FS} {mt : Nat → Option Bool}
    (hs : X.stack = X.env :: X.outer) (hf : X.env.frame = some X.env.locals) (hN : X.N.Nodup) (hi : X.N[i]? = some n) (hln : X.env.kindOf n = some .local) (hcn : Names X x cv) (tk : L2N.Takes X c.W) (h0 : c.k.cl xix = none)
    (hm : ∀ ci b, mt ci = some b → ∃ C nm, c.k.cl ci = some (C, nm) ∧ PySem.W.exmOne X.K (.ref C) cv = some b)
    (hb : ∀ (W : WX) (pn : List (Addr × Obj)) (xe : Value → Shared → Prop) (H0 G0 : Hp), L2N.Takes (X.tr pn xe) W → PassesOwn (model X.prog X.w) X.A X.env xe → PB1' (X.tr pn xe) ⟨c.k, H0, G0, W⟩ false as body s)
    (hsu : ∀ (a : Addr) (oe : Obj) (cls : Value) (d : Option Addr) (pn : List (Addr × Obj)) (H0 G0 : Hp) (y : Exc), L2N.Zn cls d oe → (∃ vs, oe.data = .fields vs) → XR ⟨c.k, H0, G0, liftX E0⟩ G0 y cls d H0 →
      PB' (X.suite a ((a, oe) :: pn)) ⟨c.k.at a, H0, G0, liftX E0⟩ false bs (b₀ :: suite) (hnd y)) :
    PS' X c false as (.Try body [.ExceptHandler (some (.Name x np)) (some n) (b₀ :: suite) pos'] [] [] pos) (sTryAs mt i s hnd) := by
  refine psI (L2N.ps_try_as (tb := fun W => fun D σ H => ∃ G, RdS1 ⟨c.k, H, G, W⟩ false as s D σ H) (ts := fun a cls d => fun D σ H => ∃ (y : Exc) (G : Hp), XR ⟨c.k, H, G, liftX E0⟩ G y cls d H ∧ RdS ⟨c.k.at a, H, G, liftX E0⟩ false bs (hnd y) D σ H) (Wout := c.W)
    hs hf hN hi hln hcn tk (fun W pn xe tkW pa => ⟨fun pins s σ H D I ⟨G, q⟩ => (hb W pn xe H G tkW pa).run pins s σ H D I q⟩) (fun a oe cls d pn hz hd => ⟨fun pins s σ H D I ⟨y, G, xr, q⟩ => (hsu a oe cls d pn H G y hz hd xr).run pins s σ H D I q⟩)) fun Dn σ H ⟨G, S, rel, p⟩ => ?_
  have p : PostS c false as G S σ H Dn (if noOwn S then _ else .fail) := p
  by_cases hno : noOwn S = true
  · rw [if_pos hno] at p
    refine ⟨G, G, S, rel.rebase hno, ?_⟩
    cases e1 : s S with
    | fail => rw [e1] at p; exact p.elim
    | ok z =>
      rw [e1] at p
      obtain ⟨fl, S1⟩ := z
      cases fl with
      | nx => exact fun G' σ' H' ex r2 fm => p G' σ' H' ex (rel.back r2) fm
      | bk => exact fun G' σ' H' ex r2 fm => p G' σ' H' ex (rel.back r2) fm
      | ct => exact fun G' σ' H' ex r2 fm => p G' σ' H' ex (rel.back r2) fm
      | rt d => exact fun v G' H' sp rv ow => p v G' H' (rel.st.trans sp) rv ow
    | exc y =>
      rw [e1] at p
      have p : PostS c false as G S σ H Dn (match mt y.c with
        | some true => hndF (hnd y) (S.set i (some ⟨false, .cls xix⟩))
        | some false => .exc y
        | none => .fail) := p
      intro cls da G' H' sp xr
      have sp : Step G H G' H' := sp
      cases em : mt y.c with
      | none => rw [em] at p; exact p.elim
      | some b =>
        rw [em] at p
        obtain ⟨C, nm, hcl, hex⟩ := hm y.c b em
        have hcls : cls = .ref C := by
          obtain ⟨C', nm', h1, h2, _⟩ := xr
          have h1 : c.k.cl y.c = some (C', nm') := h1
          rw [hcl] at h1; cases h1; exact h2
        refine ⟨b, by rw [hcls]; exact hex, fun hb1 a ha => ?_, fun hb1 => ?_⟩
        · subst hb1
          have p : PostS c false as G S σ H Dn (hndF (hnd y) (S.set i (some ⟨false, .cls xix⟩))) := p
          have relK : Rel ⟨c.k.at a, H', G', liftX E0⟩ G' S σ H' := ⟨Step.refl sp.gh, rel.len, fun i d q => by
            obtain ⟨v, e, r⟩ := rel.fz i d q
            exact ⟨v, e, (r.mono sp.g).up h0⟩, fun i d q => (noOwn_at hno q).elim, fun i j a o _ => by obtain ⟨⟨d, q⟩, _⟩ := o; exact (noOwn_at hno q).elim⟩
          have hx : RD (c.k.at a) G' (.cls xix) (.ref a) := .cls (nm := []) (show (if xix = xix then some (a, []) else c.k.cl xix) = some (a, []) from if_pos rfl)
          refine ⟨y, G', xr, G', _, relK.setS i hx, ?_⟩
          unfold hndF at p
          cases e2 : hnd y (S.set i (some ⟨false, .cls xix⟩)) with
          | exc z => rw [e2] at p; exact p.elim
          | fail => rw [e2] at p; exact p.elim
          | ok z =>
            rw [e2] at p
            obtain ⟨fl, S2⟩ := z
            cases fl with
            | nx => exact p.elim
            | bk => exact p.elim
            | ct => exact p.elim
            | rt d =>
              dsimp only at p
              by_cases hd : d.noX = true
              · rw [if_pos hd] at p
                intro v G2 H2 sp2 rv _
                have sp2 : Step G' H' G2 H2 := sp2
                have rv : RD (c.k.at a) G2 d v := rv
                exact p v G2 H2 ((rel.st.trans sp).trans sp2) (rv.down hd) ⟨σ, fun _ _ => rfl, fun j d q => by
                  by_cases hj : i = j
                  · subst hj
                    have hl : i < S.length := by have := (List.getElem?_eq_some_iff.mp q).1; rwa [List.length_set] at this
                    rw [List.getElem?_set_self hl] at q; cases q
                  · rw [List.getElem?_set_ne hj] at q; exact (noOwn_at hno q).elim⟩
              · rw [if_neg hd] at p; exact p.elim
        · subst hb1
          have p : PXs c y := p
          exact p σ cls da G' H' (rel.st.trans sp) xr
  · rw [if_neg hno] at p; exact p.elim
end
end M
set_option Elab.async false
set_option linter.all false
set_option maxRecDepth 100000
set_option maxHeartbeats 4000000
namespace PySem
namespace SupX
open PySem.W PySem.Spec PySem.Calls PyProof.Rows
section
variable {prog : Program} {w : World} {A : Around} {E : Value → Shared → Prop} {s : Shared} {K : Frag} {x D : Addr} {ox : Obj} {od : Option Obj}
theorem findObj_data {C : Addr} {name : Str} {a g : Value} (hc : (clsIn K C).isSome = true) (ha : findIn K (.ref C) name = some (some a)) (hg : specialIn K a "__get__" = some (some g)) (ht : takesIn K a = some true) : findObj K C od name = some (.bind g a) := by
  obtain ⟨cd, hc⟩ := Option.isSome_iff_exists.mp hc
  unfold findObj
  rw [hc, Option.bind_some, ha, Option.bind_some]
  simp [hg, ht]
theorem kin_class {Q : Option Value → Shared → Prop} (hga : findIn K (.ref D) "__getattribute__" = some (some (.builtin "BaseException.__getattribute__"))) (hgt : findIn K (.ref D) "__getattr__" = some none) (hsub : subIn K (.ref D) (.type "BaseException") = some true)
    (hdct : hasDictIn K D = true) (ha : findIn K (.ref D) "__class__" = some (some (.builtin "object.__class__")))
    (hn : specialIn K (.builtin "object.__class__") "__get__" = some (some (.builtin "getset_descriptor.__get__"))) (htk : takesIn K (.builtin "object.__class__") = some true) (hm : mroIn K D (.type "object") = some true)
    (X : K.In s.heap) (I : InstAt s.heap x ox D od) (h : Q (some (.ref D)) { s with toks := s.toks + 1 }) : wpAny (model prog w) A (getAttr? (.ref x) "__class__") Q E s := by
  have hf : findObj K D od "__class__" = some (.bind (.builtin "getset_descriptor.__get__") (.builtin "object.__class__")) := findObj_data (by obtain ⟨cd, hc, _⟩ := any_some hdct; rw [hc]; rfl) ha hn htk
  obtain ⟨hp, g, d, t, os⟩ := s
  have L0 := I.type (M := model prog w)
  have L1 := looks_findIn (M := model prog w) X hga
  have L2 := looks_findIn (M := model prog w) X hgt
  have L3 := looks_find (M := model prog w) X I hf
  have sub : Looks (model prog w) hp (isInstance (.ref x) (.type "BaseException")) true := L0.andThen (looks_subIn X hsub)
  have hx0 : (false && onTheHeap (Value.builtin "BaseException.__getattribute__")) = false := rfl
  have hx2 : (Value.builtin "BaseException.__getattribute__" == Value.builtin "object.__getattribute__") = false := by decide +kernel
  have hx1 : (onTheHeap (Value.ref D) && Value.builtin "BaseException.__getattribute__" == Value.builtin "object.__getattribute__") = false := by rw [hx2]; rfl
  unfold getAttr? getAttrBy? getAttrBy
  refine wpAny_bind (wpAny_mkText (wpAny_bind (wpAny_attempt (wpAny_holding (wpAny_bind (L0.at (wpAny_bind (L1.at ?_))))))))
  show wpAny _ _ (if (onTheHeap (Value.ref D) && Value.builtin "BaseException.__getattribute__" == Value.builtin "object.__getattribute__") = true then _ else _) _ _ _
  rw [hx1, if_neg Bool.false_ne_true]
  unfold getAttrByItsOwn hookBefore
  refine wpAny_bind ?_
  rw [if_pos (show onTheHeap (Value.ref D) = true from rfl)]
  refine L2.at ?_
  refine wpAny_bind (wpAny_attempt (wpAny_holding ?_))
  unfold callGetattribute
  rw [hx0, if_neg Bool.false_ne_true]
  unfold boundAndCalled
  rw [PySem.F.excAttr_ValueError.ga.bind (.ref x)]
  refine wpAny_bind (wpAny_pure ?_)
  show wpAny _ _ (call (.builtin "BaseException.__getattribute__") [.ref x, .str "__class__" t]) _ _ _
  refine wpAny_call (codeAny_call_builtin PySem.F.excAttr_ValueError.ga.plain PySem.F.entry_bexc_ga ?_)
  refine @check_slot (model prog w) _ _ ⟨hp, g, d, t + 1, os⟩ "BaseException.__getattribute__" "BaseException" "__getattribute__" (.ref x) [.str "__class__" t] [] _ (by decide +kernel) (by decide +kernel) sub (PySem.F.args_bexc_ga (.ref x) (.str "__class__" t)) ?_
  unfold Builtin.«object.__getattribute__»
  refine wpAny_bind (wpAny_of_eq (a := ((Value.ref x : Value), [Value.str "__class__" t])) (by first | rfl | (simp only [slotArgs]; rfl)) ?_)
  refine wpAny_bind (wpAny_pure (wpAny_bind (L0.at (wpAny_bind (L3.at ?_)))))
  show wpAny _ _ (holding [Value.builtin "object.__class__"] (call (.builtin "getset_descriptor.__get__") [.builtin "object.__class__", .ref x, .ref D]) >>= ret) _ _ _
  refine wpAny_bind (wpAny_holding (wpAny_call (class_get (s := ⟨hp, g, d, t + 1, os⟩) (ox := ox) (od := od) X I hm ?_)))
  refine wpAny_pure ?_
  show wpAny _ _ (handedOut (.ref D)) _ _ _
  rw [handedOut_of (v := .ref D) rfl]
  first
    | exact wpAny_pure (wpAny_pure h)
    | exact wpAny_pure h
    | exact wpAny_pure (wpAny_bind (wpAny_pure (wpAny_pure h)))
theorem kitx_exc (C : L2.ExcC K D) : KitX K (.ref x) (.ref D) (fun h => ∃ ox od, InstAt h x ox D od) where
  ty := fun _ _ _ ⟨_, _, I⟩ => I.type
  it := fun _ _ X _ => by
    obtain ⟨cdD, hcD, _⟩ := any_some C.hd
    unfold clsIn at hcD
    split at hcD
    · rename_i c' d' cd' sl' ho
      intro A' Q' E' s' k q
      unfold isType loadHead
      exact wpAny_bind (wpAny_loadPart (k _ _ (X _ _ ho)) (wpAny_pure q))
    · cases hcD
  ne := fun h tp dd its n sl X htp => by
    obtain ⟨cdD, hcD, _⟩ := any_some C.hd
    refine Bool.eq_false_iff.mpr fun q => ?_
    have e : D = tp := Value.ref.inj (beq_iff_eq.mp q)
    subst e
    unfold clsIn at hcD
    split at hcD
    · rename_i c' d' cd' sl' ho
      have z := (X _ _ ho).symm.trans htp
      cases z
    · cases hcD
  ca := fun X ⟨_, _, I⟩ k => kin_class C.hg C.hk C.hs C.hd C.ha C.hn C.ht C.hm X I k
end
end SupX
end PySem
set_option Elab.async false
set_option linter.all false
set_option maxRecDepth 100000
set_option maxHeartbeats 4000000
namespace M
open PySem L2
theorem Kn.at_x {k : Kn} {a : Addr} : (k.at a).cl xix = some (a, []) := (show (if xix = xix then some (a, []) else k.cl xix) = some (a, []) from if_pos rfl)
def rIsX (K : PySem.W.Frag) (Dx a : Addr) (d : Option Addr) : List V → Hp → VK → Prop := fun xs H Q => ∃ (c : V) (b : Bool), xs = [.ref a, c] ∧ ExcC K Dx ∧ (∀ dd, d = some dd → ∃ fs, H dd = some (.xd fs)) ∧
  ((∃ cv, (∀ u, RelV c u → u = cv) ∧ PySem.W.kitOne K (.ref Dx) cv = some b) ∨ ∃ tp cs cvs, c = .ref tp ∧ SqT K H tp cs ∧ (∀ us, Vals cs us → us = cvs) ∧ PySem.W.kitAny K (.ref Dx) cvs = some b) ∧ Q (.bl b) H
theorem call_isX {X : Cx} {a Dx : Addr} {oe : Obj} {d : Option Addr} (hin : (a, oe) ∈ X.pn) (hz : Zc (.ref Dx) d oe) (hf : ∃ vs, oe.data = .fields vs) : CallR X (.builtin "isinstance") (rIsX X.K Dx a d) := by
  intro pins s σ H xs us Q I r h
  obtain ⟨c, b, rfl, C, hdd, hc, q⟩ := h
  obtain ⟨u1, u2, rfl, r1, r2⟩ := vals2 r
  cases (show u1 = Value.ref a from r1)
  obtain ⟨hget, _⟩ := I.pin (a, oe) (List.mem_append.mpr (.inl hin))
  obtain ⟨vs, hv⟩ := hf
  have J : ∃ ox od, PySem.W.InstAt s.heap a ox Dx od := by
    obtain ⟨oc, od, oda, osl⟩ := oe
    obtain ⟨h1, h2⟩ := hz
    dsimp only at h1 h2 hv
    subst h1 h2 hv
    cases od with
    | none => exact ⟨_, none, hget, rfl, rfl, trivial⟩
    | some dd =>
      obtain ⟨fs, hfs⟩ := hdd dd rfl
      have hx : ObjOk X.prog X.w H s.heap dd (.xd fs) := I.hok dd _ hfs
      obtain ⟨mA, hns, _⟩ := hx
      obtain ⟨o, _, _, ho, _⟩ := hns
      exact ⟨_, some o, hget, rfl, rfl, ho⟩
  rcases hc with ⟨cv, hcv, e⟩ | ⟨tp, cs, cvs, rfl, hs, hcs, e⟩
  · have ec := hcv _ r2
    subst ec
    exact PySem.W.kia_one (PySem.SupX.kitx_exc C) I.kIn J e (fun z => nomatch z) fun tk => ⟨.bl b, H, I.kept (t' := tk) fun _ _ z => z, rfl, q⟩
  · cases (show u2 = Value.ref tp from r2)
    obtain ⟨its, rv, ⟨o, ho, hcl, n, hda⟩, _⟩ := I.tuple hs
    have ec := hcs _ rv
    subst ec
    obtain ⟨oc, od, dt, sl⟩ := o
    simp only at hcl hda
    subst hcl hda
    exact PySem.W.kia_tup (PySem.SupX.kitx_exc C) I.kIn J ho e (fun z => nomatch z) fun tk => ⟨.bl b, H, I.kept (t' := tk) fun _ _ z => z, rfl, q⟩
structure IsT (K : PySem.W.Frag) (k : Kn) (ce : Nat) (t : D) (b : Bool) : Prop where
  ex : ∃ C nm, k.cl ce = some (C, nm) ∧ ExcC K C ∧ ((∃ ci C2 nm2, t = .cls ci ∧ ci ≠ xix ∧ k.cl ci = some (C2, nm2) ∧ PySem.W.kitOne K (.ref C) (.ref C2) = some b) ∨ ∃ n, t = .ty n ∧ PySem.W.kitOne K (.ref C) (.type n) = some b)
def tabs (tab : Nat → D → Option Bool) (ce : Nat) : List D → Option Bool
  | [] => some false
  | t :: ts => (tab ce t).bind fun b => (tabs tab ce ts).map fun r => b || r
def isXD (tab : Nat → D → Option Bool) (y : Exc) : D → D → R D
  | .cls i, t => if i = xix then (match t with
    | .tup ts => (match ts with | [] => .fail | t0 :: ts => (match tabs tab y.c (t0 :: ts) with | some b => .ok (.bl b) | none => .fail))
    | t => match tab y.c t with
      | some b => .ok (.bl b)
      | none => .fail) else .fail
  | _, _ => .fail
section
variable {k : Kn} {K : PySem.W.Frag} {a : Addr}
theorem IsT.exc {ce : Nat} {t : D} {b : Bool} {C : Addr} {nm : List Str} (h : IsT K k ce t b) (hc : k.cl ce = some (C, nm)) : ExcC K C := by
  obtain ⟨C', nm', h1, h2, _⟩ := h.ex
  rw [hc] at h1; cases h1
  exact h2
theorem IsT.excs {tab : Nat → D → Option Bool} (hT : ∀ ci t b, tab ci t = some b → IsT K k ci t b) {ce : Nat} {C : Addr} {nm : List Str} (hc : k.cl ce = some (C, nm)) {t : D} {ts : List D} {b : Bool} (h : tabs tab ce (t :: ts) = some b) : ExcC K C := by
  simp only [tabs] at h
  cases e1 : tab ce t with
  | none => rw [e1] at h; cases h
  | some b1 => exact (hT _ _ _ e1).exc hc
theorem IsT.val {ce : Nat} {t : D} {b : Bool} {G : Hp} {v : V} {C : Addr} {nm : List Str} (h : IsT K k ce t b) (hc : k.cl ce = some (C, nm)) (r : RD (k.at a) G t v) : ∃ cv, (∀ u, RelV v u → u = cv) ∧ PySem.W.kitOne K (.ref C) cv = some b := by
  obtain ⟨C', nm', h1, h2, h3⟩ := h.ex
  rw [hc] at h1; cases h1
  rcases h3 with ⟨ci, C2, nm2, rfl, hne, h4, h5⟩ | ⟨n, rfl, h5⟩
  · cases r with
    | cls hr =>
      rw [Kn.at_cl hne, h4] at hr
      cases hr
      exact ⟨.ref C2, fun u hu => hu, h5⟩
  · cases r with
    | ty => exact ⟨.type n, fun u hu => hu, h5⟩
theorem IsT.vals {tab : Nat → D → Option Bool} (hT : ∀ ci t b, tab ci t = some b → IsT K k ci t b) {ce : Nat} {C : Addr} {nm : List Str} (hc : k.cl ce = some (C, nm)) {G : Hp} : ∀ {ts : List D} {vs : List V} {b : Bool}, tabs tab ce ts = some b → RDs (k.at a) G ts vs →
    ∃ cvs, (∀ us, Vals vs us → us = cvs) ∧ PySem.W.kitAny K (.ref C) cvs = some b
  | [], _, b, h, .nil => by
    cases h
    exact ⟨[], fun us hu => by cases hu; rfl, rfl⟩
  | t :: ts, _, b, h, .cons r rs => by
    simp only [tabs] at h
    cases e1 : tab ce t with
    | none => rw [e1] at h; cases h
    | some b1 =>
      rw [e1] at h
      cases e2 : tabs tab ce ts with
      | none => rw [e2] at h; cases h
      | some b2 =>
        rw [e2] at h
        cases h
        obtain ⟨cv, h1, h2⟩ := (hT _ _ _ e1).val hc r
        obtain ⟨cvs, h3, h4⟩ := IsT.vals hT hc e2 rs
        refine ⟨cv :: cvs, fun us hu => ?_, ?_⟩
        · cases hu with
          | cons x y => rw [h1 _ x, h3 _ y]
        · refine kitAny_cons h2 (fun z => ?_) fun z => ?_
          · rw [z]; exact h4
          · rw [z]; rfl
end
section
variable {X : Cx} {c : Cf} {k : Kn} {kd k1 k2 k3 : Kd} {e o : Expr} {f g h : FE} {pos apos : Pos} {fr : Bool} {x : Str}
structure Held (X : Cx) (k : Kn) (a : Addr) (y : Exc) (H0 G0 : Hp) : Prop where
  ex : ∃ (oe : Obj) (cls : Value) (d : Option Addr), (a, oe) ∈ X.pn ∧ Zc cls d oe ∧ (∃ vs, oe.data = .fields vs) ∧ XR ⟨k, H0, G0, liftX E0⟩ G0 y cls d H0
theorem d_isX {ba : Bool} {a : Addr} {y : Exc} {H0 G0 : Hp} {W : WX} {p : Pos} {e1 e2 : Expr} {ga : FA} {tab : Nat → D → Option Bool} (hh : Held X k a y H0 G0) (hK : k.K = X.K) (hT : ∀ ci t b, tab ci t = some b → IsT X.K k ci t b) (hm : X.mg "isinstance" = none) (ha : PA' X ⟨k.at a, H0, G0, W⟩ ba [e1, e2] ga)
    (hg : Gl X "isinstance" := by rfl) (hs : starEach [e1, e2] X.env = (false, eval e1 X.env) :: starEach [e2] X.env := by rfl) (hs2 : ((backTo pos (starEach [e2] X.env)).any fun x => x.1) = false := by rfl) :
    PE' X ⟨k.at a, H0, G0, W⟩ .st (.Call (.Name "isinstance" p) [e1, e2] [] pos) (eC (f2 (isXD tab y)) ga) := by
  obtain ⟨oe, cls, d, hin, hz, hf, C, nm, hcl, rfl, hxd⟩ := hh.ex
  have hcl : k.cl y.c = some (C, nm) := hcl
  refine peI (pe_callB (call_isX hin hz hf) hg hm (by decide +kernel) ha (by decide) (by decide) hs hs2) fun σ H Q ⟨G, S, rel, q⟩ => ?_
  refine ⟨G, S, rel, ?_⟩
  have q : PostE ⟨k.at a, H0, G0, W⟩ .st G S σ H Q (ga S >>= fun xs => (f2 (isXD tab y) xs).nox) := q
  cases e0 : ga S with
  | exc z => rw [e0] at q; exact q
  | fail => rw [e0] at q; exact q
  | ok ds =>
    rw [e0] at q
    intro vs G1 H1 s1 q1
    have q1 := q1.nows
    have q : PostE ⟨k.at a, H0, G0, W⟩ .st G S σ H Q (f2 (isXD tab y) ds).nox := q
    have hdd : ∀ dd, d = some dd → ∃ fs, H1 dd = some (.xd fs) := fun dd e => by
      rcases hxd with ⟨_, _, h⟩ | ⟨d', vs', h1, h2, _⟩
      · rw [h] at e; cases e
      · rw [h1] at e; cases e
        exact ⟨_, (rel.grow s1).st.h _ _ h2⟩
    match ds, q1 with
    | [.cls i, t], .cons (v := v1) n1 (.cons (v := v2) n2 .nil) =>
      have q : PostE ⟨k.at a, H0, G0, W⟩ .st G S σ H Q (isXD tab y (.cls i) t).nox := q
      simp only [isXD] at q
      by_cases hi : i = xix
      · subst hi
        rw [if_pos rfl] at q
        have hv1 : v1 = .ref a := by
          rcases n1 with n1 | ⟨_, _, _, _, ct⟩
          · cases n1 with
            | cls hr =>
              have hr : (k.at a).cl xix = _ := hr
              rw [Kn.at_x] at hr; cases hr; rfl
          · cases ct
        subst hv1
        have fin : ∀ b, isXD tab y (.cls xix) t = .ok (.bl b) → Q (.bl b) H1 := fun b e => by
          simp only [isXD, if_pos] at e
          rw [e] at q
          exact q _ G1 H1 s1 (.bl b)
        cases t with
        | tup ts =>
          cases ts with
          | nil => exact q.elim
          | cons t0 ts =>
            dsimp only at q
            cases e2 : tabs tab y.c (t0 :: ts) with
            | none => rw [e2] at q; exact q.elim
            | some b =>
              obtain ⟨tp, cs, rfl, hsq, r⟩ := n2.tup
              have hx1 := IsT.excs hT hcl e2
              obtain ⟨cvs, h1, h2⟩ := IsT.vals hT hcl e2 r
              refine ⟨_, b, rfl, hx1, hdd, .inr ⟨tp, cs, cvs, rfl, s1.gh.sqT (hK ▸ hsq.t), h1, h2⟩, fin b ?_⟩
              simp only [isXD, if_pos, e2]
        | _ =>
          first
            | (dsimp only at q
               cases e2 : tab y.c _ with
               | none => rw [e2] at q; exact q.elim
               | some b =>
                 have hx1 := (hT _ _ _ e2).exc hcl
                 rcases n2 with n2 | ⟨_, _, _, _, ct⟩
                 · obtain ⟨cv, h1, h2⟩ := (hT _ _ _ e2).val hcl n2
                   refine ⟨_, b, rfl, hx1, hdd, .inl ⟨cv, h1, h2⟩, fin b ?_⟩
                   simp only [isXD, if_pos, e2]
                 · first
                     | (cases ct; done)
                     | (obtain ⟨_, _, _, _, h3⟩ := (hT _ _ _ e2).ex; rcases h3 with ⟨_, _, _, h3, _⟩ | ⟨_, h3, _⟩ <;> cases h3))
      · rw [if_neg hi] at q; exact q.elim
    | [], _ => exact q.elim
    | [_], _ => exact q.elim
    | _ :: _ :: _ :: _, _ => exact q.elim
    | [.non, _], _ => exact q.elim
    | [.bl _, _], _ => exact q.elim
    | [.int _, _], _ => exact q.elim
    | [.str _, _], _ => exact q.elim
    | [.ty _, _], _ => exact q.elim
    | [.tup _, _], _ => exact q.elim
    | [.lst _, _], _ => exact q.elim
    | [.dic _ _, _], _ => exact q.elim
    | [.dit _ _, _], _ => exact q.elim
    | [.dkf _ _, _], _ => exact q.elim
    | [.dig _ _, _], _ => exact q.elim
    | [.obj _ _, _], _ => exact q.elim
    | [.scr _, _], _ => exact q.elim
structure XfT (K : PySem.W.Frag) (k : Kn) (ci : Nat) (f : Str) (j : Nat) : Prop where
  ex : ∃ C nm, k.cl ci = some (C, nm) ∧ nm[j]? = some f ∧ nm.Nodup ∧ XfC K C ∧ PySem.W.findIn K (.ref C) f = some none
def eXf (y : Exc) (ci j : Nat) (g : FE) : FE := e1 (fun d => match d with
  | .cls i => if i = xix ∧ y.c = ci then (match y.fs[j]? with | some d => .ok d | none => .fail) else .fail
  | _ => .fail) g
theorem zip_at : ∀ {nm : List Str} {vs : List V} {j : Nat} {f : Str} {v : V}, nm.Nodup → nm[j]? = some f → vs[j]? = some v → (nm.zip vs).lookup f = some v
  | [], _, _, _, _, _, h, _ => by simp at h
  | _ :: _, [], _, _, _, _, _, h => by simp at h
  | n :: nm, u :: vs, 0, f, v, _, h1, h2 => by
    simp at h1 h2; subst h1 h2
    simp [List.lookup]
  | n :: nm, u :: vs, j + 1, f, v, hn, h1, h2 => by
    rw [List.nodup_cons] at hn
    rw [List.getElem?_cons_succ] at h1 h2
    have : (f == n) = false := by
      simp only [beq_eq_false_iff_ne, ne_eq]
      intro e
      subst e
      exact hn.1 (List.mem_of_getElem? h1)
    simp only [List.zip_cons_cons, List.lookup, this]
    exact zip_at hn.2 h1 h2
theorem pe_xf' {X : Cx} {a C : Addr} {oe : Obj} {cls : Value} {d : Option Addr} {e : Expr} {te : TE} {pos : Pos} {n : Str} (hin : (a, oe) ∈ X.pn) (T : XfC X.K C) (hno : PySem.W.findIn X.K (.ref C) n = some none)
    (hz : Zc cls d oe) (hf : ∃ vs, oe.data = .fields vs) (he : PE X e te) (hb : attributeBase e n X.env (eval e X.env) = eval e X.env) :
    PE X (.Attribute e n pos) (tXf a cls d C n te) := by
  refine ⟨fun pins s σ H Q I h => ?_⟩
  refine attr_of hb (thn (he.run pins s σ H _ I h) fun u s1 hh => ?_)
  obtain ⟨x, H1, I1, rx, ex, ec, dd, fs, v, ed, ea, l, q⟩ := hh
  subst ex
  obtain rfl : u = Value.ref a := rx
  subst ec
  subst ed
  obtain ⟨ha, _⟩ := I1.pin (a, oe) (List.mem_append_left _ hin)
  obtain ⟨vs, hd⟩ := hf
  have hx : ObjOk X.prog X.w H1 s1.heap dd (.xd fs) := I1.hok dd _ ea
  obtain ⟨mA, hns, hr⟩ := hx
  obtain ⟨od, ho, hl⟩ := lookIn_ns hns
  obtain ⟨u, hu, ru⟩ := RelO.some_of (v := v) (o := mA n) (by rw [← l]; exact hr n)
  have J : PySem.W.InstAt s1.heap a oe C (some od) := ⟨ha, hz.1, by unfold PySem.W.notCls; rw [hd] <;> rfl, by rw [hz.2]; exact ho⟩
  exact HandSPX.exc_get I1.kIn J T.ga T.gg T.exC (PySem.W.findObj_own T.hdC hno rfl (by rw [hl, hu])) (handed_of ru) ⟨v, H1, I1.tok _, ru, q⟩
theorem d_xf {a : Addr} {y : Exc} {H0 G0 : Hp} {W : WX} {e : Expr} {g : FE} {f : Str} {ci j : Nat} (hh : Held X k a y H0 G0) (T : XfT X.K k ci f j) (h0 : k.cl xix = none) (he : PE' X ⟨k.at a, H0, G0, W⟩ .bo e g)
    (hb : attributeBase e f X.env (eval e X.env) = eval e X.env := by rfl) : PE' X ⟨k.at a, H0, G0, W⟩ .st (.Attribute e f pos) (eXf y ci j g) := by
  obtain ⟨oe, cls, d, hin, hz, hf, C, nm, hcl, rfl, hxd⟩ := hh.ex
  have hcl : k.cl y.c = some (C, nm) := hcl
  obtain ⟨C2, nm2, h1, h2, h3, h4, h5⟩ := T.ex
  refine peI (pe_xf' hin h4 h5 hz hf he hb) fun σ H Q ⟨G, S, rel, q⟩ => ?_
  refine rdE_go (g := fun d => ((match d with
    | .cls i => if i = xix ∧ y.c = ci then (match y.fs[j]? with | some d => .ok d | none => .fail) else .fail
    | _ => .fail : R D)).nox) (Post := PostE ⟨k.at a, H0, G0, W⟩ .st G S σ H Q) rel q (fun _ z => z) (fun z => z) fun d1 v1 G1 H1 s1 q1 p1 => ?_
  cases d1 with
  | cls i =>
    dsimp only at p1
    by_cases hi : i = xix ∧ y.c = ci
    · rw [if_pos hi] at p1
      obtain ⟨rfl, hc⟩ := hi
      rw [hc, h1] at hcl
      cases hcl
      have hv1 : v1 = .ref a := by
        rcases q1 with n1 | ⟨_, _, _, _, ct⟩
        · cases n1 with
          | cls hr =>
            have hr : (k.at a).cl xix = _ := hr
            rw [Kn.at_x] at hr; cases hr; rfl
        · cases ct
      cases e2 : y.fs[j]? with
      | none => rw [e2] at p1; exact p1.elim
      | some d0 =>
        rw [e2] at p1
        rcases hxd with ⟨hnm, _, _⟩ | ⟨dd, vs, hd, hH, r, _⟩
        · rw [hnm] at h2; simp at h2
        · have r : RDs k G0 y.fs vs := r
          obtain ⟨v, hv, rv⟩ := r.get e2
          have st := (rel.grow s1).st
          exact ⟨hv1, rfl, dd, _, v, hd, st.h _ _ hH, zip_at h3 h2 hv, p1 v G1 H1 s1 ((rv.mono st.g).up h0)⟩
    · rw [if_neg hi] at p1; exact p1.elim
  | _ => exact p1.elim
end
end M
set_option Elab.async false
set_option linter.all false
set_option maxRecDepth 100000
set_option maxHeartbeats 4000000
namespace M
open PySem L2 PySem.W
abbrev FnS : Type := Option (Str × Str × Arguments × FuncBody × Scope × Addr × List Str × Addr)
def supI (K : PySem.W.Frag) (x : Str) : Addr := He.ma K (He.ga K x) "__init__"
def seenS (K : PySem.W.Frag) (x : Str) : FnS := (K.lookup (supI K x)).bind fun o => match o.data with
  | .func z => some (z.name, z.qualname, z.params, z.body, z.scope, z.globals, z.closure.map (·.1), z.builtins)
  | _ => none
structure Sx where
  x : Str
  fs : List Str
  qual : Str
  params : Arguments
  body : List Stmt
  scope : Scope
def Sx.val (s : Sx) : FnS := some ("__init__", s.qual, s.params, .stmts s.body, s.scope, mainGlobals, ["__class__"], builtinsNs)
def isNone : Value → Bool
  | .none => true
  | _ => false
theorem isNone_ok {v : Value} (h : isNone v = true) : v = .none := by cases v <;> first | rfl | cases h
def exoB (K : PySem.W.Frag) (C : Addr) : Bool := match K.lookup C with
  | some ⟨.type "type", _, .cls cd, sl⟩ => (match cd.mro, sl.toList with
    | .ref C' :: bm, [_, _, _, _, some (.builtin n), _] => C' == C && (n == "ValueError.__new__" && (!cd.hasDel && (cd.hasDict && PySem.HandSPX.refsVE bm)))
    | _, _ => false)
  | _ => false
theorem exoB_ok {K : PySem.W.Frag} {C : Addr} (q : exoB K C = true) : ∃ nm qn N bs bm sn sub ab col dd k0 k1 k2 k3 k5, K.lookup C = some (excClassObj nm qn C N bs bm true sn sub ab col dd k0 k1 k2 k3 k5 "ValueError.__new__") ∧ PySem.HandSPX.refsVE bm = true := by
  unfold exoB at q
  split at q
  · rename_i dd cd sl ho
    split at q
    · rename_i C' bm k0 k1 k2 k3 n k5 hm hs
      simp only [Bool.and_eq_true, beq_iff_eq, Bool.not_eq_true'] at q
      obtain ⟨rfl, rfl, hdel, hdict, hbm⟩ := q
      obtain ⟨nm, bs, mro, ns, qn, hd, sn, sub, ab, col, del⟩ := cd
      dsimp only at hm hdel hdict
      subst hm hdel hdict
      have hsl : sl = #[k0, k1, k2, k3, some (.builtin "ValueError.__new__"), k5] := by
        obtain ⟨l⟩ := sl
        simp only at hs
        rw [hs]
      subst hsl
      exact ⟨nm, qn, ns, bs, bm, sn, sub, ab, col, dd, k0, k1, k2, k3, k5, ho, hbm⟩
    · cases q
  · cases q
def fnB (file : Str) (K : PySem.W.Frag) (s : Sx) : Bool := match K.lookup (supI K s.x) with
  | some ⟨_, _, .func z, _⟩ => codeIn K z.code s.qual && (isNone z.defaults && (isNone z.kwdefaults && (match z.code, z.closure with
    | .ref cda, [(_, cc)] => (match K.lookup cda with
      | some ⟨_, _, .fields vs, _⟩ => (match (vs[2]? : Option Value) with
        | some (.str f _) => decide (f = file)
        | _ => false)
      | _ => false) && (match K.lookup cc with
      | some ⟨_, _, .cell (some (.ref C')), _⟩ => decide (C' = He.ga K s.x)
      | _ => false)
    | _, _ => false)))
  | _ => false
def supB (file : Str) (K : PySem.W.Frag) (s : Sx) : Bool :=
  exoB K (He.ga K s.x) && (He.eqO (findIn K (.ref (He.ga K s.x)) "__setattr__") (some (some (.builtin "object.__setattr__"))) && ((s.fs.all fun f => He.eqO (findIn K (.ref (He.ga K s.x)) f) (some none)) &&
  (He.eqO (ks_superIn K (He.ga K s.x) (He.ga K s.x) "__init__") (some (some (.builtin "ValueError.__init__"))) && (decide (subIn K (.ref (He.ga K s.x)) (.type "ValueError") = some true) && (decide (mroIn K (He.ga K s.x) (.ref (He.ga K s.x)) = some true) &&
  (He.eqO (nsIn K cStatics "thirdparty.any") (some none) && (He.eqO (findIn K (.ref (He.ga K s.x)) "__init__") (some (some (.ref (supI K s.x)))) && (decide (typeIn K (.ref (supI K s.x)) = some (.type "function")) &&
  (He.eqO (nsIn K mainGlobals "super") (some none) && (keepIn K (.ref (He.ga K s.x)) && (decide (subIn K (.ref (He.ga K s.x)) (.type "BaseException") = some true) && (decide (typeIn K (.ref (He.ga K s.x)) = some (.type "type")) && fnB file K s))))))))))))
theorem sup_ok {P : Program} {K : PySem.W.Frag} {file : Str} {s : Sx} {ar : Arg} (h : supB file K s = true) (e : seenS K s.x = s.val) (hP : ((P.main.file : Str) == file) = true) (ht : (P.main.scope.names.lookup ("super" : Str)).isSome = false) (hb : PySem.SupX.InitBody s.fs s.body)
    (hnd : (("self" : Str) :: s.fs).Nodup) (hnod : ∀ f, f ∈ s.fs → (f == ("__debug__" : Str)) = false) (har : (s.params.posonlyargs ++ s.params.args).head? = some ar) (hars : ar.arg = "self")
    (hbind : ∀ (doc pm cdv ct : Value) (an : Option Addr) (cc : Addr) (sh : Shared) (us : List Value), us.length = s.fs.length + 1 → BindsTo sh (ksFn "__init__" s.qual s.params s.body s.scope .none .none doc pm an cdv ct cc) ⟨us, []⟩ ((("self" : Str) :: s.fs).zip us))
    (h1 : s.scope.names.lookup ("super" : Str) = some .globalImplicit) (h2 : s.scope.names.lookup ("__class__" : Str) = some .free) (h3 : ∀ f, f ∈ ("self" : Str) :: s.fs → s.scope.names.lookup f = some .local) (h4 : s.scope.kind = .function) (h5 : s.scope.isGenerator = false) (h6 : s.scope.isCoroutine = false)
    (h7 : ∀ x ∈ s.scope.names, x.2 ≠ .cell) : PySem.SupX.SupT P K (He.ga K s.x) (supI K s.x) s.fs ∧ keepIn K (.ref (He.ga K s.x)) = true ∧ subIn K (.ref (He.ga K s.x)) (.type "BaseException") = some true ∧ typeIn K (.ref (He.ga K s.x)) = some (.type "type") := by
  unfold supB at h
  obtain ⟨a1, h⟩ := He.ba h
  obtain ⟨a2, h⟩ := He.ba h
  obtain ⟨a3, h⟩ := He.ba h
  obtain ⟨a4, h⟩ := He.ba h
  obtain ⟨a5, h⟩ := He.ba h
  obtain ⟨a6, h⟩ := He.ba h
  obtain ⟨a7, h⟩ := He.ba h
  obtain ⟨a8, h⟩ := He.ba h
  obtain ⟨a9, h⟩ := He.ba h
  obtain ⟨a10, h⟩ := He.ba h
  obtain ⟨a11, h⟩ := He.ba h
  obtain ⟨a12, h⟩ := He.ba h
  obtain ⟨a13, a14⟩ := He.ba h
  refine ⟨⟨exoB_ok a1, He.eqO_ok a2, fun f hf => He.eqO_ok (List.all_eq_true.mp a3 f hf), hnd, hnod, He.eqO_ok a4, of_decide_eq_true a5, of_decide_eq_true a6, He.eqO_ok a7, He.eqO_ok a8, of_decide_eq_true a9, He.eqO_ok a10, ht, ?_⟩, a11, of_decide_eq_true a12, of_decide_eq_true a13⟩
  unfold fnB at a14
  unfold seenS at e
  split at a14
  · rename_i oc od z osl hl
    rw [hl] at e
    obtain ⟨y1, y2, y3, y4, y5, y6, y7, y8, y9, y10, y11, y12, y13, y14, y15⟩ := z
    simp only [Sx.val, Option.bind_some, Option.some.injEq, Prod.mk.injEq] at e
    obtain ⟨b1, b2, b3, b4, b5, b6, b7, b8⟩ := e
    obtain ⟨c1, a15⟩ := He.ba a14
    obtain ⟨c2, a16⟩ := He.ba a15
    obtain ⟨c3, a17⟩ := He.ba a16
    clear a14 a15 a16
    dsimp only at c1 c2 c3 a17
    split at a17
    · rename_i _ _ cda q cc
      obtain ⟨d1, d2⟩ := He.ba a17
      split at d1
      · rename_i ccl cdd vs ccs hcda
        split at d1
        · rename_i f tf hvs
          split at d2
          · rename_i cl cld C' csl hcc
            have e1 := of_decide_eq_true d1
            have e2 := of_decide_eq_true d2
            subst e1 e2
            have z1 := isNone_ok c2
            have z2 := isNone_ok c3
            subst b1 b2 b3 b4 b5 b6 b8 z1 z2
            simp only [List.map_cons, List.map_nil, List.cons.injEq, and_true] at b7
            subst b7
            exact ⟨oc, od, _, _, _, _, _, _, _, _, _, _, osl, cda, cc, ccl, cl, cdd, cld, vs, ccs, csl, f, tf, ar, hl, c1, hcda, hvs, hP, hcc, hb, har, hars, fun s us hus => hbind _ _ _ _ _ _ s us hus, h1, h2, h3, h4, h5, h6, h7⟩
          · cases d2
        · cases d1
      · cases d1
    · cases a17
  · cases a14
def kwAt (w : Wh) (x : Str) (K : PySem.W.Frag) : Addr := match K.lookup (w.ad K) with
  | some ⟨_, _, .func z, _⟩ => (match z.kwdefaults with
    | .ref D => (match nsIn K D x with
      | some (some (.ref a)) => a
      | _ => 0)
    | _ => 0)
  | _ => 0
inductive XF where
  | isT (x y : Str) (b : Bool)
  | isTy (x : Str) (n : String) (b : Bool)
  | ecc (x : Str)
  | fld (x f : Str)
  | cme (x m : Str)
  | dfl (w : Wh) (x : Str) (d : D)
  | sf (x : Str)
def XF.ok (K : PySem.W.Frag) : XF → Bool
  | .isT x y b => decide (kitOne K (.ref (He.ga K x)) (.ref (He.ga K y)) = some b)
  | .isTy x n b => decide (kitOne K (.ref (He.ga K x)) (.type n) = some b)
  | .ecc x => He.eqO (findIn K (.ref (He.ga K x)) "__getattribute__") (some (some (.builtin "BaseException.__getattribute__"))) && (He.eqO (findIn K (.ref (He.ga K x)) "__getattr__") (some none) && (decide (subIn K (.ref (He.ga K x)) (.type "BaseException") = some true) && (hasDictIn K (He.ga K x) &&
    (He.eqO (findIn K (.ref (He.ga K x)) "__class__") (some (some (.builtin "object.__class__"))) && (He.eqO (specialIn K (.builtin "object.__class__") "__get__") (some (some (.builtin "getset_descriptor.__get__"))) && (decide (takesIn K (.builtin "object.__class__") = some true) && decide (mroIn K (He.ga K x) (.type "object") = some true)))))))
  | .cme x m => readsIn K (He.ga K x) (.type "type") && (He.eqO (specialIn K (.ref (He.ga K x)) "__getattribute__") (some (some (.builtin "type.__getattribute__"))) && (He5.wrapB K (He.ga K x) "classmethod" "classmethod.__get__" m && fnIn K (He5.wf K (He.ga K x) "classmethod" m)))
  | .dfl w x d => dB K d (.ref (kwAt w x K))
  | .sf x => PySem.W.selfFirst K (He.ga K x)
  | .fld x f => xfB K (He.ga K x) && He.eqO (findIn K (.ref (He.ga K x)) f) (some none)
section
variable {K : PySem.W.Frag} {cl : Nat → Option (Addr × List Str)} {x y f : Str} {n : String} {b : Bool} {ci cj j : Nat} {nm nm2 : List Str}
theorem ecc_ok (h : (XF.ecc x).ok K = true) : ExcC K (He.ga K x) := by
  obtain ⟨h1, h⟩ := He.ba h
  obtain ⟨h2, h⟩ := He.ba h
  obtain ⟨h3, h⟩ := He.ba h
  obtain ⟨h4, h⟩ := He.ba h
  obtain ⟨h5, h⟩ := He.ba h
  obtain ⟨h6, h⟩ := He.ba h
  obtain ⟨h7, h8⟩ := He.ba h
  exact ⟨He.eqO_ok h1, He.eqO_ok h2, of_decide_eq_true h3, h4, He.eqO_ok h5, He.eqO_ok h6, of_decide_eq_true h7, of_decide_eq_true h8⟩
theorem isT_ok (h : (XF.isT x y b).ok K = true) (e : (XF.ecc x).ok K = true) (h1 : cl ci = some (He.ga K x, nm)) (h2 : cl cj = some (He.ga K y, nm2)) (hj : cj ≠ xix := by decide) : IsT K ⟨K, cl⟩ ci (.cls cj) b :=
  ⟨_, nm, h1, ecc_ok e, .inl ⟨cj, _, nm2, rfl, hj, h2, of_decide_eq_true h⟩⟩
theorem isTy_ok (h : (XF.isTy x n b).ok K = true) (e : (XF.ecc x).ok K = true) (h1 : cl ci = some (He.ga K x, nm)) : IsT K ⟨K, cl⟩ ci (.ty n) b :=
  ⟨_, nm, h1, ecc_ok e, .inr ⟨n, rfl, of_decide_eq_true h⟩⟩
theorem fld_ok (h : (XF.fld x f).ok K = true) (h1 : cl ci = some (He.ga K x, nm)) (hj : nm[j]? = some f := by rfl) (hn : nm.Nodup := by decide +kernel) : XfT K ⟨K, cl⟩ ci f j := by
  obtain ⟨h3, h4⟩ := He.ba h
  exact ⟨_, nm, h1, hj, hn, xfB_ok h3, He.eqO_ok h4⟩
theorem cme_ok {m : Str} (h : (XF.cme x m).ok K = true) : ClX.CRead K (He.ga K x) (.type "type") ∧ ClX.CMet K (He.ga K x) (.type "type") m (He.ma K (He.ga K x) m) (He5.wf K (He.ga K x) "classmethod" m) := by
  obtain ⟨h1, h⟩ := He.ba h
  obtain ⟨h2, h⟩ := He.ba h
  obtain ⟨h3, h4⟩ := He.ba h
  exact ⟨⟨h1, He.eqO_ok h2⟩, He5.cmet_of h3 h4⟩
theorem dfl_ok {w : Wh} {d : D} (h : (XF.dfl w x d).ok K = true) (G : Hp) : RD ⟨K, cl⟩ G d (.ref (kwAt w x K)) := by
  obtain ⟨v, r, z⟩ := dB_ok (cl := cl) (show dB K d (.ref (kwAt w x K)) = true from h)
  cases v <;> simp only [RelV] at r <;> first | (cases r; done) | skip
  all_goals first | (obtain ⟨t, r⟩ := r; cases r; done) | (cases r; exact z G)
theorem raO_ok {mg : Str → Option Value} (h : (He.Fa.exc x).ok K = true) (hg : mg x = some (.ref (He.ga K x))) (h1 : cl ci = some (He.ga K x, [])) : RaO K mg ⟨K, cl⟩ x ci := by
  obtain ⟨a, b, c, d⟩ := He.exc_ok h
  exact ⟨_, h1, a, hg, b, c, d⟩
end
def sameC : D → D → Bool
  | .cls i, .cls j => i == j
  | .ty m, .ty n => m == n
  | _, _ => false
def xtabOf (l : List ((Nat × D) × Bool)) (ce : Nat) (t : D) : Option Bool := match l.find? fun p => p.1.1 == ce && sameC p.1.2 t with
  | some p => some p.2
  | none => none
theorem xtab_ok {K : PySem.W.Frag} {k : Kn} {l : List ((Nat × D) × Bool)} (h : ∀ p, p ∈ l → IsT K k p.1.1 p.1.2 p.2) : ∀ ci t b, xtabOf l ci t = some b → IsT K k ci t b := fun ci t b e => by
  unfold xtabOf at e
  cases hf : l.find? fun p => p.1.1 == ci && sameC p.1.2 t with
  | none => rw [hf] at e; cases e
  | some p =>
    rw [hf] at e
    cases e
    have hp := h p (List.mem_of_find?_eq_some hf)
    have hq := List.find?_some hf
    simp only [Bool.and_eq_true, beq_iff_eq] at hq
    obtain ⟨h1, h2⟩ := hq
    obtain ⟨⟨ce, t2⟩, b⟩ := p
    dsimp only at h1 h2 hp ⊢
    subst h1
    cases t2 <;> cases t <;> first | (cases h2; done) | (simp only [sameC, beq_iff_eq] at h2; subst h2; exact hp)
def mtOf (l : List (Nat × Bool)) (ci : Nat) : Option Bool := l.lookup ci
structure TryC (K : PySem.W.Frag) (mg : Str → Option Value) (k : Kn) (x : Str) (mt : Nat → Option Bool) : Prop where
  ex : ∃ cv, mg x = some cv ∧ ∀ ci b, mt ci = some b → ∃ C nm, k.cl ci = some (C, nm) ∧ PySem.W.exmOne K (.ref C) cv = some b
theorem tryC_ok {K : PySem.W.Frag} {mg : Str → Option Value} {k : Kn} {x : Str} {l : List (Nat × Bool)} {cv : Value} (hm : mg x = some cv) (h : ∀ p, p ∈ l → ∃ C nm, k.cl p.1 = some (C, nm) ∧ PySem.W.exmOne K (.ref C) cv = some p.2) : TryC K mg k x (mtOf l) :=
  ⟨cv, hm, fun ci b e => by
    unfold mtOf at e
    have key : ∀ {l : List (Nat × Bool)}, l.lookup ci = some b → (ci, b) ∈ l := fun {l} => by
      induction l with
      | nil => intro h; cases h
      | cons p l ih =>
        intro h
        obtain ⟨c, d⟩ := p
        by_cases hc : ci = c
        · subst hc; simp [List.lookup] at h; subst h; simp
        · have : (ci == c) = false := by simpa using hc
          simp only [List.lookup, this] at h
          exact List.mem_cons_of_mem _ (ih h)
    exact h _ (key e)⟩
section
variable {X : Cx} {c : Cf} {pos : Pos} {s : FS} {as bs : List Nat}
end
theorem takes0 {X : Cx} : L2N.Takes X (liftX E0) := fun _ _ ⟨_, _, _, _, _, _, _, _, _, _, _, _, _, _, _, _, w⟩ => w.elim
abbrev AlV : Type := AlZ × (Bool × List FnS)
structure Fv where
  y : Fy
  ts : List TabI
  xs : List XF
  ss : List Sx
  file : Str
def obsV (x : Fv) (fn : List Dx) (K : PySem.W.Frag) : AlV := (obsZ x.y x.ts fn K, (x.xs.all fun f => f.ok K) && x.ss.all fun s => supB x.file K s, x.ss.map fun s => seenS K s.x)
def valHV (x : Fv) (fn : List Dx) (w : World) : AlV := (valZ x.ts fn w, true, x.ss.map fun s => s.val)
def SaysV (x : Fv) (fn : List Dx) (w : World) (K : PySem.W.Frag) : Prop := obsV x fn K = valHV x fn w
section
variable {x : Fv} {fn : List Dx} {K : PySem.W.Frag} {w : World}
theorem SaysV.z (c : SaysV x fn w K) : SaysZ x.y x.ts fn w K := congrArg (fun z : AlV => z.1) c
theorem SaysV.both (c : SaysV x fn w K) : ((x.xs.all fun f => f.ok K) && x.ss.all fun s => supB x.file K s) = true := congrArg (fun z : AlV => z.2.1) c
theorem SaysV.xf (c : SaysV x fn w K) (i : Nat) {f : XF} (h : x.xs[i]? = some f := by rfl) : f.ok K = true := List.all_eq_true.mp (He.ba c.both).1 f (List.mem_of_getElem? h)
theorem SaysV.sx (c : SaysV x fn w K) (i : Nat) {s : Sx} (h : x.ss[i]? = some s := by rfl) : supB x.file K s = true ∧ seenS K s.x = s.val := by
  refine ⟨List.all_eq_true.mp (He.ba c.both).2 s (List.mem_of_getElem? h), ?_⟩
  have e : x.ss.map (fun s => seenS K s.x) = x.ss.map fun s => s.val := congrArg (fun z : AlV => z.2.2) c
  have e2 := congrArg (fun l : List FnS => l[i]?) e
  simp only [List.getElem?_map, h, Option.map_some, Option.some.injEq] at e2
  exact e2
end
end M
set_option Elab.async false
set_option linter.all false
set_option maxRecDepth 100000
set_option maxHeartbeats 4000000
namespace M
open PySem L2
def obsVL (as : List Addr) (x : Fv) (fn : List Dx) (g : Addr → Option Obj) : AlV := obsV x fn (He.frG g as)
def hookVL (as : List Addr) (x : Fv) (fn : List Dx) : PySem.W.Hook where
  α := AlV
  obs := fun s => obsVL as x fn s.heap.get?
  val := fun w => valHV x fn w
  says := fun w h => ∃ K : PySem.W.Frag, K.In h ∧ SaysV x fn w K
  of := fun _ _ e => ⟨_, He.frG_in, e⟩
  keeps := fun _ _ _ ⟨K, hK, c⟩ k => ⟨K, PySem.W.Frag.In.keeps hK k, c⟩
theorem obsVL_eq {as : List Addr} {x : Fv} {fn : List Dx} {g : Addr → Option Obj} {s : Shared} (h : ∀ a, g a = s.heap.get? a) : obsVL as x fn g = (hookVL as x fn).obs s := by
  have q : g = s.heap.get? := funext h
  subst q; rfl
def mpV : List Dx → List He.FnW
  | [] => []
  | d :: r => d.d.val :: mpV r
theorem mpV_eq : ∀ l : List Dx, mpV l = l.map fun d => d.d.val
  | [] => rfl
  | d :: r => by rw [mpV, mpV_eq r]; rfl
def mpT (w : World) : List TabI → List (Option (List (Option (Str × Int))))
  | [] => []
  | t :: r => some (He.keysIn w.params (t.2.map (·.1))) :: mpT w r
theorem mpT_eq (w : World) : ∀ l : List TabI, mpT w l = l.map fun t => some (He.keysIn w.params (t.2.map (·.1)))
  | [] => rfl
  | d :: r => by rw [mpT, mpT_eq w r]; rfl
def mpS : List Sx → List FnS
  | [] => []
  | d :: r => d.val :: mpS r
theorem mpS_eq : ∀ l : List Sx, mpS l = l.map fun s => s.val
  | [] => rfl
  | d :: r => by rw [mpS, mpS_eq r]; rfl
def valL (x : Fv) (fn : List Dx) (w : World) : AlV := (((true, mpV fn), mpT w x.ts), true, mpS x.ss)
theorem valL_eq (x : Fv) (fn : List Dx) (w : World) : valL x fn w = valHV x fn w := by
  unfold valL valHV valZ
  rw [mpV_eq, mpT_eq, mpS_eq]
end M
set_option Elab.async false
set_option linter.all false
set_option maxRecDepth 100000
set_option maxHeartbeats 0
namespace Pf
open PySem L2 M
def topS (i : Nat) : Stmt := PySem.Challenge.pw_firstbreach_k05_invalid_parts.main.body.getD i (.Pass ⟨0, 0, 0, 0⟩)
def clsB : Stmt → List Stmt
  | .ClassDef _ _ _ b .. => b
  | _ => []
def clsS (i j : Nat) : Stmt := (clsB (topS i)).getD j (.Pass ⟨0, 0, 0, 0⟩)
def gv_MOST_NODES : D := .int 2
def gv_LONGEST_PLAN : D := .int 4
def gv_ENTRIES : D := .tup [.str "", .str "a", .str "b", .str "c", .str "ab", .str "ac", .str "bc", .str "abc"]
def gv_LONGEST_TIME : D := .int 8
def gv_ORDERS : D := .tup [.str "first", .str "last", .str "dues"]
def gv_RULES : D := .tup [.str "ceil", .str "lend"]
def gv_MOST_STATES : D := .int 5000
def gv_MOST_TASKS : D := .int 3
def gv_DOORS : D := .tup [.str "open", .str "shut"]
def gv_GUARDS : D := .tup [.str "after", .str "cut", .str "trust"]
def gv_MOST_WEIGHT : D := .int 100000
abbrev st_check_nodes : Stmt := topS 16
abbrev st_check_edges : Stmt := topS 17
abbrev st_Task : Stmt := clsS 15 0
abbrev st_Task_plain : Stmt := clsS 15 1
abbrev st_Task_serving : Stmt := clsS 15 2
abbrev st_Task_server : Stmt := clsS 15 3
abbrev st_Task_cap : Stmt := clsS 15 4
abbrev st_Choice : Stmt := clsS 21 0
abbrev st_check_supply : Stmt := topS 35
abbrev st_moves_of : Stmt := topS 36
abbrev st_Supply : Stmt := clsS 34 0
abbrev st_Supply_always : Stmt := clsS 34 2
abbrev st_weight_of : Stmt := topS 30
abbrev st_Core : Stmt := clsS 29 0
abbrev st__law_cell : Stmt := topS 40
abbrev st__law_draws : Stmt := topS 41
abbrev st__law_kind : Stmt := topS 42
abbrev st__law_task_refused : Stmt := topS 43
abbrev st__law_choice_refused : Stmt := topS 44
abbrev st__law_core_refused : Stmt := topS 45
abbrev st__law_too_large : Stmt := topS 46
abbrev st__law_long : Stmt := topS 47
abbrev st__law_bad_tasks : Stmt := topS 48
abbrev st_law : Stmt := topS 49
def dd_check_nodes : Dx := ⟨.glo "check_nodes", ⟨("", none), "check_nodes", "check_nodes", defArgs st_check_nodes, defBody st_check_nodes, defScope st_check_nodes, [], []⟩⟩
def dd_check_edges : Dx := ⟨.glo "check_edges", ⟨("", none), "check_edges", "check_edges", defArgs st_check_edges, defBody st_check_edges, defScope st_check_edges, [], []⟩⟩
def dd_Task : Dx := ⟨.met "Task" "__init__", ⟨("", none), "__init__", "Task.__init__", defArgs st_Task, defBody st_Task, defScope st_Task, [], [("steady", .bl false)]⟩⟩
def dd_Task_plain : Dx := ⟨.cme "Task" "plain", ⟨("", none), "plain", "Task.plain", defArgs st_Task_plain, defBody st_Task_plain, defScope st_Task_plain, [], []⟩⟩
def dd_Task_serving : Dx := ⟨.cme "Task" "serving", ⟨("", none), "serving", "Task.serving", defArgs st_Task_serving, defBody st_Task_serving, defScope st_Task_serving, [], []⟩⟩
def dd_Task_server : Dx := ⟨.pro "Task" "server", ⟨("", none), "server", "Task.server", defArgs st_Task_server, defBody st_Task_server, defScope st_Task_server, [], []⟩⟩
def dd_Task_cap : Dx := ⟨.met "Task" "cap", ⟨("", none), "cap", "Task.cap", defArgs st_Task_cap, defBody st_Task_cap, defScope st_Task_cap, [], []⟩⟩
def dd_Choice : Dx := ⟨.met "Choice" "__init__", ⟨("", none), "__init__", "Choice.__init__", defArgs st_Choice, defBody st_Choice, defScope st_Choice, [.str "first"], []⟩⟩
def dd_check_supply : Dx := ⟨.glo "check_supply", ⟨("", none), "check_supply", "check_supply", defArgs st_check_supply, defBody st_check_supply, defScope st_check_supply, [], []⟩⟩
def dd_moves_of : Dx := ⟨.glo "moves_of", ⟨("", none), "moves_of", "moves_of", defArgs st_moves_of, defBody st_moves_of, defScope st_moves_of, [], []⟩⟩
def dd_Supply : Dx := ⟨.met "Supply" "__init__", ⟨("", none), "__init__", "Supply.__init__", defArgs st_Supply, defBody st_Supply, defScope st_Supply, [], [("starts", .adr (kwAt (.met "Supply" "__init__") "starts"))]⟩⟩
def dd_Supply_always : Dx := ⟨.cme "Supply" "always", ⟨("", none), "always", "Supply.always", defArgs st_Supply_always, defBody st_Supply_always, defScope st_Supply_always, [], []⟩⟩
def dd_weight_of : Dx := ⟨.glo "weight_of", ⟨("", none), "weight_of", "weight_of", defArgs st_weight_of, defBody st_weight_of, defScope st_weight_of, [], []⟩⟩
def dd_Core : Dx := ⟨.met "Core" "__init__", ⟨("", none), "__init__", "Core.__init__", defArgs st_Core, defBody st_Core, defScope st_Core, [], [("choice", .non), ("door", .str "shut"), ("guard", .str "cut")]⟩⟩
def dd__law_cell : Dx := ⟨.glo "_law_cell", ⟨("", none), "_law_cell", "_law_cell", defArgs st__law_cell, defBody st__law_cell, defScope st__law_cell, [], []⟩⟩
def dd__law_draws : Dx := ⟨.glo "_law_draws", ⟨("", none), "_law_draws", "_law_draws", defArgs st__law_draws, defBody st__law_draws, defScope st__law_draws, [], []⟩⟩
def dd__law_kind : Dx := ⟨.glo "_law_kind", ⟨("", none), "_law_kind", "_law_kind", defArgs st__law_kind, defBody st__law_kind, defScope st__law_kind, [], []⟩⟩
def dd__law_task_refused : Dx := ⟨.glo "_law_task_refused", ⟨("", none), "_law_task_refused", "_law_task_refused", defArgs st__law_task_refused, defBody st__law_task_refused, defScope st__law_task_refused, [], []⟩⟩
def dd__law_choice_refused : Dx := ⟨.glo "_law_choice_refused", ⟨("", none), "_law_choice_refused", "_law_choice_refused", defArgs st__law_choice_refused, defBody st__law_choice_refused, defScope st__law_choice_refused, [], []⟩⟩
def dd__law_core_refused : Dx := ⟨.glo "_law_core_refused", ⟨("", none), "_law_core_refused", "_law_core_refused", defArgs st__law_core_refused, defBody st__law_core_refused, defScope st__law_core_refused, [], []⟩⟩
def dd__law_too_large : Dx := ⟨.glo "_law_too_large", ⟨("", none), "_law_too_large", "_law_too_large", defArgs st__law_too_large, defBody st__law_too_large, defScope st__law_too_large, [], []⟩⟩
def dd__law_long : Dx := ⟨.glo "_law_long", ⟨("", none), "_law_long", "_law_long", defArgs st__law_long, defBody st__law_long, defScope st__law_long, [], []⟩⟩
def dd__law_bad_tasks : Dx := ⟨.glo "_law_bad_tasks", ⟨("", none), "_law_bad_tasks", "_law_bad_tasks", defArgs st__law_bad_tasks, defBody st__law_bad_tasks, defScope st__law_bad_tasks, [], []⟩⟩
def dd_law : Dx := ⟨.glo "law", ⟨("", none), "law", "law", defArgs st_law, defBody st_law, defScope st_law, [], []⟩⟩
abbrev st_TooLarge : Stmt := clsS 8 0
def sx_TooLarge : Sx := ⟨"TooLarge", ["bound"], "TooLarge.__init__", defArgs st_TooLarge, defBody st_TooLarge, defScope st_TooLarge⟩
def fn : List Dx := [dd_check_nodes, dd_check_edges, dd_Task, dd_Task_plain, dd_Task_serving, dd_Task_server, dd_Task_cap, dd_Choice, dd_check_supply, dd_moves_of, dd_Supply, dd_Supply_always, dd_weight_of, dd_Core, dd__law_cell, dd__law_draws, dd__law_kind, dd__law_task_refused, dd__law_choice_refused, dd__law_core_refused, dd__law_too_large, dd__law_long, dd__law_bad_tasks, dd_law]
def ftab : List TabI := []
def fx : Fy := ⟨[.glo "check_nodes", .glo "check_edges", .glo "check_supply", .glo "moves_of", .glo "weight_of", .glo "_law_cell", .glo "_law_draws", .glo "_law_kind", .glo "_law_task_refused", .glo "_law_choice_refused", .glo "_law_core_refused", .glo "_law_too_large", .glo "_law_long", .glo "_law_bad_tasks", .glo "law", .free "ValueError", .free "abs", .free "all", .free "any", .free "enumerate", .free "int", .free "isinstance", .free "len", .free "list", .free "max", .free "min", .free "range", .free "set", .free "sorted", .free "sum", .free "tuple", .glo "Task", .cls "Task", .mkr "Task", .noat "Task" "nodes", .noat "Task" "edges", .noat "Task" "steady", .noat "Task" "caps", .glo "Choice", .cls "Choice", .mkr "Choice", .noat "Choice" "order", .noat "Choice" "rules", .glo "Supply", .cls "Supply", .mkr "Supply", .noat "Supply" "size", .noat "Supply" "steps", .noat "Supply" "starts", .noat "Supply" "moves", .glo "Core", .cls "Core", .mkr "Core", .noat "Core" "supply", .noat "Core" "tasks", .noat "Core" "choice", .noat "Core" "door", .noat "Core" "guard", .noat "Core" "weight", .noat "Core" "parties", .meth "Task" "cap", .glo "InvalidTask", .glo "InvalidChoice", .glo "InvalidSupply", .glo "InvalidCore", .glo "TooLarge", .glo "BreachError", .exc "InvalidTask", .exm "InvalidTask" "BreachError" true, .exm "InvalidTask" "TooLarge" false, .exc "InvalidChoice", .exm "InvalidChoice" "BreachError" true, .exm "InvalidChoice" "TooLarge" false, .exc "InvalidSupply", .exm "InvalidSupply" "BreachError" true, .exm "InvalidSupply" "TooLarge" false, .exc "InvalidCore", .exm "InvalidCore" "BreachError" true, .exm "InvalidCore" "TooLarge" false, .exm "TooLarge" "BreachError" true, .exm "TooLarge" "TooLarge" true], [("MOST_NODES", gv_MOST_NODES), ("LONGEST_PLAN", gv_LONGEST_PLAN), ("ENTRIES", gv_ENTRIES), ("LONGEST_TIME", gv_LONGEST_TIME), ("ORDERS", gv_ORDERS), ("RULES", gv_RULES), ("MOST_STATES", gv_MOST_STATES), ("MOST_TASKS", gv_MOST_TASKS), ("DOORS", gv_DOORS), ("GUARDS", gv_GUARDS), ("MOST_WEIGHT", gv_MOST_WEIGHT)], [], [("Task", "server")]⟩
def fv : Fv := ⟨fx, ftab, [.ecc "InvalidTask", .isT "InvalidTask" "InvalidTask" true, .isT "InvalidTask" "InvalidChoice" false, .isT "InvalidTask" "InvalidCore" false, .isT "InvalidTask" "TooLarge" false, .isT "InvalidTask" "InvalidSupply" false, .isT "InvalidTask" "BreachError" true, .isTy "InvalidTask" "ValueError" true, .ecc "InvalidChoice", .isT "InvalidChoice" "InvalidTask" false, .isT "InvalidChoice" "InvalidChoice" true, .isT "InvalidChoice" "InvalidCore" false, .isT "InvalidChoice" "TooLarge" false, .isT "InvalidChoice" "InvalidSupply" false, .isT "InvalidChoice" "BreachError" true, .isTy "InvalidChoice" "ValueError" true, .ecc "InvalidSupply", .isT "InvalidSupply" "InvalidTask" false, .isT "InvalidSupply" "InvalidChoice" false, .isT "InvalidSupply" "InvalidCore" false, .isT "InvalidSupply" "TooLarge" false, .isT "InvalidSupply" "InvalidSupply" true, .isT "InvalidSupply" "BreachError" true, .isTy "InvalidSupply" "ValueError" true, .ecc "InvalidCore", .isT "InvalidCore" "InvalidTask" false, .isT "InvalidCore" "InvalidChoice" false, .isT "InvalidCore" "InvalidCore" true, .isT "InvalidCore" "TooLarge" false, .isT "InvalidCore" "InvalidSupply" false, .isT "InvalidCore" "BreachError" true, .isTy "InvalidCore" "ValueError" true, .ecc "TooLarge", .isT "TooLarge" "InvalidTask" false, .isT "TooLarge" "InvalidChoice" false, .isT "TooLarge" "InvalidCore" false, .isT "TooLarge" "TooLarge" true, .isT "TooLarge" "InvalidSupply" false, .isT "TooLarge" "BreachError" true, .isTy "TooLarge" "ValueError" true, .cme "Task" "plain", .cme "Task" "serving", .dfl (.met "Supply" "__init__") "starts" (.tup [.int 0]), .cme "Supply" "always", .fld "TooLarge" "bound"], [sx_TooLarge], "/claim/cut.py"⟩
def clK (K : PySem.W.Frag) : Nat → Option (Addr × List Str) := fun i => if i = 4 then some (He.ga K "Task", ["nodes", "edges", "steady", "caps"]) else if i = 5 then some (He.ga K "Choice", ["order", "rules"]) else if i = 3 then some (He.ga K "Supply", ["size", "steps", "starts", "moves"]) else if i = 6 then some (He.ga K "Core", ["supply", "tasks", "choice", "door", "guard", "weight", "parties"]) else if i = 204 then some (He.ga K "InvalidTask", []) else if i = 205 then some (He.ga K "InvalidChoice", []) else if i = 202 then some (He.ga K "InvalidSupply", []) else if i = 206 then some (He.ga K "InvalidCore", []) else if i = 212 then some (He.ga K "TooLarge", ["bound"]) else if i = 200 then some (He.ga K "BreachError", []) else none
def looseN : List Str := (["_wall", "BreachError", "InvalidSupply", "NothingCommon", "InvalidTask", "InvalidChoice", "InvalidCore", "TooLarge", "BadRow", "ENTRIES", "MOST_NODES", "LONGEST_PLAN", "LONGEST_TIME", "Task", "check_nodes", "check_edges", "ORDERS", "RULES", "Choice", "uses", "blocked_by", "MOST_TASKS", "MOST_WEIGHT", "DOORS", "GUARDS", "Core", "weight_of", "older", "MOST_STATES", "Supply"] : List Str) ++ (["check_supply", "moves_of", "joint_steps", "both", "_law_cell", "_law_draws", "_law_kind", "_law_task_refused", "_law_choice_refused", "_law_core_refused", "_law_too_large", "_law_long", "_law_bad_tasks"] : List Str)
abbrev Rw : PySem.W.OpenRow := PySem.W.OpenLaw.row PySem.Challenge.rw_firstbreach_k05_invalid_parts
end Pf
set_option Elab.async false
set_option linter.all false
set_option maxRecDepth 100000
set_option maxHeartbeats 0
namespace Pf
open PySem L2 M
def asL : List Addr := [2, 3, 6, 4, 21, 31, 44, 56, 68, 80, 92, 113, 134, 137, 217, 226, 231, 232, 233, 276, 285, 292, 293, 294, 413, 422, 429, 509, 518, 525, 530, 535, 542, 549, 556, 563, 570, 577, 584, 589, 596, 601, 0, 20, 30, 43, 55, 67, 79, 91, 112, 133, 216, 225, 230, 275, 284, 291, 412, 421, 428, 508, 517, 524, 529, 534, 541, 548, 555, 562, 569, 576, 583, 588, 595, 600, 15, 16, 17, 18, 19, 29, 32, 42, 54, 66, 78, 90, 110, 111, 131, 132, 150, 159, 169, 178, 185, 192, 197, 204, 209, 214, 215, 218, 219, 222, 223, 224, 227, 228, 229, 246, 251, 256, 261, 266, 273, 274, 277, 278, 281, 282, 283, 286, 287, 288, 289, 290, 307, 314, 322, 329, 336, 343, 348, 355, 360, 367, 374, 381, 388, 395, 402, 410, 411, 414, 415, 418, 419, 420, 423, 424, 425, 426, 427, 443, 452, 462, 468, 475, 482, 489, 494, 501, 506, 507, 510, 511, 514, 515, 516, 519, 520, 521, 522, 523, 526, 527, 528, 531, 532, 533, 536, 537, 538, 539, 540, 543, 544, 545, 546, 547, 550, 551, 552, 553, 554, 557, 558, 559, 560, 561, 564, 565, 566, 567, 568, 571, 572, 573, 574, 575, 578, 579, 580, 581, 582, 585, 586, 587, 590, 591, 592, 593, 594, 597, 598, 599, 109, 98, 130, 119, 149, 145, 157, 158, 167, 168, 177, 184, 191, 196, 203, 208, 213, 245, 241, 250, 255, 260, 265, 272, 306, 302, 313, 321, 315, 328, 335, 342, 347, 354, 359, 366, 373, 380, 387, 394, 401, 409, 403, 442, 438, 450, 451, 460, 461, 467, 474, 481, 488, 493, 500, 505, 104, 105, 106, 107, 108, 125, 126, 127, 128, 129, 146, 147, 148, 156, 160, 166, 170, 176, 179, 180, 181, 182, 183, 186, 187, 188, 189, 190, 193, 194, 195, 198, 199, 200, 201, 202, 205, 206, 207, 210, 211, 212, 242, 243, 244, 247, 248, 249, 252, 253, 254, 257, 258, 259, 262, 263, 264, 267, 268, 269, 270, 271, 303, 304, 305, 308, 309, 310, 311, 312, 316, 317, 318, 319, 320, 323, 324, 325, 326, 327, 330, 331, 332, 333, 334, 337, 338, 339, 340, 341, 344, 345, 346, 349, 350, 351, 352, 353, 356, 357, 358, 361, 362, 363, 364, 365, 368, 369, 370, 371, 372, 375, 376, 377, 378, 379, 382, 383, 384, 385, 386, 389, 390, 391, 392, 393, 396, 397, 398, 399, 400, 404, 405, 406, 407, 408, 439, 440, 441, 437, 449, 453, 459, 463, 464, 465, 466, 469, 470, 471, 472, 473, 476, 477, 478, 479, 480, 483, 484, 485, 486, 487, 490, 491, 492, 495, 496, 497, 498, 499, 502, 503, 504]
abbrev hk : PySem.W.Hook := hookVL asL fv fn
def ob (s : PySem.W.SharedT) : AlV := obsVL asL fv fn (HandSHeadRun.getT s)
theorem ob_eq (s : PySem.W.SharedT) : ob s = hk.obs s.abs := obsVL_eq (HandSHeadRun.getT_eq s)
theorem runParts {σ α β γ : Type} {x : Option σ} {f1 : σ → α} {f2 : σ → β} {f3 : σ → γ} {a : α} {b : β} {c : γ} (h1 : x.map (fun s => (f1 s, f2 s)) = some (a, b)) (h2 : x.map (fun s => f3 s) = some c) : x.map (fun s => (f1 s, f2 s, f3 s)) = some (a, b, c) := by
  cases x with
  | none => cases h1
  | some s =>
    have e1 : (f1 s, f2 s) = (a, b) := Option.some.inj h1
    have e2 : f3 s = c := Option.some.inj h2
    cases e1; cases e2; rfl
section
open HandSHeadRun PySem.W
theorem run2 (w : World) (os : OsState) : (endF (stepQ (denQ tabQ) Rw.prog w) 20000 Rw.prog w os).map (fun s => ob s) = some (valL fv fn w) := by kernel_rfl
theorem run1 (w : World) (os : OsState) : (endF (stepQ (denQ tabQ) Rw.prog w) 20000 Rw.prog w os).map (fun s => (looksF Rw.prog (boot_heap w.params) s.abs, seenQ (PySem.W.view Rw.prog [49]) looseN (importedModules Rw.prog.main.body) (fun s => xlAt (PySem.W.view Rw.prog [49]) [] s && recOk Rw.toRowW.records s) s.abs)) = some (true, openGood (PySem.W.view Rw.prog [49]) looseN) := by kernel_rfl
theorem run (w : World) : RunEq Rw (PySem.W.view Rw.prog [49]) hk ob 20000 looseN w := fun os => runParts (run1 w os) ((run2 w os).trans (by rw [valL_eq]; rfl))
end
end Pf
set_option Elab.async false
set_option linter.all false
set_option maxRecDepth 100000
set_option maxHeartbeats 4000000
namespace M
open PySem L2
section
variable {X : Cx} {c : Cf} {a b e o : Expr} {f g h : FE} {pos apos : Pos} {x : Str} {den : List D → R D}
theorem d_callXS {lv m n : Nat} {p : Pos} {es : List Expr} {fa : FA} (F : CalleeX X.prog X.w X.K X.mg X.base c.k lv x n false den) (hr : Room m X.A) (hle : lv ≤ m) (tk : L2N.Takes X c.W) (ha : PA' X c false (e :: es) fa) (hl : Len n fa) (hg : Gl X x := by rfl) (hdb : (x == ("__debug__" : Str)) = false := by decide)
    (hs : starEach (e :: es) X.env = (false, eval e X.env) :: starEach es X.env := by rfl) (hs2 : ((backTo pos (starEach es X.env)).any fun x => x.1) = false := by rfl) : PE' X c .st (.Call (.Name x p) (e :: es) [] pos) (eCX den fa) := d_callX F hr hle tk ha hl hg hdb hs hs2
end
end M
set_option Elab.async false
set_option linter.all false
set_option maxRecDepth 100000
set_option maxHeartbeats 4000000
namespace M
open PySem L2
structure MakerXD (P : Program) (w : World) (K : PySem.W.Frag) (mg : Str → Option Value) (base : Heap) (k : Kn) (lv : Nat) (x : Str) (ci n : Nat) (dd : List D) (den : List D → R D) : Prop where
  ex : ∃ (C f : Addr) (fd : FuncData) (ps nm : List Str) (dvs : List V) (ds : List Value), k.cl ci = some (C, nm) ∧ Mk K C f ∧ FnOk P w K mg base (L2N.CX P w) lv f fd ps (SpN k ci (n + dd.length + 1) den) ∧ mg x = some (.ref C) ∧ Binds K fd ps ds ∧ Vals dvs ds ∧ ∀ G, RDs k G dd dvs
structure CmethX (P : Program) (w : World) (K : PySem.W.Frag) (mg : Str → Option Value) (base : Heap) (k : Kn) (lv : Nat) (ci : Nat) (m : Str) (n : Nat) (fr : Bool) (den : List D → R D) : Prop where
  ex : ∃ (C p g : Addr) (mc : Value) (fd : FuncData) (ps nm : List Str), ps.length = n ∧ k.cl ci = some (C, nm) ∧ ClX.CRead K C mc ∧ ClX.CMet K C mc m p g ∧ FnOk P w K mg base (L2N.CX P w) lv g fd ps (SpF k fr n den) ∧ Binds K fd ps []
section
variable {X : Cx} {c : Cf} {kd k1 k2 k3 : Kd} {a b e o : Expr} {f g h : FE} {pos apos : Pos} {fr : Bool} {x : Str} {den : List D → R D} {ci : Nat}
theorem run_makeSD {CX : CXT} {k : Nat} {C f : Addr} {fd : FuncData} {ps : List Str} {sp : Sp} {E : XK} {pins : List (Addr × Obj)} {σ : L2.St} {H : Hp} {s : Shared} {Q : VK} {us ds : List Value} {vs dvs : List V} (Mm : Mk X.K C f) (F : FnOk X.prog X.w X.K X.mg X.base CX k f fd ps sp) (hr : Room (k + 1) X.A) (hb : Binds X.K fd ps ds) (hd : Vals dvs ds)
    (hx : ∀ (H : Hp) (s : Shared) (e : Value) (s' : Shared), L2.Inv X pins σ H s → CX X.stack H s E e s' → X.xe e s') (I : L2.Inv X pins σ H s) (r : Vals vs us)
    (h : ∀ x dx, H x = none → H dx = none → dx ≠ x → sp (.ref x :: (vs ++ dvs)) (upd (upd H dx (.own x)) x (.ins C dx [])) (fun v H2 => v = .non ∧ Q (.ref x) H2) E) :
    wpAny (model X.prog X.w) X.A (call (.ref C) us) (EP X pins σ Q) X.xe s := by
  have hq := h (s.heap.objs.size + 1) s.heap.objs.size (I.hok.fresh (Nat.le_succ _)) (I.hok.fresh (Nat.le_refl _)) (Nat.ne_of_lt (Nat.lt_succ_self _))
  have I2 := L2.Inv.made (C := C) I
  have r2 : Vals (V.ref (s.heap.objs.size + 1) :: (vs ++ dvs)) (Value.ref (s.heap.objs.size + 1) :: (us ++ ds)) := .cons rfl (r.append hd)
  have hl : (Value.ref (s.heap.objs.size + 1) :: (us ++ ds)).length = ps.length := by
    have e := r2.length
    rw [F.len _ _ _ _ hq] at e
    exact e.symm
  have bb := hb _ (Value.ref (s.heap.objs.size + 1) :: us) I2.kIn (by rw [← hl]; rfl)
  have bb : BindsTo _ fd ⟨Value.ref (s.heap.objs.size + 1) :: us, []⟩ (ps.zip (Value.ref (s.heap.objs.size + 1) :: (us ++ ds))) := bb
  refine wpAny_call (make_map (f := f) I.kIn Mm.makes Mm.init (beq_iff_eq.mp Mm.fn) (codeAny_mono (F.run _ X.stack _ _ ⟨Value.ref (s.heap.objs.size + 1) :: us, []⟩ (Value.ref (s.heap.objs.size + 1) :: (us ++ ds)) _ _ E (hr.make C us [])
    (I2.env0.make C us []) bb r2 hq) fun r s' hq' => ?_))
  cases r with
  | error e => exact hx _ _ e s' I2 hq'
  | ok fl =>
    cases fl with
    | ret u =>
      obtain ⟨v, H', I3, rv, ev, q3⟩ := I2.after hq'
      subst ev
      exact ⟨rv, ⟨V.ref (s.heap.objs.size + 1), H', I3, rfl, q3⟩⟩
    | next => exact False.elim hq'
    | brk => exact False.elim hq'
    | cont => exact False.elim hq'
def tMakeSD (C : Addr) (sp : Sp) (dvs : List V) (E : L2.St → XK) (t : TA) : TE := fun σ H Q => t σ H fun vs H1 => ∀ x dx, H1 x = none → H1 dx = none → dx ≠ x → sp (.ref x :: (vs ++ dvs)) (upd (upd H1 dx (.own x)) x (.ins C dx [])) (fun v H2 => v = .non ∧ Q (.ref x) H2) (E σ)
theorem pe_makeSD {CX : CXT} {E : L2.St → XK} {k : Nat} {C f : Addr} {fd : FuncData} {ps : List Str} {sp : Sp} {p : Pos} {es : List Expr} {t : TA} {dvs : List V} {ds : List Value} (Mm : Mk X.K C f) (F : FnOk X.prog X.w X.K X.mg X.base CX k f fd ps sp) (hr : Room (k + 1) X.A) (hg : Gl X x) (hm : X.mg x = some (.ref C)) (hb : Binds X.K fd ps ds) (hd : Vals dvs ds) (hx : ∀ σ, PassesAt CX X σ (E σ))
    (ha : PA X (e :: es) t) (hdb : (x == ("__debug__" : Str)) = false := by decide) (he : starEach (e :: es) X.env = (false, eval e X.env) :: starEach es X.env := by rfl) (hpl : (backTo pos (starEach es X.env)).any (·.1) = false := by rfl) :
    PE X (.Call (.Name x p) (e :: es) [] pos) (tMakeSD C sp dvs E t) := by
  refine ⟨fun pins s σ H Q I h => ?_⟩
  refine wpAny_Call_Name_kw (ld_glob I hg hm ?_ hdb)
  refine PySem.W.callWith_K (h₀ := X.base) I.ok.mod.kin Mm.kp (thn (ha.run pos pins s σ H _ I h) fun us s1 ⟨vs, H1, I1, r, q⟩ => ⟨I1.kIn, ?_⟩) he hpl
  exact run_makeSD Mm F hr hb hd (fun H s e s' => hx σ pins H s e s') I1 r q
def tMakeSL (i : Nat) (C : Addr) (sp : Sp) (dvs : List V) (E : L2.St → XK) (t : TA) : TE := fun σ H Q => σ[i]? = some (some (.ref C)) ∧ tMakeSD C sp dvs E t σ H Q
theorem pe_makeSL {CX : CXT} {E : L2.St → XK} {i k : Nat} {C f : Addr} {fd : FuncData} {ps : List Str} {sp : Sp} {p : Pos} {es : List Expr} {t : TA} {dvs : List V} {ds : List Value} (Mm : Mk X.K C f) (F : FnOk X.prog X.w X.K X.mg X.base CX k f fd ps sp) (hr : Room (k + 1) X.A) (hN : X.N[i]? = some x) (hv : Vis X.env.scope x) (hb : Binds X.K fd ps ds) (hd : Vals dvs ds) (hx : ∀ σ, PassesAt CX X σ (E σ))
    (ha : PA X (e :: es) t) (hdb : (x == ("__debug__" : Str)) = false := by decide) (hcd : (x == ("__classdict__" : Str)) = false := by decide) (he : starEach (e :: es) X.env = (false, eval e X.env) :: starEach es X.env := by rfl) (hpl : (backTo pos (starEach es X.env)).any (·.1) = false := by rfl) :
    PE X (.Call (.Name x p) (e :: es) [] pos) (tMakeSL i C sp dvs E t) := by
  refine ⟨fun pins s σ H Q I ⟨hs, h⟩ => ?_⟩
  refine wpAny_Call_Name_kw (thn ((pe_var (pos := p) hN hv hdb hcd).run pins s σ H (fun v H1 => v = .ref C ∧ H1 = H) I ⟨.ref C, hs, rfl, rfl⟩) fun u s1 ⟨v, H1, I1, r1, q1⟩ => ?_)
  obtain ⟨rfl, rfl⟩ := q1
  cases r1
  refine PySem.W.callWith_K (h₀ := X.base) I.ok.mod.kin Mm.kp (thn (ha.run pos pins s1 σ _ _ I1 h) fun us s2 ⟨vs, H2, I2, r, q⟩ => ⟨I2.kIn, ?_⟩) he hpl
  exact run_makeSD Mm F hr hb hd (fun H s e s' => hx σ pins H s e s') I2 r q
def eCXD (dd : List D) (o : List D → R D) (g : FA) : FE := fun S => g S >>= fun xs => o (xs ++ dd)
theorem makeXD_go {C : Addr} {nm : List Str} {n : Nat} {fa : FA} {σ : L2.St} {H : Hp} {Q : VK} {dd : List D} {dvs : List V} (hd : ∀ G, RDs c.k G dd dvs) (hcl : c.k.cl ci = some (C, nm)) (hl : Len n fa) (q : RdE c .fr (eCXD dd den fa) σ H Q) :
    RdA c false fa σ H fun vs H1 => ∀ x dx, H1 x = none → H1 dx = none → dx ≠ x → SpN c.k ci (n + dd.length + 1) den (.ref x :: (vs ++ dvs)) (upd (upd H1 dx (.own x)) x (.ins C dx [])) (fun v H2 => v = .non ∧ Q (.ref x) H2) (WE c.W σ) := by
  obtain ⟨G, S, rel, p⟩ := q
  have p : PostE c .fr G S σ H Q (fa S >>= fun ds => den (ds ++ dd)) := p
  refine ⟨G, S, rel, ?_⟩
  cases e0 : fa S with
  | exc x => rw [e0] at p; exact p
  | fail => rw [e0] at p; exact p
  | ok ds =>
    rw [e0] at p
    intro vs G1 H1 s1 q1 x dx hx hdx hne
    have q1 : RDs c.k G1 ds vs := q1
    have q2 : RDs c.k G1 (ds ++ dd) (vs ++ dvs) := q1.append (hd G1)
    have hgx : G1 x = none := s1.gh.free hx
    have ex1 : Ex H1 (upd (upd H1 dx (.own x)) x (.ins C dx [])) := (Ex.new hdx).upd hx
    refine ⟨by simp [← q1.length, hl S ds e0, (hd G1).length], x, vs ++ dvs, G1, ds ++ dd, C, dx, nm, rfl, hcl, upd_same, hgx, s1.gh.trans ex1, q2, ?_⟩
    have p : PostE c .fr G S σ H Q (den (ds ++ dd)) := p
    cases e1 : den (ds ++ dd) with
    | ok d =>
      rw [e1] at p
      intro G' H' o ex hk gh hgx' gr ho ct
      refine ⟨rfl, p _ G' H' (s1.trans ⟨ex, fun b u q => hk b u (ne_of_none q hx) (ex1 b u q), gh, fun b u q => ?_⟩) ⟨x, o, rfl, hgx', s1.h.free hx, ho, ct⟩⟩
      rcases gr b u q with z | z
      · exact .inl z
      · exact .inr (ex1.free z)
    | exc y =>
      rw [e1] at p
      have p : PX c σ y := p
      intro _ cls da G' H' s2 xr
      have exl : Ex H1 (less (upd (upd H1 dx (.own x)) x (.ins C dx [])) x) := fun b u q => by
        rw [less_ne (ne_of_none q hx)]; exact ex1 b u q
      refine p cls da G' H' ((rel.grow s1).st.trans ⟨s2.g, fun b u q => s2.h b u (exl b u q), s2.gh, fun b u q => ?_⟩) xr
      rcases s2.gr b u q with z | z
      · exact .inl z
      · exact .inr (exl.free z)
    | fail => rw [e1] at p; exact p.elim
theorem d_makerXD {lv m' n : Nat} {dd : List D} {p : Pos} {es : List Expr} {fa : FA} (F : MakerXD X.prog X.w X.K X.mg X.base c.k lv x ci n dd den) (hr : Room m' X.A) (hle : lv + 1 ≤ m') (tk : L2N.Takes X c.W) (ha : PA' X c false (e :: es) fa) (hl : Len n fa) (hg : Gl X x := by rfl) (hdb : (x == ("__debug__" : Str)) = false := by decide)
    (hs : starEach (e :: es) X.env = (false, eval e X.env) :: starEach es X.env := by rfl) (hs2 : ((backTo pos (starEach es X.env)).any fun x => x.1) = false := by rfl) : PE' X c .fr (.Call (.Name x p) (e :: es) [] pos) (eCXD dd den fa) := by
  obtain ⟨C, f, fd, ps, nm, dvs, ds, hcl, mk, ok, hm, hb, hd, hdd⟩ := F.ex
  exact peI (pe_makeSD mk ok (hr.mono hle) hg hm hb hd (fun σ => L2N.passAt tk σ) ha hdb hs hs2) fun σ H Q q => makeXD_go hdd hcl hl q
def isClsD (ci : Nat) : D → Bool
  | .cls c => decide (c = ci)
  | _ => false
def eCXL (i ci : Nat) (dd : List D) (o : List D → R D) (g : FA) : FE := fun S => eV i S >>= fun d => if isClsD ci d then eCXD dd o g S else .fail
theorem d_makerXL (i : Nat) {lv m' n : Nat} {dd : List D} {p : Pos} {y : Str} {es : List Expr} {fa : FA} (F : MakerXD X.prog X.w X.K X.mg X.base c.k lv y ci n dd den) (hr : Room m' X.A) (hle : lv + 1 ≤ m') (tk : L2N.Takes X c.W) (ha : PA' X c false (e :: es) fa) (hl : Len n fa) (hN : X.N[i]? = some x := by rfl) (hv : Vis X.env.scope x := by first | exact Or.inl rfl | exact Or.inr (Or.inl rfl) | exact Or.inr (Or.inr rfl)) (hdb : (x == ("__debug__" : Str)) = false := by decide) (hcd : (x == ("__classdict__" : Str)) = false := by decide)
    (hs : starEach (e :: es) X.env = (false, eval e X.env) :: starEach es X.env := by rfl) (hs2 : ((backTo pos (starEach es X.env)).any fun x => x.1) = false := by rfl) : PE' X c .fr (.Call (.Name x p) (e :: es) [] pos) (eCXL i ci dd den fa) := by
  obtain ⟨C, f, fd, ps, nm, dvs, ds, hcl, mk, ok, hm, hb, hd, hdd⟩ := F.ex
  refine peI (pe_makeSL mk ok (hr.mono hle) hN hv hb hd (fun σ => L2N.passAt tk σ) ha hdb hcd hs hs2) fun σ H Q ⟨G, S, rel, q⟩ => ?_
  have q : PostE c .fr G S σ H Q (eV i S >>= fun d => if isClsD ci d then eCXD dd den fa S else .fail) := q
  cases e0 : eV i S with
  | exc x => exact absurd e0 eV_exc
  | fail => rw [e0] at q; exact q.elim
  | ok d =>
    rw [e0, R.ok_bind] at q
    by_cases hd0 : isClsD ci d = true
    · rw [if_pos hd0] at q
      refine ⟨?_, makeXD_go hdd hcl hl ⟨G, S, rel, q⟩⟩
      unfold eV at e0
      split at e0
      · rename_i d' hS
        cases e0
        obtain ⟨v, hσ, hv⟩ := rel.fz i _ hS
        cases d with
        | cls c' =>
          have hc : c' = ci := by simpa [isClsD] using hd0
          subst hc
          cases hv with
          | cls h => rw [hcl] at h; cases h; exact hσ
        | _ => simp [isClsD] at hd0
      · cases e0
    · rw [if_neg hd0] at q; exact q.elim
def tCMethS (C : Addr) (sp : Sp) (E : L2.St → XK) (ta : TE) (t : TA) : TE := fun σ H Q => ta σ H fun x H1 => x = .ref C ∧ t σ H1 fun vs H2 => sp (.ref C :: vs) H2 Q (E σ)
theorem pe_cmethS {CX : CXT} {E : L2.St → XK} {k : Nat} {C p g : Addr} {mc : Value} {fd : FuncData} {ps : List Str} {sp : Sp} {m : Str} {es : List Expr} {ta : TE} {t : TA} {pl : Sem Bool} (he : PE X o ta) (r : ClX.CRead X.K C mc) (cm : ClX.CMet X.K C mc m p g) (F : FnOk X.prog X.w X.K X.mg X.base CX k g fd ps sp) (hr : Room k X.A) (hb : Binds X.K fd ps []) (hx : ∀ σ, PassesAt CX X σ (E σ)) (ha : PA X (e :: es) t)
    (hst : starEach (e :: es) X.env = (false, eval e X.env) :: starEach es X.env := by rfl) (hpl : (backTo pos (starEach es X.env)).any (·.1) = false := by rfl)
    (ht : eval (.Call (.Attribute o m apos) (e :: es) [] pos) X.env = (do
      let ov ← eval o X.env
      standAt apos.atName
      let (f, first) ← holding [ov] (getMethod ov m pl)
      callWith pos f first (backTo pos (starEach (e :: es) X.env)) (backToKw pos (keywordEach [] X.env))) := by rfl) :
    PE X (.Call (.Attribute o m apos) (e :: es) [] pos) (tCMethS C sp E ta t) := by
  refine ⟨fun pins s σ H Q I h => ?_⟩
  refine PySem.W.methodCall_KW (pl := pl) (thn (he.run pins s σ H _ I h) fun u s1 ⟨x, H1, I1, rx, ex, q⟩ => ?_) ht
  subst ex
  obtain rfl : u = Value.ref C := rx
  refine ClX.getmethcm_ok I1 r cm fun s2 I2 => ?_
  refine ClX.callwith_cm I2 (ClX.base_none I1 (Nat.le_refl _)) cm.fi (thn (ha.run pos _ s2 σ H1 _ I2 q) fun us s3 ⟨vs, H2, I3, rv, q2⟩ => ⟨⟨ClX.pin_at I3, I3.kIn⟩, ?_⟩) hst hpl
  have r2 : Vals (V.ref C :: vs) (Value.ref C :: us) := .cons rfl rv
  have hl : (Value.ref C :: us).length = ps.length := by rw [← r2.length]; exact F.len _ _ _ _ q2
  have bb := hb s3 (Value.ref C :: us) I3.kIn (by rw [List.append_nil]; exact hl)
  rw [List.append_nil] at bb
  have z : wpAny (model X.prog X.w) X.A (call (.ref s1.heap.objs.size) us) (EP X ((s1.heap.objs.size, PySem.W.methodObj (.ref g) (.ref C)) :: pins) σ Q) X.xe s3 :=
    wpAny_call (PySem.W.method_call (ClX.pin_at I3) (codeAny_mono (F.run X.A X.stack s3 H2 ⟨Value.ref C :: us, []⟩ (Value.ref C :: us) (V.ref C :: vs) Q _ hr I3.env0 bb r2 q2) fun r s' hq => by
      cases r with
      | error e => exact hx σ _ H2 s3 e s' I3 hq
      | ok fl =>
        cases fl with
        | ret u => exact I3.after hq
        | next => exact False.elim hq
        | brk => exact False.elim hq
        | cont => exact False.elim hq))
  exact thn z fun _ _ y => ClX.unpinE y
def eCMX (ci : Nat) (den : List D → R D) (f : FE) (fa : FA) : FE := fun S => f S >>= fun o => if isClsD ci o then fa S >>= fun ds => den (o :: ds) else .fail
theorem d_cmethX {lv m' : Nat} (ci : Nat) {m : Str} {n : Nat} {es : List Expr} {fa : FA} {pl : Sem Bool} (F : CmethX X.prog X.w X.K X.mg X.base c.k lv ci m (n + 1) fr den) (hr : Room m' X.A) (hle : lv ≤ m') (tk : L2N.Takes X c.W) (ho : PE' X c .st o f) (ha : PA' X c false (e :: es) fa) (hl : Len n fa)
    (hst : starEach (e :: es) X.env = (false, eval e X.env) :: starEach es X.env := by rfl) (hpl : (backTo pos (starEach es X.env)).any (·.1) = false := by rfl)
    (ht : eval (.Call (.Attribute o m apos) (e :: es) [] pos) X.env = (do
      let ov ← eval o X.env
      standAt apos.atName
      let (f, first) ← holding [ov] (getMethod ov m pl)
      callWith pos f first (backTo pos (starEach (e :: es) X.env)) (backToKw pos (keywordEach [] X.env))) := by rfl) :
    PE' X c (kdOf fr) (.Call (.Attribute o m apos) (e :: es) [] pos) (eCMX ci den f fa) := by
  obtain ⟨C, p, g, mc, fd, ps, nm, hn, hcl, cr, cm, ok, bd⟩ := F.ex
  refine peI (pe_cmethS ho cr cm ok (hr.mono hle) bd (fun σ => L2N.passAt tk σ) ha hst hpl ht) fun σ H Q ⟨G, S, rel, q⟩ => ?_
  refine rdE_go (g := fun o => if isClsD ci o then fa S >>= fun ds => den (o :: ds) else .fail) (Post := PostE c (kdOf fr) G S σ H Q) rel q (fun _ z => z) (fun z => z) fun d v G1 H1 s1 q1 p1 => ?_
  by_cases ho : isClsD ci d = true
  · rw [if_pos ho] at p1
    cases d with
    | cls c' =>
      have hc : c' = ci := by simpa [isClsD] using ho
      subst hc
      have q1 : RD c.k G1 (.cls c') v := q1
      cases q1 with
      | cls h =>
        rw [hcl] at h; cases h
        refine ⟨rfl, G1, S, rel.grow s1, ?_⟩
        cases e0 : fa S with
        | exc x => rw [e0] at p1; exact p1
        | fail => rw [e0] at p1; exact p1
        | ok as =>
          rw [e0] at p1
          intro vs G2 H2 s2 q2
          have q2 : RDs c.k G2 as vs := q2
          refine ⟨by simp [← q2.length, hl S as e0], G2, .cls c' :: as, s2.gh, .cons (.cls hcl) q2, ?_⟩
          have p1 : PostE c (kdOf fr) G S σ H Q (den (.cls c' :: as)) := p1
          cases e1 : den (.cls c' :: as) with
          | ok d => rw [e1] at p1; exact fun v G' H' s3 r3 => p1 v G' H' ((s1.trans s2).trans s3) (r3.mono (s1.h.trans s2.h))
          | exc x =>
            rw [e1] at p1
            have p1 : PX c σ x := p1
            exact fun _ cls da G' H' s3 xr => p1 cls da G' H' ((rel.grow (s1.trans s2)).st.trans s3) xr
          | fail => rw [e1] at p1; exact p1.elim
    | _ => simp [isClsD] at ho
  · rw [if_neg ho] at p1; exact p1.elim
end
end M
set_option Elab.async false
set_option linter.all false
set_option maxRecDepth 100000
set_option maxHeartbeats 4000000
namespace M
open PySem L2 PyProof.Rows
def keyT : D → Option (List Key)
  | .tup ds => if 1 < ds.length ∧ ds.length < 4 ∧ ds.all isStrD = false then keysD ds else none
  | _ => none
section
variable {k : Kn} {G H : Hp}
theorem strs_back : ∀ {ds : List D} {vs : List V}, RDs k G ds vs → (vs.all fun x => match x with | .str _ => true | _ => false) = true → ds.all isStrD = true
  | _, _, .nil, _ => rfl
  | d :: ds, v :: vs, .cons a b, h => by
    rw [List.all_cons, Bool.and_eq_true] at h
    rw [List.all_cons, strs_back b h.2, Bool.and_true]
    have h1 := h.1
    split at h1
    · cases a; rfl
    · cases h1
theorem keyT_now (e : Ex G H) {d : D} {v : V} {q : List Key} (h : keyT d = some q) (n : Now k G H d v) : ∃ b, v = .ref b ∧ H b = some (.tup (q.map kV)) := by
  unfold keyT at h
  split at h
  · rename_i ds
    split at h
    · rename_i hc
      obtain ⟨a, vs, rfl, ha, r⟩ := n.tup
      obtain rfl := keysD_rd h r
      refine ⟨a, rfl, ?_⟩
      rcases ha with ha | ⟨o, its, m, _, _, _, _, _, oc⟩
      · exact e _ _ ha
      · exfalso
        have hl := r.length
        unfold okC at oc
        rw [← hl] at oc
        simp only [Bool.or_eq_true, decide_eq_true_eq] at oc
        rcases oc with z | z | z
        · omega
        · omega
        · rw [strs_back r z] at hc; exact absurd hc.2.2 (by simp)
    · cases h
  · cases h
def dlook (d y : D) : Option (Option D) := match d with
  | .dic ks ds => (keyD y).map fun q => getL ks ds q
  | .dit ks ds => (keyT y).map fun q => getL ks ds q
  | .dkf ks ds => (keyD y).map fun q => getL ks ds q
  | _ => none
theorem dlook_go (e : Ex G H) {d y : D} {u v : V} {o : Option D} (nx : Now k G H d u) (ny : Now k G H y v) (h : dlook d y = some o) :
    ∃ a ov, u = .ref a ∧ DGet H a v ov ∧ (∀ r, o = some r → ∃ w, ov = some w ∧ RD k G r w) ∧ (o = none → ov = none) := by
  cases d with
  | dic ks ds =>
    obtain ⟨q, hq, rfl⟩ := Option.map_eq_some_iff.mp h
    obtain ⟨a, vs, rfl, ha, hl, r⟩ := nx.dic e
    obtain rfl := keyD_now hq ny
    exact ⟨a, _, rfl, DGet.k ha, (getL_val hl r).1, (getL_val hl r).2⟩
  | dit ks ds =>
    obtain ⟨q, hq, rfl⟩ := Option.map_eq_some_iff.mp h
    obtain ⟨a, vs, rfl, ha, hl, r⟩ := nx.dit e
    obtain ⟨b, rfl, hb⟩ := keyT_now e hq ny
    exact ⟨a, _, rfl, DGet.t ha hb, (getL_val hl r).1, (getL_val hl r).2⟩
  | dkf ks ds =>
    obtain ⟨q, hq, rfl⟩ := Option.map_eq_some_iff.mp h
    obtain ⟨a, o, vs, rfl, ha, hl, r⟩ := nx.dkf e
    obtain rfl := keyD_now hq ny
    exact ⟨a, _, rfl, .inl ⟨_, q, .inr ⟨o, ha⟩, rfl, rfl⟩, (getL_val hl r).1, (getL_val hl r).2⟩
  | _ => cases h
end
section
variable {X : Cx} {c : Cf} {kd k1 k2 k3 : Kd} {a b e o : Expr} {f g h : FE} {pos apos cpos : Pos} {fr : Bool} {x : Str} {k : Kn}
theorem ix_dct (hu : X.A.units + 1 < cLine) : IxR X (fun x y H Q => ∃ a v, x = .ref a ∧ DGet H a y (some v) ∧ Q v H) := by
  intro value slice pins s σ H x y v u Q I rx ry h hs
  obtain ⟨a, z, rfl, g, q⟩ := h
  cases (show v = Value.ref a from rx)
  exact tail_any (dict_typeIs I g) PySem.F.slot_dict_getitem.lookup (d_getItem hu I g ry fun w' s3 I3 rw' => ⟨z, H, I3, rw', q⟩) hs
theorem op_dctNotIn (hu : X.A.units + 1 < cLine) : OpR X (compareOp .NotIn) (fun y x H Q => ∃ a o, x = .ref a ∧ DGet H a y o ∧ Q (.bl (!o.isSome)) H) := by
  intro pins s σ H y x u v Q I ry rx h
  obtain ⟨a, z, rfl, g, q⟩ := h
  cases (show v = Value.ref a from rx)
  exact d_notIn hu I g ry fun s3 I3 => ⟨.bl (!z.isSome), H, I3, rfl, q⟩
def ixA (d y : D) : R D := match dlook d y with
  | some (some r) => .ok r
  | some none => .fail
  | none => ixD d y
theorem o_ixA (hk : k.K = X.K) (hu : X.A.units + 65 < cLine) : Ix2 X k ixA := by
  obtain ⟨r0, h0, z0⟩ := o_ix (k := k) hk
  refine ⟨_, (ix_dct (by omega)).or h0, ?_⟩
  intro G H x y u v d e nx ny hg Q q
  unfold ixA at hg
  split at hg
  · rename_i r hl
    cases hg
    obtain ⟨a, ov, rfl, g, h1, _⟩ := dlook_go e nx ny hl
    obtain ⟨w, rfl, rw_⟩ := h1 _ rfl
    exact .inl ⟨a, w, rfl, g, q _ G H (Step.refl e) rw_⟩
  · cases hg
  · exact .inr (z0 G H x y u v d e nx ny hg Q q)
def inA (y d : D) : R D := match dlook d y with
  | some r => .ok (.bl r.isSome)
  | none => inD y d
def notInA (y d : D) : R D := match dlook d y with
  | some r => .ok (.bl (!r.isSome))
  | none => notInD y d
theorem o_notinA (hk : k.K = X.K) (hu : X.A.units + 65 < cLine) : Op2 X k (compareOp .NotIn) .st notInA := by
  obtain ⟨r0, h0, z0⟩ := o_notin (k := k) hk hu
  refine ⟨_, (op_dctNotIn (by omega)).or h0, ?_⟩
  intro G H y x v u d e ny nx hg Q q
  unfold notInA at hg
  split at hg
  · rename_i r hl
    cases hg
    obtain ⟨a, ov, rfl, g, h1, h2⟩ := dlook_go e nx ny hl
    refine .inl ⟨a, ov, rfl, g, ?_⟩
    have : ov.isSome = r.isSome := by
      cases r with
      | none => rw [h2 rfl]; rfl
      | some r => obtain ⟨w, rfl, _⟩ := h1 _ rfl; rfl
    rw [this]
    exact q _ G H (Step.refl e) (.bl _)
  · exact .inr (z0 G H y x v u d e ny nx hg Q q)
def eGet2 (f g h : FE) : FE := fun S => f S >>= fun d => if isDct d then (g S >>= fun y => h S >>= fun z => match dlook d y with
  | some (some r) => .ok r
  | some none => .ok z
  | none => .fail) else .fail
theorem isDct_at {H : Hp} {G : Hp} (e : Ex G H) {d : D} {u : V} (hd : isDct d = true) (nx : Now k G H d u) : ∃ a, u = .ref a ∧ IsD H a := by
  cases d with
  | dic ks ds =>
    obtain ⟨a, vs, rfl, ha, hl, r⟩ := nx.dic e
    exact ⟨a, rfl, .inl ⟨_, .inl ha⟩⟩
  | dit ks ds =>
    obtain ⟨a, vs, rfl, ha, hl, r⟩ := nx.dit e
    exact ⟨a, rfl, .inr ⟨_, .inl ha⟩⟩
  | _ => cases hd
theorem d_get2A {dx : Expr} (hu : X.A.units + 64 < cLine) (ho : PE' X c k1 o f) (hi : PE' X c k2 e g) (hz : PE' X c .st dx h) (m : M2 X o "get" apos e dx cpos := by first | exact ⟨rfl, rfl, rfl, rfl⟩ | exact ⟨rfl, rfl, rfl⟩) :
    PE' X c .st (.Call (.Attribute o "get" apos) [e, dx] [] cpos) (eGet2 f g h) :=
  peI (pe_dget2 (by omega) ho hi hz m) fun σ H Q ⟨G, S, rel, p⟩ => by
    refine rdE_go (g := fun d => if isDct d then (g S >>= fun y => h S >>= fun z => match dlook d y with
      | some (some r) => R.ok r
      | some none => .ok z
      | none => .fail) else .fail) (Post := PostE c .st G S σ H Q) rel p (fun _ z => z) (fun z => z) fun d v G1 H1 s1 q1 p1 => ?_
    by_cases hd : isDct d = true
    · rw [if_pos hd] at p1
      obtain ⟨ad, rfl, isd⟩ := isDct_at s1.gh hd q1.now
      refine ⟨ad, rfl, isd, ?_⟩
      refine rdE_go (g := fun y => h S >>= fun z => match dlook d y with
        | some (some r) => R.ok r
        | some none => .ok z
        | none => .fail) (Post := PostE c .st G S σ H Q) (rel.grow s1) p1 (fun _ z => z) (fun z => z) fun y vy G2 H2 s2 q2 p2 => ?_
      have sA := s1.trans s2
      refine rdE_go (g := fun z => match dlook d y with
        | some (some r) => R.ok r
        | some none => .ok z
        | none => .fail) (Post := PostE c .st G S σ H Q) (rel.grow sA) p2 (fun _ z => z) (fun z => z) fun z vz G3 H3 s3 q3 p3 => ?_
      have sB := sA.trans s3
      cases hl : dlook d y with
      | none => rw [hl] at p3; exact p3.elim
      | some r =>
        obtain ⟨a', ov, e', dg, h1, h2⟩ := dlook_go s3.gh ((q1.now.grow s2).grow s3) (q2.now.grow s3) hl
        cases e'
        rw [hl] at p3
        cases r with
        | none =>
          obtain rfl := h2 rfl
          exact ⟨none, dg, p3 vz G3 H3 sB q3⟩
        | some r =>
          obtain ⟨w, rfl, rw_⟩ := h1 _ rfl
          exact ⟨some w, dg, p3 w G3 H3 sB rw_⟩
    · rw [if_neg hd] at p1; exact p1.elim
def putA (i : Nat) (S : Env) (m d y : D) : R (Fl × Env) := match m with
  | .dic ks ds => (match keyD y with
    | some q => if ks.Nodup ∧ ks.length < sizeLine then .ok (.nx, S.set i (some ⟨true, .dic (putL ks ds q d).1 (putL ks ds q d).2⟩)) else .fail
    | none => .fail)
  | .dit ks ds => (match keyT y with
    | some q => if ks.Nodup ∧ ks.length < sizeLine then .ok (.nx, S.set i (some ⟨true, .dit (putL ks ds q d).1 (putL ks ds q d).2⟩)) else .fail
    | none => .fail)
  | _ => .fail
def ownD (i : Nat) (S : Env) : R D := match S[i]? with
  | some (some ⟨true, d⟩) => .ok d
  | _ => .fail
theorem ownD_of {i : Nat} {S : Env} {z : D} (h : ownD i S = .ok z) : S[i]? = some (some ⟨true, z⟩) := by
  unfold ownD at h
  split at h
  · cases h; assumption
  · cases h
theorem ownD_exc {i : Nat} {S : Env} {x : Exc} : ownD i S ≠ .exc x := by unfold ownD; split <;> intro h <;> cases h
def sPutA (i : Nat) (fy f : FE) : FS := fun S => ownD i S >>= fun m => f S >>= fun d => fy S >>= fun y => putA i S m d y
theorem s_putA (i : Nat) {ix : Expr} {fy : FE} {px ps : Pos} (hu : X.A.units + 64 < cLine) (he : PE' X c .st e f) (hj : PE' X c k1 ix fy) (hN : X.N[i]? = some x := by rfl) (hv : Vis X.env.scope x := by first | exact Or.inl rfl | exact Or.inr (Or.inl rfl) | exact Or.inr (Or.inr rfl)) (hd : (x == ("__debug__" : Str)) = false := by decide)
    (hcd : (x == ("__classdict__" : Str)) = false := by decide) (hs : swapsWith e (some (.Subscript (.Name x px) ix ps)) pos.line X.env = pure false := by rfl) :
    PS' X c fr [i + 1000] (.Assign [.Subscript (.Name x px) ix ps] e pos) (sPutA i fy f) :=
  psI (ps_dput (by omega) (pe_var hN hv hd hcd) hj he hs) fun Dn σ H ⟨G, S, rel, p⟩ => by
    have p : PostS c fr [i + 1000] G S σ H Dn (ownD i S >>= fun m => f S >>= fun d => fy S >>= fun y => putA i S m d y) := p
    cases e0 : ownD i S with
    | exc x => exact absurd e0 ownD_exc
    | fail => rw [e0] at p; exact p.elim
    | ok m =>
      rw [e0, R.ok_bind] at p
      have hS := ownD_of e0
      obtain ⟨l, ob, es, hg, h0, ho, ct⟩ := rel.ow i _ hS
      have ow : OwnAt S σ i l := ⟨⟨_, hS⟩, es⟩
      refine rdE_go (Post := PostS c fr [i + 1000] G S σ H Dn) rel p (fun _ z => z _) (fun z => z) fun d v G1 H1 s1 q1 p1 => ?_
      refine ⟨_, es, ?_⟩
      refine rdE_go (Post := PostS c fr [i + 1000] G S σ H Dn) (rel.grow s1) p1 (fun _ z => z _) (fun z => z) fun y u G2 H2 s2 q2 p2 => ?_
      have sp := s1.trans s2
      have rel' := rel.grow sp
      cases ct with
      | @dic ks ds vs hl r =>
        simp only [putA] at p2
        cases hk : keyD y with
        | none => rw [hk] at p2; exact p2.elim
        | some q =>
          rw [hk] at p2
          dsimp only at p2
          by_cases hc : ks.Nodup ∧ ks.length < sizeLine
          · rw [if_pos hc] at p2
            obtain rfl := keyD_now hk q2.now
            obtain ⟨vs', e1, r', l'⟩ := putL_zip (q := q) hc.1 hl (r.mono sp.g) (RD.mono s2.g q1)
            have hz : (ks.zip vs).length < sizeLine := by rw [List.length_zip]; exact Nat.lt_of_le_of_lt (Nat.min_le_left _ _) hc.2
            refine ⟨l, _, rfl, DPut.k (sp.h _ _ ho) hz, ?_⟩
            rw [e1]
            exact p2 G2 σ _ sp.g (rel'.mut ow (.dic l' r')) ((Frm.step (as := []) rel sp).trans (Frm.mut rel' ow))
          · rw [if_neg hc] at p2; exact p2.elim
      | @dit ks ds vs hl r =>
        simp only [putA] at p2
        cases hk : keyT y with
        | none => rw [hk] at p2; exact p2.elim
        | some q =>
          rw [hk] at p2
          dsimp only at p2
          by_cases hc : ks.Nodup ∧ ks.length < sizeLine
          · rw [if_pos hc] at p2
            obtain ⟨b, rfl, hb⟩ := keyT_now s2.gh hk q2.now
            obtain ⟨vs', e1, r', l'⟩ := putL_zip (q := q) hc.1 hl (r.mono sp.g) (RD.mono s2.g q1)
            have hz : (ks.zip vs).length < sizeLine := by rw [List.length_zip]; exact Nat.lt_of_le_of_lt (Nat.min_le_left _ _) hc.2
            refine ⟨l, _, rfl, DPut.t (sp.h _ _ ho) hb hz, ?_⟩
            rw [e1]
            exact p2 G2 σ _ sp.g (rel'.mut ow (.dit l' r')) ((Frm.step (as := []) rel sp).trans (Frm.mut rel' ow))
          · rw [if_neg hc] at p2; exact p2.elim
      | _ => simp only [putA] at p2; exact p2.elim
end
end M
set_option Elab.async false
set_option linter.all false
set_option maxRecDepth 100000
set_option maxHeartbeats 4000000
namespace M
open PySem L2
variable {X : Cx} {c : Cf} {kd : Kd} {a : Expr} {t t1 : FT} {fr : Bool} {pos : Pos} {tg tg1 : Expr}
end M
set_option Elab.async false
set_option linter.all false
set_option maxRecDepth 100000
set_option maxHeartbeats 4000000
namespace M
open PySem L2 PySem.Spec PyProof.Rows
section
variable {prog : Program} {w : World} {A : Around} {R : Result → Shared → Prop} {s : Shared} {elt t0 i0 t1 i1 : Expr} {ifs0 ifs1 : List Expr} {scope : Scope} {pos : Pos} {it acc : Value} {env : PySem.Env}
end
section
variable {τ κ : Type}
variable {X : Cx}
end
end M
set_option Elab.async false
set_option linter.all false
set_option maxRecDepth 100000
set_option maxHeartbeats 4000000
namespace M
open PySem L2
theorem rev_ind {α : Type} {P : List α → Prop} (h0 : P []) (h1 : ∀ xs x, P xs → P (xs ++ [x])) (xs : List α) : P xs := by
  rw [← List.reverse_reverse xs]
  induction xs.reverse with
  | nil => exact h0
  | cons x xs ih => rw [List.reverse_cons]; exact h1 _ _ ih
variable {c : Cf} {kd : Kd} {a : Expr} {t t1 : FT} {fr : Bool} {pos : Pos} {tg tg1 : Expr}
end M
set_option Elab.async false
set_option linter.all false
set_option maxRecDepth 100000
set_option maxHeartbeats 4000000
namespace M
open PySem L2 PySem.Spec PyProof.Rows
section
variable {X : Cx} {pins : List (Addr × Obj)} {σ : L2.St} {H H' : Hp} {s : Shared} {a : Addr} {y v : V} {u r : Value} {A : Around} {E : Value → Shared → Prop}
end
structure DK (κ : Type) [DecidableEq κ] where
  key : D → Option κ
  mkd : List κ → List D → D
  ho : List (κ × V) → HO
  put : ∀ {k : Kn} {G H : Hp} {a : Addr} {d : D} {y v : V} {q : κ} {kvs : List (κ × V)}, Ex G H → key d = some q → RD k G d y → H a = some (ho kvs) → kvs.length < sizeLine → DPut H a y v (upd H a (ho (putK kvs q v)))
  cont : ∀ {k : Kn} {G : Hp} {ks : List κ} {ds : List D} {vs : List V}, ks.length = ds.length → RDs k G ds vs → Cont k G (mkd ks ds) (ho (ks.zip vs))
  new : ∀ {P : Program} {w : World} {H : Hp} (h : Heap), sysModules < h.objs.size → ObjOk P w H (h.push { cls := .type "dict", data := .dict #[] }) h.objs.size (ho [])
section
variable {κ : Type} [DecidableEq κ] {X : Cx}
end
end M
set_option Elab.async false
set_option linter.all false
set_option maxRecDepth 100000
set_option maxHeartbeats 4000000
namespace M
open PySem L2
section
variable {κ : Type} [DecidableEq κ]
theorem putL_nodup {ks : List κ} {ds : List D} {q : κ} {d : D} (h : ks.Nodup) : (putL ks ds q d).1.Nodup := by
  unfold putL
  cases e : ks.idxOf? q with
  | some i => exact h
  | none =>
    rw [List.idxOf?_eq_none_iff] at e
    rw [List.nodup_append]
    exact ⟨h, by simp, fun a ha b hb z => by rw [List.mem_singleton] at hb; subst hb; exact e (z ▸ ha)⟩
theorem putL_len {ks : List κ} {ds : List D} {q : κ} {d : D} (h : ks.length = ds.length) : (putL ks ds q d).1.length = (putL ks ds q d).2.length := by
  unfold putL
  cases e : ks.idxOf? q <;> simp [h]
theorem putL_le {ks : List κ} {ds : List D} {q : κ} {d : D} : (putL ks ds q d).1.length ≤ ks.length + 1 := by
  unfold putL
  cases e : ks.idxOf? q <;> simp
def putAll (ps : List (κ × D)) : List κ × List D := ps.foldl (fun z p => putL z.1 z.2 p.1 p.2) ([], [])
end
section
variable {κ : Type} [DecidableEq κ]
end
end M
set_option Elab.async false
set_option linter.all false
set_option maxRecDepth 100000
set_option maxHeartbeats 4000000
namespace M
open PySem L2
variable {X : Cx} {c : Cf} {kd k1 k2 k3 : Kd} {e o : Expr} {f g h : FE} {pos apos cpos : Pos} {k : Kn}
end M
set_option Elab.async false
set_option linter.all false
set_option maxRecDepth 100000
set_option maxHeartbeats 4000000
namespace M
open PySem L2 PySem.W
section
variable {prog : Program} {w : World} {A : Around} {E : Value → Shared → Prop} {s : Shared} {K : PySem.W.Frag} {a C f : Addr} {ox : Obj} {od : Option Obj} {x : Value}
end
section
variable {X : Cx} {k : Kn} {lv m' ci : Nat} {den : List D → R D}
end
section
variable {X : Cx} {c : Cf} {a b : Expr} {f g : FE} {pos : Pos} {den : List D → R D}
def hasB (neg : Bool) : D → R D
  | .bl b => .ok (.bl (b != neg))
  | _ => .fail
def eHas (ci : Nat) (den : List D → R D) (neg : Bool) (f g : FE) : FE := fun S => f S >>= fun x => g S >>= fun o => if o.isObj ci then (den [o, x]).nox >>= hasB neg else .fail
end
end M
set_option Elab.async false
set_option linter.all false
set_option maxRecDepth 100000
set_option maxHeartbeats 4000000
namespace M
open PySem L2 PyProof.Rows
open PySem.Sem (wp)
def boolD : D → R D
  | .lst ds => .ok (.bl (!ds.isEmpty))
  | .tup ds => .ok (.bl (!ds.isEmpty))
  | .bl b => .ok (.bl b)
  | .int i => .ok (.bl (i != 0))
  | _ => .fail
section
variable {X : Cx} {k : Kn}
end
end M
set_option Elab.async false
set_option linter.all false
set_option maxRecDepth 100000
set_option maxHeartbeats 4000000
namespace M
open PySem L2 RZ
end M
set_option Elab.async false
set_option linter.all false
set_option maxRecDepth 100000
set_option maxHeartbeats 4000000
namespace M
open PySem L2
section
variable {X : Cx} {c : Cf} {kd k1 k2 k3 : Kd} {a b e o : Expr} {f g h : FE} {pos apos : Pos} {fr : Bool} {x : Str} {den : List D → R D} {ci : Nat}
theorem d_cmethXS {lv m' : Nat} (ci : Nat) {m : Str} {n : Nat} {es : List Expr} {fa : FA} {pl : Sem Bool} (F : CmethX X.prog X.w X.K X.mg X.base c.k lv ci m (n + 1) false den) (hr : Room m' X.A) (hle : lv ≤ m') (tk : L2N.Takes X c.W) (ho : PE' X c .st o f) (ha : PA' X c false (e :: es) fa) (hl : Len n fa)
    (hst : starEach (e :: es) X.env = (false, eval e X.env) :: starEach es X.env := by rfl) (hpl : (backTo pos (starEach es X.env)).any (·.1) = false := by rfl)
    (ht : eval (.Call (.Attribute o m apos) (e :: es) [] pos) X.env = (do
      let ov ← eval o X.env
      standAt apos.atName
      let (f, first) ← holding [ov] (getMethod ov m pl)
      callWith pos f first (backTo pos (starEach (e :: es) X.env)) (backToKw pos (keywordEach [] X.env))) := by rfl) :
    PE' X c .st (.Call (.Attribute o m apos) (e :: es) [] pos) (eCMX ci den f fa) := d_cmethX ci F hr hle tk ho ha hl hst hpl ht
end
end M
set_option Elab.async false
set_option linter.all false
set_option maxRecDepth 100000
set_option maxHeartbeats 4000000
namespace M
open PySem L2
section
variable {X : Cx} {c : Cf} {k : Kn} {kd k1 k2 k3 : Kd} {a b e o : Expr} {f g h : FE} {pos apos cpos p' : Pos} {fr : Bool} {x y : Str} {den : List D → R D}
end
end M
set_option Elab.async false
set_option linter.all false
set_option maxRecDepth 100000
set_option maxHeartbeats 4000000
namespace M
open PySem L2
structure MakerXK (P : Program) (w : World) (K : PySem.W.Frag) (mg : Str → Option Value) (base : Heap) (k : Kn) (lv : Nat) (x : Str) (ci n : Nat) (ks : List Str) (den : List D → R D) : Prop where
  ex : ∃ (C f : Addr) (fd : FuncData) (ps nm : List Str) (g : List Value → List Value → List Value), k.cl ci = some (C, nm) ∧ Mk K C f ∧ FnOk P w K mg base (L2N.CX P w) lv f fd ps (SpN k ci (n + ks.length + 1) den) ∧ mg x = some (.ref C) ∧ KBn K fd ps (n + 1) ks g (fun vs zs => vs ++ zs)
section
variable {X : Cx} {c : Cf} {kd k1 k2 k3 : Kd} {a b e o : Expr} {f g h : FE} {pos apos : Pos} {fr : Bool} {x : Str} {den : List D → R D} {ci : Nat}
theorem run_makeKS {CX : CXT} {k n : Nat} {C f : Addr} {fd : FuncData} {ps ks : List Str} {sp : Sp} {E : XK} {g : List Value → List Value → List Value} {gV : List V → List V → List V} {pins : List (Addr × Obj)} {σ : L2.St} {H : Hp} {s : Shared} {Q : VK} {us ws : List Value} {vs zs : List V} (Mm : Mk X.K C f) (F : FnOk X.prog X.w X.K X.mg X.base CX k f fd ps sp) (hr : Room (k + 1) X.A) (hb : KBn X.K fd ps (n + 1) ks g gV)
    (hx : ∀ (H : Hp) (s : Shared) (e : Value) (s' : Shared), L2.Inv X pins σ H s → CX X.stack H s E e s' → X.xe e s') (I : L2.Inv X pins σ H s) (r : Vals vs us) (rz : Vals zs ws) (l1 : vs.length = n) (l2 : zs.length = ks.length)
    (h : ∀ x dx, H x = none → H dx = none → dx ≠ x → sp (gV (.ref x :: vs) zs) (upd (upd H dx (.own x)) x (.ins C dx [])) (fun v H2 => v = .non ∧ Q (.ref x) H2) E) :
    wpAny (model X.prog X.w) X.A (call (.ref C) us (ks.zip ws)) (EP X pins σ Q) X.xe s := by
  have hq := h (s.heap.objs.size + 1) s.heap.objs.size (I.hok.fresh (Nat.le_succ _)) (I.hok.fresh (Nat.le_refl _)) (Nat.ne_of_lt (Nat.lt_succ_self _))
  have I2 := L2.Inv.made (C := C) I
  have r1 : Vals (V.ref (s.heap.objs.size + 1) :: vs) (Value.ref (s.heap.objs.size + 1) :: us) := .cons rfl r
  have r2 := hb.rel r1 rz
  have n1 : (Value.ref (s.heap.objs.size + 1) :: us).length = n + 1 := by
    rw [List.length_cons, ← r.length, l1]
  refine wpAny_call (make_map (f := f) I.kIn Mm.makes Mm.init (beq_iff_eq.mp Mm.fn) (codeAny_mono (F.run _ X.stack _ _ ⟨Value.ref (s.heap.objs.size + 1) :: us, ks.zip ws⟩ (g (Value.ref (s.heap.objs.size + 1) :: us) ws) _ _ E (hr.make C us (ks.zip ws))
    (I2.env0.make C us (ks.zip ws)) (hb.to _ (Value.ref (s.heap.objs.size + 1) :: us) ws I2.kIn n1 (rz.length.symm.trans l2)) r2 hq) fun r s' hq' => ?_))
  cases r with
  | error e => exact hx _ _ e s' I2 hq'
  | ok fl =>
    cases fl with
    | ret u =>
      obtain ⟨v, H', I3, rv, ev, q3⟩ := I2.after hq'
      subst ev
      exact ⟨rv, ⟨V.ref (s.heap.objs.size + 1), H', I3, rfl, q3⟩⟩
    | next => exact False.elim hq'
    | brk => exact False.elim hq'
    | cont => exact False.elim hq'
def tMakeKS (C : Addr) (n m : Nat) (sp : Sp) (E : L2.St → XK) (t tk : TA) : TE := fun σ H Q => t σ H fun vs H1 => tk σ H1 fun zs H2 => vs.length = n ∧ zs.length = m ∧ ∀ x dx, H2 x = none → H2 dx = none → dx ≠ x →
  sp (.ref x :: vs ++ zs) (upd (upd H2 dx (.own x)) x (.ins C dx [])) (fun v H3 => v = .non ∧ Q (.ref x) H3) (E σ)
theorem pe_makeKS {CX : CXT} {E : L2.St → XK} {k n : Nat} {C f : Addr} {fd : FuncData} {ps ks : List Str} {sp : Sp} {p : Pos} {es : List Expr} {kws : List Keyword} {t tk : TA} {g : List Value → List Value → List Value} (Mm : Mk X.K C f) (F : FnOk X.prog X.w X.K X.mg X.base CX k f fd ps sp) (hr : Room (k + 1) X.A) (hg : Gl X x) (hm : X.mg x = some (.ref C)) (hb : KBn X.K fd ps (n + 1) ks g (fun vs zs => vs ++ zs)) (hx : ∀ σ, PassesAt CX X σ (E σ))
    (ha : PA X (e :: es) t) (hkw : PK X kws tk)
    (hall : (backToKw pos (keywordEach kws X.env)).all (·.1.isSome) = true := by rfl) (hks : (backToKw pos (keywordEach kws X.env)).filterMap (·.1) = ks := by rfl) (hdb : (x == ("__debug__" : Str)) = false := by decide)
    (he : starEach (e :: es) X.env = (false, eval e X.env) :: starEach es X.env := by rfl) (hpl : ((backTo pos (starEach (e :: es) X.env)).any (·.1) || (backToKw pos (keywordEach kws X.env)).any (·.1.isNone)) = false := by rfl) :
    PE X (.Call (.Name x p) (e :: es) kws pos) (tMakeKS C n ks.length sp E t tk) := by
  refine ⟨fun pins s σ H Q I h => ?_⟩
  refine wpAny_Call_Name_kw (ld_glob I hg hm ?_ hdb)
  refine PySem.W.callWith_KW (h₀ := X.base) I.ok.mod.kin Mm.kp hall (thn (ha.run pos pins s σ H _ I h) fun us s1 ⟨vs, H1, I1, r, q⟩ => ?_) hpl he
  refine thn (hkw.run pos pins s1 σ H1 _ I1 q) fun ws s2 ⟨zs, H2, I2, rz, l1, l2, q2⟩ => ⟨I2.kIn, ?_⟩
  rw [hks]
  exact run_makeKS Mm F hr hb (fun H s e s' => hx σ pins H s e s') I2 r rz l1 l2 q2
def eCXK (o : List D → R D) (fa fk : FA) : FE := fun S => fa S >>= fun as => fk S >>= fun bs => o (as ++ bs)
theorem d_makerXK {lv m' : Nat} {n : Nat} {ks : List Str} {p : Pos} {es : List Expr} {kws : List Keyword} {fa fk : FA} (F : MakerXK X.prog X.w X.K X.mg X.base c.k lv x ci n ks den) (hr : Room m' X.A) (hle : lv + 1 ≤ m') (tk : L2N.Takes X c.W) (ha : PA' X c false (e :: es) fa) (hl : Len n fa) (hk : PK' X c kws fk) (hkl : Len ks.length fk) (hg : Gl X x := by rfl)
    (hall : (backToKw pos (keywordEach kws X.env)).all (·.1.isSome) = true := by rfl) (hks : (backToKw pos (keywordEach kws X.env)).filterMap (·.1) = ks := by rfl) (hdb : (x == ("__debug__" : Str)) = false := by decide)
    (he : starEach (e :: es) X.env = (false, eval e X.env) :: starEach es X.env := by rfl) (hpl : ((backTo pos (starEach (e :: es) X.env)).any (·.1) || (backToKw pos (keywordEach kws X.env)).any (·.1.isNone)) = false := by rfl) :
    PE' X c .fr (.Call (.Name x p) (e :: es) kws pos) (eCXK den fa fk) := by
  obtain ⟨C, f, fd, ps, nm, g, hcl, mk, ok, hm, hb⟩ := F.ex
  refine peI (pe_makeKS mk ok (hr.mono hle) hg hm hb (fun σ => L2N.passAt tk σ) ha hk hall hks hdb he hpl) fun σ H Q ⟨G, S, rel, p⟩ => ?_
  have p : PostE c .fr G S σ H Q (fa S >>= fun as => fk S >>= fun bs => den (as ++ bs)) := p
  refine ⟨G, S, rel, ?_⟩
  cases e1 : fa S with
  | exc x => rw [e1] at p; exact p
  | fail => rw [e1] at p; exact p
  | ok as =>
    rw [e1] at p
    intro vs G1 H1 s1 q1
    refine ⟨G1, S, rel.grow s1, ?_⟩
    have p : PostE c .fr G S σ H Q (fk S >>= fun bs => den (as ++ bs)) := p
    cases e2 : fk S with
    | exc x => rw [e2] at p; exact p
    | fail => rw [e2] at p; exact p
    | ok bs =>
      rw [e2] at p
      have p : PostE c .fr G S σ H Q (den (as ++ bs)) := p
      intro zs G2 H2 s2 q2
      have q1 : RDs c.k G1 as vs := q1
      have q2 : RDs c.k G2 bs zs := q2
      have l1 := hl S as e1
      have l2 := hkl S bs e2
      refine ⟨by rw [← q1.length]; exact l1, by rw [← q2.length]; exact l2, fun x dx hx hdx hne => ?_⟩
      have sp := s1.trans s2
      have q3 : RDs c.k G2 (as ++ bs) (vs ++ zs) := (q1.mono s2.g).append q2
      have hgx : G2 x = none := s2.gh.free hx
      have ex1 : Ex H2 (upd (upd H2 dx (.own x)) x (.ins C dx [])) := (Ex.new hdx).upd hx
      refine ⟨by simp [← q1.length, ← q2.length, l1, l2], x, vs ++ zs, G2, as ++ bs, C, dx, nm, rfl, hcl, upd_same, hgx, s2.gh.trans ex1, q3, ?_⟩
      cases e3 : den (as ++ bs) with
      | ok d =>
        rw [e3] at p
        intro G' H' o ex hk gh hgx' gr ho ct
        refine ⟨rfl, p _ G' H' (sp.trans ⟨ex, fun b u q => hk b u (ne_of_none q hx) (ex1 b u q), gh, fun b u q => ?_⟩) ⟨x, o, rfl, hgx', sp.h.free hx, ho, ct⟩⟩
        rcases gr b u q with z | z
        · exact .inl z
        · exact .inr (ex1.free z)
      | exc y =>
        rw [e3] at p
        have p : PX c σ y := p
        intro _ cls da G' H' s3 xr
        have exl : Ex H2 (less (upd (upd H2 dx (.own x)) x (.ins C dx [])) x) := fun b u q => by
          rw [less_ne (ne_of_none q hx)]; exact ex1 b u q
        refine p cls da G' H' ((rel.grow sp).st.trans ⟨s3.g, fun b u q => s3.h b u (exl b u q), s3.gh, fun b u q => ?_⟩) xr
        rcases s3.gr b u q with z | z
        · exact .inl z
        · exact .inr (exl.free z)
      | fail => rw [e3] at p; exact p.elim
end
end M
set_option Elab.async false
set_option linter.all false
set_option maxRecDepth 100000
set_option maxHeartbeats 4000000
namespace M
open PySem L2
section
variable {X : Cx} {c : Cf} {kd k1 k2 k3 : Kd} {a b e o : Expr} {f g h : FE} {pos apos : Pos} {fr : Bool} {x : Str} {den : List D → R D} {ci : Nat}
def tMakeKL (i : Nat) (C : Addr) (n m : Nat) (sp : Sp) (E : L2.St → XK) (t tk : TA) : TE := fun σ H Q => σ[i]? = some (some (.ref C)) ∧ tMakeKS C n m sp E t tk σ H Q
theorem pe_makeKL {CX : CXT} {E : L2.St → XK} {i k n : Nat} {C f : Addr} {fd : FuncData} {ps ks : List Str} {sp : Sp} {p : Pos} {es : List Expr} {kws : List Keyword} {t tk : TA} {g : List Value → List Value → List Value} (Mm : Mk X.K C f) (F : FnOk X.prog X.w X.K X.mg X.base CX k f fd ps sp) (hr : Room (k + 1) X.A) (hN : X.N[i]? = some x) (hv : Vis X.env.scope x) (hb : KBn X.K fd ps (n + 1) ks g (fun vs zs => vs ++ zs)) (hx : ∀ σ, PassesAt CX X σ (E σ))
    (ha : PA X (e :: es) t) (hkw : PK X kws tk)
    (hall : (backToKw pos (keywordEach kws X.env)).all (·.1.isSome) = true := by rfl) (hks : (backToKw pos (keywordEach kws X.env)).filterMap (·.1) = ks := by rfl) (hdb : (x == ("__debug__" : Str)) = false := by decide) (hcd : (x == ("__classdict__" : Str)) = false := by decide)
    (he : starEach (e :: es) X.env = (false, eval e X.env) :: starEach es X.env := by rfl) (hpl : ((backTo pos (starEach (e :: es) X.env)).any (·.1) || (backToKw pos (keywordEach kws X.env)).any (·.1.isNone)) = false := by rfl) :
    PE X (.Call (.Name x p) (e :: es) kws pos) (tMakeKL i C n ks.length sp E t tk) := by
  refine ⟨fun pins s σ H Q I ⟨hs, h⟩ => ?_⟩
  refine wpAny_Call_Name_kw (thn ((pe_var (pos := p) hN hv hdb hcd).run pins s σ H (fun v H1 => v = .ref C ∧ H1 = H) I ⟨.ref C, hs, rfl, rfl⟩) fun u s0 ⟨v, H0, I0, r0, q0⟩ => ?_)
  obtain ⟨rfl, rfl⟩ := q0
  cases r0
  refine PySem.W.callWith_KW (h₀ := X.base) I.ok.mod.kin Mm.kp hall (thn (ha.run pos pins s0 σ _ _ I0 h) fun us s1 ⟨vs, H1, I1, r, q⟩ => ?_) hpl he
  refine thn (hkw.run pos pins s1 σ H1 _ I1 q) fun ws s2 ⟨zs, H2, I2, rz, l1, l2, q2⟩ => ⟨I2.kIn, ?_⟩
  rw [hks]
  exact run_makeKS Mm F hr hb (fun H s e s' => hx σ pins H s e s') I2 r rz l1 l2 q2
def eCXKL (i ci : Nat) (o : List D → R D) (fa fk : FA) : FE := fun S => eV i S >>= fun d => if isClsD ci d then eCXK o fa fk S else .fail
theorem makeXK_go {C : Addr} {nm : List Str} {n m : Nat} {fa fk : FA} {σ : L2.St} {H : Hp} {Q : VK} (hcl : c.k.cl ci = some (C, nm)) (hl : Len n fa) (hkl : Len m fk) (q : RdE c .fr (eCXK den fa fk) σ H Q) :
    tMakeKS C n m (SpN c.k ci (n + m + 1) den) (fun σ => WE c.W σ) (RdA c false fa) (RdA c false fk) σ H Q := by
  obtain ⟨G, S, rel, p⟩ := q
  have p : PostE c .fr G S σ H Q (fa S >>= fun as => fk S >>= fun bs => den (as ++ bs)) := p
  refine ⟨G, S, rel, ?_⟩
  cases e1 : fa S with
  | exc x => rw [e1] at p; exact p
  | fail => rw [e1] at p; exact p
  | ok as =>
    rw [e1] at p
    intro vs G1 H1 s1 q1
    refine ⟨G1, S, rel.grow s1, ?_⟩
    have p : PostE c .fr G S σ H Q (fk S >>= fun bs => den (as ++ bs)) := p
    cases e2 : fk S with
    | exc x => rw [e2] at p; exact p
    | fail => rw [e2] at p; exact p
    | ok bs =>
      rw [e2] at p
      have p : PostE c .fr G S σ H Q (den (as ++ bs)) := p
      intro zs G2 H2 s2 q2
      have q1 : RDs c.k G1 as vs := q1
      have q2 : RDs c.k G2 bs zs := q2
      have l1 := hl S as e1
      have l2 := hkl S bs e2
      refine ⟨by rw [← q1.length]; exact l1, by rw [← q2.length]; exact l2, fun x dx hx hdx hne => ?_⟩
      have sp := s1.trans s2
      have q3 : RDs c.k G2 (as ++ bs) (vs ++ zs) := (q1.mono s2.g).append q2
      have hgx : G2 x = none := s2.gh.free hx
      have ex1 : Ex H2 (upd (upd H2 dx (.own x)) x (.ins C dx [])) := (Ex.new hdx).upd hx
      refine ⟨by simp [← q1.length, ← q2.length, l1, l2], x, vs ++ zs, G2, as ++ bs, C, dx, nm, rfl, hcl, upd_same, hgx, s2.gh.trans ex1, q3, ?_⟩
      cases e3 : den (as ++ bs) with
      | ok d =>
        rw [e3] at p
        intro G' H' o ex hk gh hgx' gr ho ct
        refine ⟨rfl, p _ G' H' (sp.trans ⟨ex, fun b u q => hk b u (ne_of_none q hx) (ex1 b u q), gh, fun b u q => ?_⟩) ⟨x, o, rfl, hgx', sp.h.free hx, ho, ct⟩⟩
        rcases gr b u q with z | z
        · exact .inl z
        · exact .inr (ex1.free z)
      | exc y =>
        rw [e3] at p
        have p : PX c σ y := p
        intro _ cls da G' H' s3 xr
        have exl : Ex H2 (less (upd (upd H2 dx (.own x)) x (.ins C dx [])) x) := fun b u q => by
          rw [less_ne (ne_of_none q hx)]; exact ex1 b u q
        refine p cls da G' H' ((rel.grow sp).st.trans ⟨s3.g, fun b u q => s3.h b u (exl b u q), s3.gh, fun b u q => ?_⟩) xr
        rcases s3.gr b u q with z | z
        · exact .inl z
        · exact .inr (exl.free z)
      | fail => rw [e3] at p; exact p.elim
theorem d_makerXKL (i : Nat) {lv m' : Nat} {n : Nat} {ks : List Str} {p : Pos} {y : Str} {es : List Expr} {kws : List Keyword} {fa fk : FA} (F : MakerXK X.prog X.w X.K X.mg X.base c.k lv y ci n ks den) (hr : Room m' X.A) (hle : lv + 1 ≤ m') (tk : L2N.Takes X c.W) (ha : PA' X c false (e :: es) fa) (hl : Len n fa) (hk : PK' X c kws fk) (hkl : Len ks.length fk)
    (hN : X.N[i]? = some x := by rfl) (hv : Vis X.env.scope x := by first | exact Or.inl rfl | exact Or.inr (Or.inl rfl) | exact Or.inr (Or.inr rfl))
    (hall : (backToKw pos (keywordEach kws X.env)).all (·.1.isSome) = true := by rfl) (hks : (backToKw pos (keywordEach kws X.env)).filterMap (·.1) = ks := by rfl) (hdb : (x == ("__debug__" : Str)) = false := by decide) (hcd : (x == ("__classdict__" : Str)) = false := by decide)
    (he : starEach (e :: es) X.env = (false, eval e X.env) :: starEach es X.env := by rfl) (hpl : ((backTo pos (starEach (e :: es) X.env)).any (·.1) || (backToKw pos (keywordEach kws X.env)).any (·.1.isNone)) = false := by rfl) :
    PE' X c .fr (.Call (.Name x p) (e :: es) kws pos) (eCXKL i ci den fa fk) := by
  obtain ⟨C, f, fd, ps, nm, g, hcl, mk, ok, hm, hb⟩ := F.ex
  refine peI (pe_makeKL mk ok (hr.mono hle) hN hv hb (fun σ => L2N.passAt tk σ) ha hk hall hks hdb hcd he hpl) fun σ H Q ⟨G, S, rel, q⟩ => ?_
  have q : PostE c .fr G S σ H Q (eV i S >>= fun d => if isClsD ci d then eCXK den fa fk S else .fail) := q
  cases e0 : eV i S with
  | exc x => exact absurd e0 eV_exc
  | fail => rw [e0] at q; exact q.elim
  | ok d =>
    rw [e0, R.ok_bind] at q
    by_cases hd0 : isClsD ci d = true
    · rw [if_pos hd0] at q
      refine ⟨?_, makeXK_go hcl hl hkl ⟨G, S, rel, q⟩⟩
      unfold eV at e0
      split at e0
      · rename_i d' hS
        cases e0
        obtain ⟨v, hσ, hv⟩ := rel.fz i _ hS
        cases d with
        | cls c' =>
          have hc : c' = ci := by simpa [isClsD] using hd0
          subst hc
          cases hv with
          | cls h => rw [hcl] at h; cases h; exact hσ
        | _ => simp [isClsD] at hd0
      · cases e0
    · rw [if_neg hd0] at q; exact q.elim
end
end M
set_option Elab.async false
set_option linter.all false
set_option maxRecDepth 100000
set_option maxHeartbeats 4000000
namespace M
open PySem L2
section
variable {X : Cx} {c : Cf} {a b : Expr} {f g : FE} {pos : Pos} {fr : Bool} {x y : Str}
def sParO (i j : Nat) (f g : FE) : FS := fun S => f S >>= fun d => g S >>= fun e => .ok (.nx, (S.set i (some ⟨true, d⟩)).set j (some ⟨true, e⟩))
end
end M
set_option Elab.async false
set_option linter.all false
set_option maxRecDepth 100000
set_option maxHeartbeats 4000000
namespace M
open PySem L2
mutual
def noL : D → Bool
  | .lst _ => false
  | .scr _ => false
  | .tup xs => noLs xs
  | .dic _ _ => false
  | .dit _ xs => noLs xs
  | .dkf _ xs => noLs xs
  | .dig _ _ => false
  | .obj _ xs => noLs xs
  | _ => true
def noLs : List D → Bool
  | [] => true
  | x :: xs => noL x && noLs xs
end
def noC : D → Bool
  | .lst xs => noLs xs
  | .dic _ xs => noLs xs
  | .dit _ xs => noLs xs
  | .obj _ xs => noLs xs
  | .dig _ _ => false
  | _ => false
def Lnt : HO → Bool
  | .lst _ => true
  | .dK _ => true
  | _ => false
def Lnd (G Gp : Hp) : Prop := ∀ b, Gp b = G b ∨ (G b = none ∧ ∃ o, Gp b = some o ∧ Lnt o = true)
def unL (G G' : Hp) : Hp := fun b => match G b with
  | some o => some o
  | none => match G' b with
    | some o => if Lnt o then none else some o
    | none => none
theorem unL_old {G G' : Hp} {b : Addr} {o : HO} (h : G b = some o) : unL G G' b = some o := by unfold unL; rw [h]
theorem unL_keep {G G' : Hp} (e : Ex G G') {b : Addr} {o : HO} (h : G' b = some o) (hn : Lnt o = false) : unL G G' b = some o := by
  unfold unL
  cases g : G b with
  | some u => have := e b u g; rw [h] at this; cases this; rfl
  | none =>
    rw [h]
    dsimp only
    rw [if_neg (by rw [hn]; decide)]
theorem unL_sub {G G' : Hp} (e : Ex G G') {b : Addr} {o : HO} (h : unL G G' b = some o) : G' b = some o ∧ (G b = some o ∨ (G b = none ∧ Lnt o = false)) := by
  unfold unL at h
  cases g : G b with
  | some u => rw [g] at h; cases h; exact ⟨e b _ g, .inl rfl⟩
  | none =>
    rw [g] at h
    cases g' : G' b with
    | none => rw [g'] at h; cases h
    | some u =>
      rw [g'] at h
      dsimp only at h
      by_cases hl : Lnt u = true
      · rw [if_pos hl] at h; cases h
      · rw [if_neg hl] at h; cases h
        exact ⟨rfl, .inr ⟨rfl, by simpa using hl⟩⟩
mutual
theorem RD.unL {k : Kn} {G G' : Hp} (e : Ex G G') : ∀ {d : D} {v : V}, noL d = true → RD k G' d v → RD k (M.unL G G') d v
  | _, _, _, .non => .non
  | _, _, _, .bl b => .bl b
  | _, _, _, .int i => .int i
  | _, _, _, .str x => .str x
  | _, _, _, .ty n => .ty n
  | _, _, h, .tup s r => .tup (by
      rcases s with s | s
      · exact .inl (unL_keep e s rfl)
      · exact .inr s) (RDs.unL e (by simpa only [noL] using h) r)
  | _, _, h, .lst _ _ => by simp [noL] at h
  | _, _, h, .scr _ => by simp [noL] at h
  | _, _, _, .cls h => .cls h
  | _, _, h, .dic _ _ _ => by simp [noL] at h
  | _, _, h, .dig _ _ _ _ => by simp [noL] at h
  | _, _, h, .dit s l r => .dit (unL_keep e s rfl) l (RDs.unL e (by simpa only [noL] using h) r)
  | _, _, h, .dkf s l r => .dkf (unL_keep e s rfl) l (RDs.unL e (by simpa only [noL] using h) r)
  | _, _, h, .obj c s r => .obj c (unL_keep e s rfl) (RDs.unL e (by simpa only [noL] using h) r)
theorem RDs.unL {k : Kn} {G G' : Hp} (e : Ex G G') : ∀ {ds : List D} {vs : List V}, noLs ds = true → RDs k G' ds vs → RDs k (M.unL G G') ds vs
  | _, _, _, .nil => .nil
  | _, _, h, .cons a b => by
    simp only [noLs, Bool.and_eq_true] at h
    exact .cons (RD.unL e h.1 a) (RDs.unL e h.2 b)
end
theorem Cont.unL {k : Kn} {G G' : Hp} (e : Ex G G') {d : D} {o : HO} (h : noC d = true) (c : Cont k G' d o) : Cont k (M.unL G G') d o := by
  cases c with
  | lst r => exact .lst (r.unL e (by simpa only [noC] using h))
  | dic l r => exact .dic l (r.unL e (by simpa only [noC] using h))
  | dit l r => exact .dit l (r.unL e (by simpa only [noC] using h))
  | dig l kk r => simp [noC] at h
  | obj q r => exact .obj q (r.unL e (by simpa only [noC] using h))
theorem Step.unL {G H Gp G' H' : Hp} (e : Ex G Gp) (l : Lnd G Gp) (s : Step Gp H G' H') : Step G H (M.unL G G') H' where
  g := fun b o h => unL_old h
  h := s.h
  gh := fun b o h => s.gh b o (unL_sub (e.trans s.g) h).1
  gr := fun b o h => by
    obtain ⟨h1, h2⟩ := unL_sub (e.trans s.g) h
    rcases h2 with h2 | ⟨h2, h3⟩
    · exact .inl h2
    · rcases s.gr b o h1 with q | q
      · rcases l b with z | ⟨z, u, z2, z3⟩
        · rw [q, h2] at z; cases z
        · rw [q] at z2; cases z2; rw [h3] at z3; cases z3
      · exact .inr q
section
variable {c : Cf} {G H : Hp} {S S' : Env} {σ : St}
end
end M
set_option Elab.async false
set_option linter.all false
set_option maxRecDepth 100000
set_option maxHeartbeats 4000000
namespace M
open PySem L2 PyProof.Rows
theorem cxUpN {P : Program} {w : World} : StX.CXUp (L2N.CX P w) := by
  rintro outer s H s2 H2 E e s' un kp ho ⟨a, B, H', cls, d, ea, fl, hok, ub, na, os, ag, he⟩
  refine ⟨a, B, H', cls, d, ea, fl, hok, ⟨fun b o q n hb => ub.keep b o (kp b o q) (un.free b o q n (by simp)) hb, fun b o q hb => ub.slot b o (kp b o q) hb, fun b o q n => ub.free b o (kp b o q) (un.free b o q n (by simp)),
    fun b o q hb => ub.there b o (kp b o q) hb, fun b xs q => ub.tups b xs (un.tups b xs q), fun b o xs q => ub.frzs b o xs (un.frzs b o xs q), fun b ps q => ?_⟩, na, os.trans ho, ag, he⟩
  obtain ⟨m1, e1⟩ := un.tbls b ps q
  obtain ⟨m2, e2⟩ := ub.tbls b _ e1
  exact ⟨m1 ++ m2, by rw [e2, Array.append_assoc]⟩
def KwT {α : Type} (D : Addr) : List (Str × Value) → Sem α → Sem α → Prop
  | [], t, r => t = r
  | q :: l, t, r => ∃ (β γ : Type) (k1 : Option Value → Sem β) (k2 : β → Sem γ) (k3 : γ → Sem α) (a : β), t = ((nsGet D q.1 >>= k1) >>= k2) >>= k3 ∧ k1 (some q.2) = pure a ∧ KwT D l (k2 a >>= k3) r
theorem KwT.run {α : Type} {K : PySem.W.Frag} {M : Model} {A : Around} {D : Addr} {Q : α → Shared → Prop} {E : Value → Shared → Prop} {s : Shared} (X : K.In s.heap) {r : Sem α} (h : wpAny M A r Q E s) : ∀ {l : List (Str × Value)} {t : Sem α}, (∀ q ∈ l, PySem.W.nsIn K D q.1 = some (some q.2)) → KwT D l t r → wpAny M A t Q E s
  | [], t, _, e => by cases (show t = r from e); exact h
  | q :: l, t, hl, ⟨β, γ, k1, k2, k3, a, e1, e2, e3⟩ => by
    have ih := KwT.run X h (fun p hp => hl p (List.mem_cons_of_mem _ hp)) e3
    have l1 : PySem.W.Looks M s.heap (nsGet D q.1 >>= k1) a := (PySem.W.looks_nsIn X (hl q (List.mem_cons_self ..))).andThen (PySem.W.Looks.of_pure e2)
    rw [e1, bind_assoc]
    exact wpAny_bind (l1.here ih)
def StarB (K : PySem.W.Frag) (fd : FuncData) (ps : List Str) (pv : Str) (m : Nat) (ks : List Str) (g : List Value → List Value → List Value) : Prop :=
  ∀ (M : Model) (A : Around) (Ex : Value → Shared → Prop) (Q : List (Str × Value) → Shared → Prop) (s : Shared) (us rest ws : List Value), K.In s.heap → us.length = m → ws.length = ks.length →
    wpAny M A (newTuple rest) (fun t s' => Q (ps.zip (g us ws) ++ [(pv, t)]) s') Ex s → wpAny M A (bindArgs fd ⟨us ++ rest, ks.zip ws⟩) Q Ex s
section
variable {K : PySem.W.Frag} {x qual : Str} {params : Arguments} {body : List Stmt} {scope : Scope} {dvs : List V} {kws : List (Str × V)} {f : Addr} {fd : FuncData} {ps : List Str} {pv : Str}
theorem tail_star {M : Model} {A : Around} {Ex : Value → Shared → Prop} {Q : List (Str × Value) → Shared → Prop} {s : Shared} {rest : List Value} {l : List (Str × Value)} (h : wpAny M A (newTuple rest) (fun t s' => Q (l ++ [(pv, t)]) s') Ex s) :
    wpAny M A (newTuple rest >>= fun t => pure (l ++ [(pv, t)])) Q Ex s := wpAny_bind (wpAny_mono h (fun _ _ q => wpAny_pure q) fun _ _ q => q)
theorem starB1 (F : FunD K x qual params body scope dvs kws f fd) (m : Nat) (hd : dvs ≠ [])
    (h : ∀ (T : Addr) (kV doc pm : Value) (an : Option Addr) (cdv ct : Value) (us its rest : List Value), us.length = m → its.length = dvs.length →
      ∃ k, bindArgs (PySem.W.fnOf x qual params body scope (.ref T) kV doc pm an cdv ct) ⟨us ++ rest, []⟩ = seqItems? (.ref T) >>= k ∧ k (some its.toArray) = (newTuple rest >>= fun t => pure (ps.zip us ++ [(pv, t)]))) : StarB K fd ps pv m [] (fun us _ => us) := by
  obtain ⟨oc, od, dV, kV, doc, pm, an, cdv, ct, osl, rfl, lk, hcd, hD, hK⟩ := F.ex
  rcases hD with ⟨e, _⟩ | ⟨_, T, o, its, n, rfl, lT, oT, rT⟩
  · exact absurd e hd
  · intro M A Ex Q s us rest ws X l1 l2 hq
    have : ws = [] := List.eq_nil_of_length_eq_zero l2
    subst this
    obtain ⟨k, e1, e2⟩ := h T kV doc pm an cdv ct us its rest l1 rT.length.symm
    rw [List.zip_nil_right, e1]
    refine wpAny_bind (wpAny_seqItems (X _ _ lT) oT ?_)
    rw [e2]
    exact tail_star hq
theorem starB2 (F : FunD K x qual params body scope [] kws f fd) (m : Nat) (ks : List Str) (ms : List (Str × V)) (g : List Value → List Value → List Value → List Value) (hk : kws ≠ []) (hms : ∀ q ∈ ms, q ∈ kws)
    (h : ∀ (D : Addr) (doc pm : Value) (an : Option Addr) (cdv ct : Value) (us rest mv ws : List Value), us.length = m → mv.length = ms.length → ws.length = ks.length →
      KwT D ((ms.map (·.1)).zip mv) (bindArgs (PySem.W.fnOf x qual params body scope .none (.ref D) doc pm an cdv ct) ⟨us ++ rest, ks.zip ws⟩) (newTuple rest >>= fun t => pure (ps.zip (g us mv ws) ++ [(pv, t)]))) :
    ∃ mv, Vals (ms.map (·.2)) mv ∧ StarB K fd ps pv m ks (fun us ws => g us mv ws) := by
  obtain ⟨oc, od, dV, kV, doc, pm, an, cdv, ct, osl, rfl, lk, hcd, hD, hK⟩ := F.ex
  rcases hD with ⟨_, rfl⟩ | ⟨e, _⟩
  · rcases hK with e | ⟨D, rfl, hq⟩
    · exact absurd e hk
    · obtain ⟨mv, hl, rk, hks⟩ := kwd_vals (ms := ms) fun q hm => hq q (hms q hm)
      refine ⟨mv, rk, fun M A Ex Q s us rest ws X l1 l2 hq => ?_⟩
      exact KwT.run X (tail_star hq) hks (h D doc pm an cdv ct us rest mv ws l1 hl l2)
  · exact absurd rfl e
end
def FnStar (P : Program) (w : World) (K : PySem.W.Frag) (mg : Str → Option Value) (base : Heap) (CX : CXT) (lv : Nat) (f : Addr) (m : Nat) (ks : List Str) (gV : List V → List V → List V) (sp : Sp) : Prop :=
  ∀ (A : Around) (outer : List PySem.Env) (s : Shared) (H : Hp) (us rs ws : List Value) (vs xs zs : List V) (Q : VK) (E : XK), Room lv A → Env0 P w K mg base A outer s H → Vals vs us → Vals xs rs → Vals zs ws → us.length = m → ws.length = ks.length → xs.length ≤ sizeLine →
    (∀ p, H p = none → sp (gV vs zs ++ [.ref p]) (upd H p (.tup xs)) Q E) → codeAny (model P w) A (.call (.ref f) ⟨us ++ rs, ks.zip ws⟩) (CR CX outer P w H s Q E) s
section
variable {CX : CXT} {P : Program} {w : World} {K : PySem.W.Frag} {mg : Str → Option Value} {base : Heap} {k : Nat} {x qual : Str} {params : Arguments} {body : List Stmt} {scope : Scope} {dvs : List V} {kws : List (Str × V)} {f : Addr} {fd : FuncData} {N ps : List Str} {pv : Str} {sp : Sp}
theorem fn_starX (F : FunD K x qual params body scope dvs kws f fd) (S : FnScope N (ps ++ [pv]) scope) (hCX : StX.CXUp CX) {m : Nat} {ks : List Str} {g : List Value → List Value → List Value} {gV : List V → List V → List V} (hb : StarB K fd ps pv m ks g)
    (hrel : ∀ {vs : List V} {us : List Value} {zs : List V} {ws : List Value}, Vals vs us → Vals zs ws → Vals (gV vs zs) (g us ws)) (hlen : ∀ us ws : List Value, us.length = m → ws.length = ks.length → (g us ws).length = ps.length)
    (hbody : ∀ (cdv : Value) (A : Around) (outer : List PySem.Env) (s : Shared) (H : Hp) (vs : List V) (Q : VK) (E : XK), Room k (A.deeper (envOfC qual scope s.heap.objs.size f cdv)) → sp vs H Q E →
      ∃ t, PSs (cxOf CX P w K mg base N qual scope f cdv A outer s H E) body t ∧ t { nx := fun _ H' => Q .non H', rt := Q } (L2.start N vs) H) : FnStar P w K mg base CX (k + 1) f m ks gV sp := by
  obtain ⟨oc, od, dV, kV, doc, pm, an, cdv, ct, osl, rfl, lk, hcd, _, _⟩ := F.ex
  intro A outer s H us rs ws vs xs zs Q E hr e0 r1 r2 r3 l1 l2 hz hq
  have hn : H s.heap.objs.size = Option.none := e0.hok.fresh (Nat.le_refl _)
  have KX : K.In s.heap := e0.mod.kin.keeps fun b o e => (e0.bs b o e).1
  have rg := hrel r1 r3
  have lg := hlen us ws l1 l2
  have lv : (gV vs zs).length = ps.length := rg.length.trans lg
  refine StX.run_bnd lk hcd S hr e0 (G := fun as H2 => ∃ p, H p = Option.none ∧ as = gV vs zs ++ [V.ref p] ∧ H2 = upd H p (.tup xs)) (fun A' Ex Q' h => ?_) fun s2 H2 as ⟨p, hp, ex, eH⟩ hr' => ?_
  · refine hb _ _ _ _ s us rs ws KX l1 l2 (wpAny_newTuple ?_ (by rw [← r2.length]; exact hz))
    have new : ObjOk P w (upd H s.heap.objs.size (.tup xs)) (s.heap.push ({ cls := .type "tuple", data := .seq rs.toArray } : Obj)) s.heap.objs.size (.tup xs) := ⟨hz, rs, r2, ⟨_, Heap.get?_push_size _ rfl, rfl, _, rfl⟩⟩
    have un := StX.un_laid (fs := frs outer) (s := s) (o := ({ cls := .type "tuple", data := .seq rs.toArray } : Obj)) (u := .tup xs) hn
    have z := h _ _ (gV vs zs ++ [V.ref s.heap.objs.size]) (g us ws ++ [Value.ref s.heap.objs.size]) (StX.env0_laid e0 new) un rfl (fun e s' => hCX outer s H _ _ E e s' un (fun b o q => Heap.get?_push_of_some _ q) rfl) (rg.append (.cons rfl .nil))
      (by rw [List.length_append, List.length_append, lv] <;> rfl) ⟨_, hn, rfl, rfl⟩
    rw [List.zip_append lg.symm] at z
    exact z
  · subst ex eH
    exact hbody cdv A outer s2 _ _ Q E hr' (hq p hp)
theorem init_okS {k : Kn} {as : List Nat} {lv ci : Nat} {s : FS} (F : FunD k.K x qual params body scope dvs kws f fd) (S : FnScope N (ps ++ [pv]) scope) (h0 : 0 ∉ as) {m : Nat} {ks : List Str} {g : List Value → List Value → List Value} {gV : List V → List V → List V} (hb0 : StarB k.K fd ps pv m ks g)
    (hrel : ∀ {vs : List V} {us : List Value} {zs : List V} {ws : List Value}, Vals vs us → Vals zs ws → Vals (gV vs zs) (g us ws)) (hlen : ∀ us ws : List Value, us.length = m → ws.length = ks.length → (g us ws).length = ps.length)
    (hb : ∀ (cdv : Value) (A : Around) (outer : List PySem.Env) (sh : Shared) (H H0 G0 : Hp) (E : XK), Room lv (A.deeper (PyProof.Rows.envOfC qual scope sh.heap.objs.size f cdv)) → L2N.Takes (cxOf (L2N.CX P w) P w k.K mg base N qual scope f cdv A outer sh H E) (liftX E) →
      PB' (cxOf (L2N.CX P w) P w k.K mg base N qual scope f cdv A outer sh H E) ⟨k, H0, G0, liftX E⟩ false as body s) :
    FnStar P w k.K mg base (L2N.CX P w) (lv + 1) f m ks gV (SpN k ci (ps.length + 1) (runN N.length ci s)) := by
  refine fn_starX F S cxUpN hb0 hrel hlen fun cdv A outer sh H vs Q E hr q => ?_
  have q' : SpN k ci (ps ++ [pv]).length (runN N.length ci s) vs H Q E := by rw [List.length_append]; exact q
  exact body_init (X := cxOf (L2N.CX P w) P w k.K mg base N qual scope f cdv A outer sh H E) h0 (fun H0 G0 => hb cdv A outer sh H H0 G0 E hr (L2N.takes_of rfl rfl rfl rfl)) q
end
def mergeK {α : Type} : List Bool → List α → List α → List α
  | true :: bs, _ :: ds, g :: gs => g :: mergeK bs ds gs
  | false :: bs, d :: ds, gs => d :: mergeK bs ds gs
  | _, _, _ => []
theorem mergeK_rds {k : Kn} {G : Hp} : ∀ {bs : List Bool} {ds gs : List D} {vs us : List V}, RDs k G ds vs → RDs k G gs us → RDs k G (mergeK bs ds gs) (mergeK bs vs us)
  | [], _, _, _, _, _, _ => by simp only [mergeK]; exact .nil
  | true :: bs, _, _, _, _, .nil, _ => by simp only [mergeK]; exact .nil
  | false :: bs, _, _, _, _, .nil, _ => by simp only [mergeK]; exact .nil
  | true :: bs, _, _, _, _, .cons _ r, .nil => by simp only [mergeK]; exact .nil
  | true :: bs, _, _, _, _, .cons _ r, .cons a q => by simp only [mergeK]; exact .cons a (mergeK_rds r q)
  | false :: bs, _, _, _, _, .cons a r, q => by simp only [mergeK]; exact .cons a (mergeK_rds r q)
structure MakerXS (P : Program) (w : World) (K : PySem.W.Frag) (mg : Str → Option Value) (base : Heap) (k : Kn) (lv : Nat) (x : Str) (ci n : Nat) (mask : List Bool) (ks : List Str) (dd : List D) (den : List D → R D) : Prop where
  ex : ∃ (C f : Addr) (nm : List Str) (dvs : List V), k.cl ci = some (C, nm) ∧ Mk K C f ∧ mg x = some (.ref C) ∧ (∀ G, RDs k G dd dvs) ∧ dd.length = mask.length ∧ (mask.filter id).length = ks.length ∧
    FnStar P w K mg base (L2N.CX P w) lv f (n + 1) ks (fun vs zs => vs ++ mergeK mask dvs zs) (SpN k ci (n + 1 + mask.length + 1) den)
theorem mergeK_len {α : Type} : ∀ {bs : List Bool} {ds gs : List α}, ds.length = bs.length → (bs.filter id).length = gs.length → (mergeK bs ds gs).length = bs.length
  | [], _, _, _, _ => rfl
  | true :: bs, [], _, h, _ => by simp at h
  | false :: bs, [], _, h, _ => by simp at h
  | true :: bs, _ :: ds, [], _, h => by simp at h
  | true :: bs, _ :: ds, _ :: gs, h1, h2 => by
    simp only [mergeK, List.length_cons]
    rw [mergeK_len (by simpa using h1) (by simpa using h2)]
  | false :: bs, _ :: ds, gs, h1, h2 => by
    simp only [mergeK, List.length_cons]
    rw [mergeK_len (by simpa using h1) (by simpa using h2)]
section
variable {X : Cx} {c : Cf} {kd k1 k2 k3 : Kd} {a b e o : Expr} {f g h : FE} {pos apos : Pos} {fr : Bool} {x : Str} {den : List D → R D} {ci : Nat}
theorem run_makeSt {CX : CXT} {k m : Nat} {C f : Addr} {ks : List Str} {sp : Sp} {E : XK} {gV : List V → List V → List V} {pins : List (Addr × Obj)} {σ : L2.St} {H : Hp} {s : Shared} {Q : VK} {us rs ws : List Value} {vs xs zs : List V} (Mm : Mk X.K C f) (F : FnStar X.prog X.w X.K X.mg X.base CX k f (m + 1) ks gV sp) (hr : Room (k + 1) X.A)
    (hx : ∀ (H : Hp) (s : Shared) (e : Value) (s' : Shared), L2.Inv X pins σ H s → CX X.stack H s E e s' → X.xe e s') (I : L2.Inv X pins σ H s) (r : Vals vs us) (rx : Vals xs rs) (rz : Vals zs ws) (l1 : us.length = m) (l2 : ws.length = ks.length) (hz : xs.length ≤ sizeLine)
    (h : ∀ x dx p, H x = none → H dx = none → dx ≠ x → upd (upd H dx (.own x)) x (.ins C dx []) p = none → sp (gV (.ref x :: vs) zs ++ [.ref p]) (upd (upd (upd H dx (.own x)) x (.ins C dx [])) p (.tup xs)) (fun v H2 => v = .non ∧ Q (.ref x) H2) E) :
    wpAny (model X.prog X.w) X.A (call (.ref C) (us ++ rs) (ks.zip ws)) (EP X pins σ Q) X.xe s := by
  have hq := h (s.heap.objs.size + 1) s.heap.objs.size
  have I2 := L2.Inv.made (C := C) I
  have r1 : Vals (V.ref (s.heap.objs.size + 1) :: vs) (Value.ref (s.heap.objs.size + 1) :: us) := .cons rfl r
  refine wpAny_call (make_map (f := f) I.kIn Mm.makes Mm.init (beq_iff_eq.mp Mm.fn) (codeAny_mono (F _ X.stack _ _ (Value.ref (s.heap.objs.size + 1) :: us) rs ws _ _ _ _ E (hr.make C (us ++ rs) (ks.zip ws))
    (I2.env0.make C (us ++ rs) (ks.zip ws)) r1 rx rz (by rw [List.length_cons, l1]) l2 hz fun p hp => hq p (I.hok.fresh (Nat.le_succ _)) (I.hok.fresh (Nat.le_refl _)) (Nat.ne_of_lt (Nat.lt_succ_self _)) hp) fun r s' hq' => ?_))
  cases r with
  | error e => exact hx _ _ e s' I2 hq'
  | ok fl =>
    cases fl with
    | ret u =>
      obtain ⟨v, H', I3, rv, ev, q3⟩ := I2.after hq'
      subst ev
      exact ⟨rv, ⟨V.ref (s.heap.objs.size + 1), H', I3, rfl, q3⟩⟩
    | next => exact False.elim hq'
    | brk => exact False.elim hq'
    | cont => exact False.elim hq'
def tMakeSt (C : Addr) (m n : Nat) (gV : List V → List V → List V) (sp : Sp) (E : L2.St → XK) (t tk : TA) : TE := fun σ H Q => t σ H fun ys H1 => tk σ H1 fun zs H2 => m ≤ ys.length ∧ zs.length = n ∧ (ys.drop m).length ≤ sizeLine ∧ ∀ x dx p, H2 x = none → H2 dx = none → dx ≠ x → upd (upd H2 dx (.own x)) x (.ins C dx []) p = none →
  sp (gV (.ref x :: ys.take m) zs ++ [.ref p]) (upd (upd (upd H2 dx (.own x)) x (.ins C dx [])) p (.tup (ys.drop m))) (fun v H3 => v = .non ∧ Q (.ref x) H3) (E σ)
theorem vals_take {vs : List V} {us : List Value} (r : Vals vs us) (n : Nat) : Vals (vs.take n) (us.take n) ∧ Vals (vs.drop n) (us.drop n) := by
  induction r generalizing n with
  | nil => simp; exact .nil
  | cons a r ih =>
    cases n with
    | zero => simp; exact ⟨.nil, .cons a r⟩
    | succ n => simp; exact ⟨.cons a (ih n).1, (ih n).2⟩
theorem pe_makeSt {CX : CXT} {E : L2.St → XK} {k m : Nat} {C f : Addr} {ks : List Str} {sp : Sp} {p : Pos} {es : List Expr} {kws : List Keyword} {t tk : TA} {gV : List V → List V → List V} (Mm : Mk X.K C f) (F : FnStar X.prog X.w X.K X.mg X.base CX k f (m + 1) ks gV sp) (hr : Room (k + 1) X.A) (hg : Gl X x) (hm : X.mg x = some (.ref C)) (hx : ∀ σ, PassesAt CX X σ (E σ))
    (ha : PA X (e :: es) t) (hkw : PK X kws tk)
    (hall : (backToKw pos (keywordEach kws X.env)).all (·.1.isSome) = true := by rfl) (hks : (backToKw pos (keywordEach kws X.env)).filterMap (·.1) = ks := by rfl) (hdb : (x == ("__debug__" : Str)) = false := by decide)
    (he : starEach (e :: es) X.env = (false, eval e X.env) :: starEach es X.env := by rfl) (hpl : ((backTo pos (starEach (e :: es) X.env)).any (·.1) || (backToKw pos (keywordEach kws X.env)).any (·.1.isNone)) = false := by rfl) :
    PE X (.Call (.Name x p) (e :: es) kws pos) (tMakeSt C m ks.length gV sp E t tk) := by
  refine ⟨fun pins s σ H Q I h => ?_⟩
  refine wpAny_Call_Name_kw (ld_glob I hg hm ?_ hdb)
  refine PySem.W.callWith_KW (h₀ := X.base) I.ok.mod.kin Mm.kp hall (thn (ha.run pos pins s σ H _ I h) fun us s1 ⟨vs, H1, I1, r, q⟩ => ?_) hpl he
  refine thn (hkw.run pos pins s1 σ H1 _ I1 q) fun ws s2 ⟨zs, H2, I2, rz, l0, l2, hz, q2⟩ => ⟨I2.kIn, ?_⟩
  rw [hks]
  have rt := vals_take r m
  have := run_makeSt Mm F hr (fun H s e s' => hx σ pins H s e s') I2 rt.1 rt.2 rz (by rw [List.length_take, ← r.length]; omega) (rz.length.symm.trans l2) hz q2
  rwa [List.take_append_drop] at this
def eCXS (n : Nat) (mask : List Bool) (dd : List D) (o : List D → R D) (fa fk : FA) : FE := fun S => fa S >>= fun as => fk S >>= fun bs => if n ≤ as.length ∧ as.length ≤ sizeLine then o (as.take n ++ mergeK mask dd bs ++ [.tup (as.drop n)]) else .fail
theorem d_makerXS {lv m' : Nat} {n : Nat} {mask : List Bool} {ks : List Str} {dd : List D} {p : Pos} {es : List Expr} {kws : List Keyword} {fa fk : FA} (F : MakerXS X.prog X.w X.K X.mg X.base c.k lv x ci n mask ks dd den) (hr : Room m' X.A) (hle : lv + 1 ≤ m') (tk : L2N.Takes X c.W) (ha : PA' X c false (e :: es) fa) (hk : PK' X c kws fk) (hkl : Len ks.length fk) (hg : Gl X x := by rfl)
    (hall : (backToKw pos (keywordEach kws X.env)).all (·.1.isSome) = true := by rfl) (hks : (backToKw pos (keywordEach kws X.env)).filterMap (·.1) = ks := by rfl) (hdb : (x == ("__debug__" : Str)) = false := by decide)
    (he : starEach (e :: es) X.env = (false, eval e X.env) :: starEach es X.env := by rfl) (hpl : ((backTo pos (starEach (e :: es) X.env)).any (·.1) || (backToKw pos (keywordEach kws X.env)).any (·.1.isNone)) = false := by rfl) :
    PE' X c .fr (.Call (.Name x p) (e :: es) kws pos) (eCXS n mask dd den fa fk) := by
  obtain ⟨C, f, nm, dvs, hcl, mk, hm, hdd, hdl, hml, ok⟩ := F.ex
  refine peI (pe_makeSt mk ok (hr.mono hle) hg hm (fun σ => L2N.passAt tk σ) ha hk hall hks hdb he hpl) fun σ H Q ⟨G, S, rel, p⟩ => ?_
  have p : PostE c .fr G S σ H Q (fa S >>= fun as => fk S >>= fun bs => if n ≤ as.length ∧ as.length ≤ sizeLine then den (as.take n ++ mergeK mask dd bs ++ [.tup (as.drop n)]) else .fail) := p
  refine ⟨G, S, rel, ?_⟩
  cases e1 : fa S with
  | exc x => rw [e1] at p; exact p
  | fail => rw [e1] at p; exact p
  | ok as =>
    rw [e1] at p
    intro vs G1 H1 s1 q1
    refine ⟨G1, S, rel.grow s1, ?_⟩
    have p : PostE c .fr G S σ H Q (fk S >>= fun bs => if n ≤ as.length ∧ as.length ≤ sizeLine then den (as.take n ++ mergeK mask dd bs ++ [.tup (as.drop n)]) else .fail) := p
    cases e2 : fk S with
    | exc x => rw [e2] at p; exact p
    | fail => rw [e2] at p; exact p
    | ok bs =>
      rw [e2] at p
      have p : PostE c .fr G S σ H Q (if n ≤ as.length ∧ as.length ≤ sizeLine then den (as.take n ++ mergeK mask dd bs ++ [.tup (as.drop n)]) else .fail) := p
      by_cases hc : n ≤ as.length ∧ as.length ≤ sizeLine
      · rw [if_pos hc] at p
        intro zs G2 H2 s2 q2
        have q1 : RDs c.k G1 as vs := q1
        have q2 : RDs c.k G2 bs zs := q2
        have l1 := q1.length
        have l2 := hkl S bs e2
        refine ⟨by rw [← l1]; exact hc.1, by rw [← q2.length]; exact l2, by rw [List.length_drop, ← l1]; omega, fun x dx t hx hdx hne ht => ?_⟩
        have sp := s1.trans s2
        have q1' := q1.mono s2.g
        have hgx : G2 x = none := s2.gh.free hx
        have ex0 : Ex H2 (upd (upd H2 dx (.own x)) x (.ins C dx [])) := (Ex.new hdx).upd hx
        have ht2 : H2 t = none := ex0.free ht
        have hgt : G2 t = none := s2.gh.free ht2
        have htx : x ≠ t := fun z => by rw [z, upd_same] at ht; cases ht
        have hG3 : Ex G2 (upd G2 t (.tup (vs.drop n))) := Ex.new hgt
        have ex1 : Ex H2 (upd (upd (upd H2 dx (.own x)) x (.ins C dx [])) t (.tup (vs.drop n))) := ex0.upd ht2
        have exG : Ex (upd G2 t (.tup (vs.drop n))) (upd (upd (upd H2 dx (.own x)) x (.ins C dx [])) t (.tup (vs.drop n))) := fun b o q => by
          by_cases hb : b = t
          · subst hb; rw [upd_same] at q ⊢; exact q
          · rw [upd_ne hb] at q ⊢; exact ex0 _ _ (s2.gh _ _ q)
        have q3 : RDs c.k (upd G2 t (.tup (vs.drop n))) (as.take n ++ mergeK mask dd bs ++ [.tup (as.drop n)]) (vs.take n ++ mergeK mask dvs zs ++ [.ref t]) :=
          (((q1'.take n).mono hG3).append ((mergeK_rds (hdd _) (q2.mono hG3)))).append (.cons (.tup (SqU.of upd_same) ((q1'.drop n).mono hG3)) .nil)
        have ll : (V.ref x :: (vs.take n ++ mergeK mask dvs zs ++ [V.ref t])).length = n + 1 + mask.length + 1 := by
          rw [List.length_cons, ← q3.length, List.length_append, List.length_append, List.length_take, mergeK_len hdl (hml.trans l2.symm)]
          simp only [List.length_cons, List.length_nil]; omega
        refine ⟨ll, x, vs.take n ++ mergeK mask dvs zs ++ [.ref t], upd G2 t (.tup (vs.drop n)), _, C, dx, nm, rfl, hcl, by rw [upd_ne htx]; exact upd_same, by rw [upd_ne htx]; exact hgx, exG, q3, ?_⟩
        have back : ∀ {b : Addr} {u : HO}, upd G2 t (.tup (vs.drop n)) b = some u → G2 b = some u ∨ H2 b = none := fun {b u} q => by
          by_cases hb : b = t
          · subst hb; exact .inr ht2
          · rw [upd_ne hb] at q; exact .inl q
        cases e3 : den (as.take n ++ mergeK mask dd bs ++ [.tup (as.drop n)]) with
        | ok d =>
          rw [e3] at p
          intro G' H' o ex hk gh hgx' gr ho ct
          refine ⟨rfl, p _ G' H' (sp.trans ⟨hG3.trans ex, fun b u q => hk b u (ne_of_none q hx) (ex1 b u q), gh, fun b u q => ?_⟩) ⟨x, o, rfl, hgx', sp.h.free hx, ho, ct⟩⟩
          rcases gr b u q with z | z
          · exact back z
          · exact .inr (ex1.free z)
        | exc y =>
          rw [e3] at p
          have p : PX c σ y := p
          intro _ cls da G' H' s3 xr
          have exl : Ex H2 (less (upd (upd (upd H2 dx (.own x)) x (.ins C dx [])) t (.tup (vs.drop n))) x) := fun b u q => by
            rw [less_ne (ne_of_none q hx)]; exact ex1 b u q
          refine p cls da G' H' ((rel.grow sp).st.trans ⟨hG3.trans s3.g, fun b u q => s3.h b u (exl b u q), s3.gh, fun b u q => ?_⟩) xr
          rcases s3.gr b u q with z | z
          · exact back z
          · exact .inr (exl.free z)
        | fail => rw [e3] at p; exact p.elim
      · rw [if_neg hc] at p; exact fun zs G2 H2 s2 q2 => p.elim
end
end M
namespace M
open PySem L2
def mixK {α : Type} : List Bool → List α → List α → List α
  | true :: bs, ms, g :: gs => g :: mixK bs ms gs
  | false :: bs, m :: ms, gs => m :: mixK bs ms gs
  | _, _, _ => []
def selF {α : Type} : List Bool → List α → List α
  | true :: bs, _ :: ds => selF bs ds
  | false :: bs, d :: ds => d :: selF bs ds
  | _, _ => []
theorem mergeK_mix {α : Type} : ∀ (bs : List Bool) (ds gs : List α), ds.length = bs.length → mergeK bs ds gs = mixK bs (selF bs ds) gs
  | [], _, _, _ => rfl
  | true :: bs, [], _, h => by simp at h
  | false :: bs, [], _, h => by simp at h
  | true :: bs, _ :: ds, [], _ => rfl
  | true :: bs, _ :: ds, g :: gs, h => by simp only [mergeK, selF, mixK]; rw [mergeK_mix bs ds gs (by simpa using h)]
  | false :: bs, d :: ds, gs, h => by simp only [mergeK, selF, mixK]; rw [mergeK_mix bs ds gs (by simpa using h)]
theorem Vals.mixK : ∀ {bs : List Bool} {a c : List V} {b d : List Value}, Vals a b → Vals c d → Vals (M.mixK bs a c) (M.mixK bs b d)
  | [], _, _, _, _, _, _ => by simp only [M.mixK]; exact .nil
  | true :: bs, _, _, _, _, _, .nil => by simp only [M.mixK]; exact .nil
  | true :: bs, _, _, _, _, r, .cons a q => by simp only [M.mixK]; exact .cons a (Vals.mixK r q)
  | false :: bs, _, _, _, _, .nil, _ => by simp only [M.mixK]; exact .nil
  | false :: bs, _, _, _, _, .cons a r, q => by simp only [M.mixK]; exact .cons a (Vals.mixK r q)
end M
set_option Elab.async false
set_option linter.all false
set_option maxRecDepth 100000
set_option maxHeartbeats 4000000
namespace M
open PySem L2 PyProof.Rows
def StarZ (K : PySem.W.Frag) (fd : FuncData) (ps : List Str) (pv : Str) (its : List Value) : Prop :=
  ∀ (M : Model) (A : Around) (Ex : Value → Shared → Prop) (Q : List (Str × Value) → Shared → Prop) (s : Shared) (u : Value), K.In s.heap →
    wpAny M A (newTuple []) (fun t s' => Q (ps.zip (u :: its) ++ [(pv, t)]) s') Ex s → wpAny M A (bindArgs fd ⟨[u], []⟩) Q Ex s
section
variable {K : PySem.W.Frag} {x qual : Str} {params : Arguments} {body : List Stmt} {scope : Scope} {dvs : List V} {kws : List (Str × V)} {f : Addr} {fd : FuncData} {ps : List Str} {pv : Str}
theorem starZ1 (F : FunD K x qual params body scope dvs kws f fd) (hd : dvs ≠ [])
    (h : ∀ (T : Addr) (kV doc pm : Value) (an : Option Addr) (cdv ct : Value) (u : Value) (its : List Value), its.length = dvs.length →
      ∃ k, bindArgs (PySem.W.fnOf x qual params body scope (.ref T) kV doc pm an cdv ct) ⟨[u], []⟩ = seqItems? (.ref T) >>= k ∧ k (some its.toArray) = (newTuple [] >>= fun t => pure (ps.zip (u :: its) ++ [(pv, t)]))) : ∃ its, Vals dvs its ∧ StarZ K fd ps pv its := by
  obtain ⟨oc, od, dV, kV, doc, pm, an, cdv, ct, osl, rfl, lk, hcd, hD, hK⟩ := F.ex
  rcases hD with ⟨e, _⟩ | ⟨_, T, o, its, n, rfl, lT, oT, rT⟩
  · exact absurd e hd
  · refine ⟨its, rT, fun M A Ex Q s u X hq => ?_⟩
    obtain ⟨k, e1, e2⟩ := h T kV doc pm an cdv ct u its rT.length.symm
    rw [e1]
    refine wpAny_bind (wpAny_seqItems (X _ _ lT) oT ?_)
    rw [e2]
    exact tail_star hq
end
def FnStarZ (P : Program) (w : World) (K : PySem.W.Frag) (mg : Str → Option Value) (base : Heap) (CX : CXT) (lv : Nat) (f : Addr) (dvs : List V) (sp : Sp) : Prop :=
  ∀ (A : Around) (outer : List PySem.Env) (s : Shared) (H : Hp) (u : Value) (v : V) (Q : VK) (E : XK), Room lv A → Env0 P w K mg base A outer s H → RelV v u →
    (∀ p, H p = none → sp (v :: dvs ++ [.ref p]) (upd H p (.tup [])) Q E) → codeAny (model P w) A (.call (.ref f) ⟨[u], []⟩) (CR CX outer P w H s Q E) s
section
variable {CX : CXT} {P : Program} {w : World} {K : PySem.W.Frag} {mg : Str → Option Value} {base : Heap} {k : Nat} {x qual : Str} {params : Arguments} {body : List Stmt} {scope : Scope} {dvs : List V} {kws : List (Str × V)} {f : Addr} {fd : FuncData} {N ps : List Str} {pv : Str} {sp : Sp}
theorem fn_starZ (F : FunD K x qual params body scope dvs kws f fd) (S : FnScope N (ps ++ [pv]) scope) (hCX : StX.CXUp CX) {its : List Value} (rI : Vals dvs its) (hb : StarZ K fd ps pv its) (hlen : dvs.length + 1 = ps.length)
    (hbody : ∀ (cdv : Value) (A : Around) (outer : List PySem.Env) (s : Shared) (H : Hp) (vs : List V) (Q : VK) (E : XK), Room k (A.deeper (envOfC qual scope s.heap.objs.size f cdv)) → sp vs H Q E →
      ∃ t, PSs (cxOf CX P w K mg base N qual scope f cdv A outer s H E) body t ∧ t { nx := fun _ H' => Q .non H', rt := Q } (L2.start N vs) H) : FnStarZ P w K mg base CX (k + 1) f dvs sp := by
  obtain ⟨oc, od, dV, kV, doc, pm, an, cdv, ct, osl, rfl, lk, hcd, _, _⟩ := F.ex
  intro A outer s H u v Q E hr e0 r1 hq
  have hn : H s.heap.objs.size = Option.none := e0.hok.fresh (Nat.le_refl _)
  have KX : K.In s.heap := e0.mod.kin.keeps fun b o e => (e0.bs b o e).1
  have rg : Vals (v :: dvs) (u :: its) := .cons r1 rI
  have lv : (v :: dvs).length = ps.length := by rw [List.length_cons]; exact hlen
  have lg : (u :: its).length = ps.length := rg.length.symm.trans lv
  refine StX.run_bnd lk hcd S hr e0 (G := fun as H2 => ∃ p, H p = Option.none ∧ as = (v :: dvs) ++ [V.ref p] ∧ H2 = upd H p (.tup [])) (fun A' Ex Q' h => ?_) fun s2 H2 as ⟨p, hp, ex, eH⟩ hr' => ?_
  · refine hb _ _ _ _ s u KX (wpAny_newTuple ?_ (Nat.zero_le _))
    have new : ObjOk P w (upd H s.heap.objs.size (.tup [])) (s.heap.push ({ cls := .type "tuple", data := .seq ([] : List Value).toArray } : Obj)) s.heap.objs.size (.tup []) := ⟨Nat.zero_le _, [], .nil, ⟨_, Heap.get?_push_size _ rfl, rfl, _, rfl⟩⟩
    have un := StX.un_laid (fs := frs outer) (s := s) (o := ({ cls := .type "tuple", data := .seq ([] : List Value).toArray } : Obj)) (u := .tup []) hn
    have z := h _ _ ((v :: dvs) ++ [V.ref s.heap.objs.size]) ((u :: its) ++ [Value.ref s.heap.objs.size]) (StX.env0_laid e0 new) un rfl (fun e s' => hCX outer s H _ _ E e s' un (fun b o q => Heap.get?_push_of_some _ q) rfl) (rg.append (.cons rfl .nil))
      (by rw [List.length_append, List.length_append, lv] <;> rfl) ⟨_, hn, rfl, rfl⟩
    rw [List.zip_append lg.symm] at z
    exact z
  · subst ex eH
    exact hbody cdv A outer s2 _ _ Q E hr' (hq p hp)
theorem init_okZ {k : Kn} {as : List Nat} {lv ci : Nat} {s : FS} (F : FunD k.K x qual params body scope dvs kws f fd) (S : FnScope N (ps ++ [pv]) scope) (h0 : 0 ∉ as) {its : List Value} (rI : Vals dvs its) (hb0 : StarZ k.K fd ps pv its) (hlen : dvs.length + 1 = ps.length)
    (hb : ∀ (cdv : Value) (A : Around) (outer : List PySem.Env) (sh : Shared) (H H0 G0 : Hp) (E : XK), Room lv (A.deeper (PyProof.Rows.envOfC qual scope sh.heap.objs.size f cdv)) → L2N.Takes (cxOf (L2N.CX P w) P w k.K mg base N qual scope f cdv A outer sh H E) (liftX E) →
      PB' (cxOf (L2N.CX P w) P w k.K mg base N qual scope f cdv A outer sh H E) ⟨k, H0, G0, liftX E⟩ false as body s) :
    FnStarZ P w k.K mg base (L2N.CX P w) (lv + 1) f dvs (SpN k ci (ps.length + 1) (runN N.length ci s)) := by
  refine fn_starZ F S cxUpN rI hb0 hlen fun cdv A outer sh H vs Q E hr q => ?_
  have q' : SpN k ci (ps ++ [pv]).length (runN N.length ci s) vs H Q E := by rw [List.length_append]; exact q
  exact body_init (X := cxOf (L2N.CX P w) P w k.K mg base N qual scope f cdv A outer sh H E) h0 (fun H0 G0 => hb cdv A outer sh H H0 G0 E hr (L2N.takes_of rfl rfl rfl rfl)) q'
end
structure MakerXZ (P : Program) (w : World) (K : PySem.W.Frag) (mg : Str → Option Value) (base : Heap) (k : Kn) (lv : Nat) (x : Str) (ci : Nat) (dd : List D) (den : List D → R D) : Prop where
  ex : ∃ (C f : Addr) (nm : List Str) (dvs : List V), k.cl ci = some (C, nm) ∧ Mk K C f ∧ mg x = some (.ref C) ∧ (∀ G, RDs k G dd dvs) ∧ FnStarZ P w K mg base (L2N.CX P w) lv f dvs (SpN k ci (dd.length + 2) den)
section
variable {X : Cx} {c : Cf} {kd k1 k2 k3 : Kd} {a b e o : Expr} {f g h : FE} {pos apos : Pos} {fr : Bool} {x : Str} {den : List D → R D} {ci : Nat}
theorem run_makeZ {CX : CXT} {k : Nat} {C f : Addr} {sp : Sp} {E : XK} {dvs : List V} {pins : List (Addr × Obj)} {σ : L2.St} {H : Hp} {s : Shared} {Q : VK} (Mm : Mk X.K C f) (F : FnStarZ X.prog X.w X.K X.mg X.base CX k f dvs sp) (hr : Room (k + 1) X.A)
    (hx : ∀ (H : Hp) (s : Shared) (e : Value) (s' : Shared), L2.Inv X pins σ H s → CX X.stack H s E e s' → X.xe e s') (I : L2.Inv X pins σ H s)
    (h : ∀ x dx p, H x = none → H dx = none → dx ≠ x → upd (upd H dx (.own x)) x (.ins C dx []) p = none → sp (V.ref x :: dvs ++ [.ref p]) (upd (upd (upd H dx (.own x)) x (.ins C dx [])) p (.tup [])) (fun v H2 => v = .non ∧ Q (.ref x) H2) E) :
    wpAny (model X.prog X.w) X.A (call (.ref C) []) (EP X pins σ Q) X.xe s := by
  have hq := h (s.heap.objs.size + 1) s.heap.objs.size
  have I2 := L2.Inv.made (C := C) I
  refine wpAny_call (make_map (f := f) I.kIn Mm.makes Mm.init (beq_iff_eq.mp Mm.fn) (codeAny_mono (F _ X.stack _ _ (Value.ref (s.heap.objs.size + 1)) (V.ref (s.heap.objs.size + 1)) _ E (hr.make C [] [])
    (I2.env0.make C [] []) rfl fun p hp => hq p (I.hok.fresh (Nat.le_succ _)) (I.hok.fresh (Nat.le_refl _)) (Nat.ne_of_lt (Nat.lt_succ_self _)) hp) fun r s' hq' => ?_))
  cases r with
  | error e => exact hx _ _ e s' I2 hq'
  | ok fl =>
    cases fl with
    | ret u =>
      obtain ⟨v, H', I3, rv, ev, q3⟩ := I2.after hq'
      subst ev
      exact ⟨rv, ⟨V.ref (s.heap.objs.size + 1), H', I3, rfl, q3⟩⟩
    | next => exact False.elim hq'
    | brk => exact False.elim hq'
    | cont => exact False.elim hq'
def tMakeZ (C : Addr) (dvs : List V) (sp : Sp) (E : L2.St → XK) : TE := fun σ H2 Q => ∀ x dx p, H2 x = none → H2 dx = none → dx ≠ x → upd (upd H2 dx (.own x)) x (.ins C dx []) p = none →
  sp (V.ref x :: dvs ++ [.ref p]) (upd (upd (upd H2 dx (.own x)) x (.ins C dx [])) p (.tup [])) (fun v H3 => v = .non ∧ Q (.ref x) H3) (E σ)
theorem pe_makeZ {CX : CXT} {E : L2.St → XK} {k : Nat} {C f : Addr} {sp : Sp} {p : Pos} {dvs : List V} (Mm : Mk X.K C f) (F : FnStarZ X.prog X.w X.K X.mg X.base CX k f dvs sp) (hr : Room (k + 1) X.A) (hg : Gl X x) (hm : X.mg x = some (.ref C)) (hx : ∀ σ, PassesAt CX X σ (E σ))
    (hdb : (x == ("__debug__" : Str)) = false := by decide) (hall : (backToKw pos (keywordEach [] X.env)).all (·.1.isSome) = true := by rfl) (hks : (backToKw pos (keywordEach [] X.env)).filterMap (·.1) = [] := by rfl)
    (hpl : ((backTo pos (starEach [] X.env)).any (·.1) || (backToKw pos (keywordEach [] X.env)).any (·.1.isNone)) = false := by rfl) :
    PE X (.Call (.Name x p) [] [] pos) (tMakeZ C dvs sp E) := by
  refine ⟨fun pins s σ H Q I h => ?_⟩
  refine wpAny_Call_Name_kw (ld_glob I hg hm ?_ hdb)
  refine PySem.W.callWith_KW0 (h₀ := X.base) I.ok.mod.kin Mm.kp hall ?_ hpl
  refine wpAny_pure ⟨I.kIn, ?_⟩
  exact run_makeZ Mm F hr (fun H s e s' => hx σ pins H s e s') I h
def eCXZ (dd : List D) (o : List D → R D) : FE := fun _ => o (dd ++ [.tup []])
theorem d_makerXZ {lv m' : Nat} {dd : List D} {p : Pos} (F : MakerXZ X.prog X.w X.K X.mg X.base c.k lv x ci dd den) (hr : Room m' X.A) (hle : lv + 1 ≤ m') (tk : L2N.Takes X c.W) (hg : Gl X x := by rfl)
    (hdb : (x == ("__debug__" : Str)) = false := by decide) (hall : (backToKw pos (keywordEach [] X.env)).all (·.1.isSome) = true := by rfl) (hks : (backToKw pos (keywordEach [] X.env)).filterMap (·.1) = [] := by rfl)
    (hpl : ((backTo pos (starEach [] X.env)).any (·.1) || (backToKw pos (keywordEach [] X.env)).any (·.1.isNone)) = false := by rfl) :
    PE' X c .fr (.Call (.Name x p) [] [] pos) (eCXZ dd den) := by
  obtain ⟨C, f, nm, dvs, hcl, mk, hm, hdd, ok⟩ := F.ex
  refine peI (pe_makeZ mk ok (hr.mono hle) hg hm (fun σ => L2N.passAt tk σ) hdb hall hks hpl) fun σ H2 Q ⟨G2, S, rel, p⟩ => ?_
  have p : PostE c .fr G2 S σ H2 Q (den (dd ++ [.tup []])) := p
  intro x dx t hx hdx hne ht
  have gh := rel.st.gh
  have hgx : G2 x = none := gh.free hx
  have ex0 : Ex H2 (upd (upd H2 dx (.own x)) x (.ins C dx [])) := (Ex.new hdx).upd hx
  have ht2 : H2 t = none := ex0.free ht
  have hgt : G2 t = none := gh.free ht2
  have htx : x ≠ t := fun z => by rw [z, upd_same] at ht; cases ht
  have hG3 : Ex G2 (upd G2 t (.tup [])) := Ex.new hgt
  have ex1 : Ex H2 (upd (upd (upd H2 dx (.own x)) x (.ins C dx [])) t (.tup [])) := ex0.upd ht2
  have exG : Ex (upd G2 t (.tup [])) (upd (upd (upd H2 dx (.own x)) x (.ins C dx [])) t (.tup [])) := fun b o q => by
    by_cases hb : b = t
    · subst hb; rw [upd_same] at q ⊢; exact q
    · rw [upd_ne hb] at q ⊢; exact ex0 _ _ (gh _ _ q)
  have q3 : RDs c.k (upd G2 t (.tup [])) (dd ++ [.tup []]) (dvs ++ [.ref t]) := (hdd _).append (.cons (.tup (SqU.of upd_same) .nil) .nil)
  have ll : (V.ref x :: dvs ++ [V.ref t]).length = dd.length + 2 := by
    rw [List.cons_append, List.length_cons, ← q3.length, List.length_append]; rfl
  refine ⟨ll, x, dvs ++ [.ref t], upd G2 t (.tup []), _, C, dx, nm, rfl, hcl, by rw [upd_ne htx]; exact upd_same, by rw [upd_ne htx]; exact hgx, exG, q3, ?_⟩
  have back : ∀ {b : Addr} {u : HO}, upd G2 t (.tup []) b = some u → G2 b = some u ∨ H2 b = none := fun {b u} q => by
    by_cases hb : b = t
    · subst hb; exact .inr ht2
    · rw [upd_ne hb] at q; exact .inl q
  cases e3 : den (dd ++ [.tup []]) with
  | ok d =>
    rw [e3] at p
    intro G' H' o ex hk gh gh' gr ho ct
    refine ⟨rfl, p _ G' H' ⟨hG3.trans ex, fun b u q => hk b u (ne_of_none q hx) (ex1 b u q), gh, fun b u q => ?_⟩ ⟨x, o, rfl, gh', hx, ho, ct⟩⟩
    rcases gr b u q with z | z
    · exact back z
    · exact .inr (ex1.free z)
  | exc y =>
    rw [e3] at p
    have p : PX c σ y := p
    intro _ cls da G' H' s3 xr
    have exl : Ex H2 (less (upd (upd (upd H2 dx (.own x)) x (.ins C dx [])) t (.tup [])) x) := fun b u q => by
      rw [less_ne (ne_of_none q hx)]; exact ex1 b u q
    refine p cls da G' H' (rel.st.trans ⟨hG3.trans s3.g, fun b u q => s3.h b u (exl b u q), s3.gh, fun b u q => ?_⟩) xr
    rcases s3.gr b u q with z | z
    · exact back z
    · exact .inr (exl.free z)
  | fail => rw [e3] at p; exact p.elim
end
end M
set_option Elab.async false
set_option linter.all false
set_option maxRecDepth 100000
set_option maxHeartbeats 4000000
namespace M
open PySem PySem.Spec PyProof.Rows L2
theorem tuple_mul1 (l : Addr) (items : Array Value) (n : Nat) (sl : Array (Option Value)) (dd : Option Addr) (u : Tok) :
    Meets (Builtin.«tuple.__mul__» ⟨[.ref l, .int 1 u], []⟩) (fun _ R s => s.heap.get? l = some { cls := .type "tuple", dict := dd, data := .seq items n, slots := sl } ∧ R (.ok (.ret (Value.ref l))) s) :=
  .of_wp fun prog w A R s h => by
    obtain ⟨hp, g, d, tk, os⟩ := s
    obtain ⟨hl, h⟩ := h
    have f1 := AutoSeq1.idx_int
    have c1 : (items.isEmpty || (1 : Int) == 1) = true := by rw [Bool.or_comm]; rfl
    wp_walk using wpAny_loadPart' hl
    exact ⟨_, rfl, h⟩
theorem tuple_mul0 (l : Addr) (items : Array Value) (n : Nat) (sl : Array (Option Value)) (dd : Option Addr) (u : Tok) (c1 : (items.isEmpty || (0 : Int) == 1) = false) :
    Meets (Builtin.«tuple.__mul__» ⟨[.ref l, .int 0 u], []⟩) (fun _ R s => s.heap.get? l = some { cls := .type "tuple", dict := dd, data := .seq items n, slots := sl } ∧
      R (.ok (.ret (Value.ref s.heap.objs.size))) { s with heap := s.heap.push { cls := Value.type "tuple", data := Data.seq #[] }, toks := s.toks }) :=
  .of_wp fun prog w A R s h => by
    obtain ⟨hp, g, d, tk, os⟩ := s
    obtain ⟨hl, h⟩ := h
    have f1 := AutoSeq1.idx_int
    wp_walk using wpAny_loadPart' hl
    repeat (first
      | (refine wpAny_ite_false (decide_eq_false (by rw [c1]; exact Bool.false_ne_true)) ?_; wp_walk using wpAny_loadPart' hl))
    exact ⟨_, rfl, h⟩
def rRepT1 (K : PySem.W.Frag) : R2 := fun x y H Q => ∃ l xs, x = .ref l ∧ y = .int 1 ∧ SqT K H l xs ∧ Q (.ref l) H
def rRepT0 (K : PySem.W.Frag) : R2 := fun x y H Q => ∃ l xs, x = .ref l ∧ y = .int 0 ∧ SqT K H l xs ∧ xs ≠ [] ∧ ∀ p, H p = none → Q (.ref p) (upd H p (.tup []))
section
variable {X : Cx}
theorem op_repT1 : OpR X (binaryOp .Mult) (rRepT1 X.K) := by
  intro pins s σ H x y v u Q I rx ry h
  obtain ⟨l, xs, rfl, rfl, hT, q⟩ := h
  cases rx
  obtain ⟨t, rfl⟩ := ry
  obtain ⟨its, r, ⟨⟨cls, dd, data, sl⟩, ho, hc, n, hd⟩, hs⟩ := I.tuple hT
  simp only at hc hd
  subst hc hd
  refine wpAny_binaryOp_repeat_ref (T := "tuple") (U := "int") (by decide) ⟨_, ho, rfl⟩ (fun s' => typeIs_int s' 1 t) noFill_tuple_mul F.fills_int_mul F.slot_int_rmul repeat_tuple F.slot_int_index.lookup
    (call_meets F.slot_int_rmul (typeIs_int s 1 t) F.entry_int_rmul (F.args_int_rmul_2 _ _) (int_rmul_tuple 1 t l its.toArray n dd sl)
      ⟨ho, rfl, ⟨_, ho, rfl⟩, call_meets F.slot_tuple_mul ⟨_, ho, rfl⟩ F.entry_tuple_mul (F.args_tuple_mul_2 _ _) (tuple_mul1 l its.toArray n sl dd t) ⟨ho, ?_⟩⟩)
  exact ⟨.ref l, H, I, rfl, q⟩
theorem op_repT0 : OpR X (binaryOp .Mult) (rRepT0 X.K) := by
  intro pins s σ H x y v u Q I rx ry h
  obtain ⟨l, xs, rfl, rfl, hT, hne, q⟩ := h
  cases rx
  obtain ⟨t, rfl⟩ := ry
  obtain ⟨its, r, ⟨⟨cls, dd, data, sl⟩, ho, hc, n, hd⟩, hs⟩ := I.tuple hT
  simp only at hc hd
  subst hc hd
  have hn : its ≠ [] := fun e => hne (by
    rw [e] at r
    exact List.eq_nil_of_length_eq_zero r.length)
  have c1 : (its.toArray.isEmpty || (0 : Int) == 1) = false := by
    cases its with
    | nil => exact absurd rfl hn
    | cons a b => rfl
  refine wpAny_binaryOp_repeat_ref (T := "tuple") (U := "int") (by decide) ⟨_, ho, rfl⟩ (fun s' => typeIs_int s' 0 t) noFill_tuple_mul F.fills_int_mul F.slot_int_rmul repeat_tuple F.slot_int_index.lookup
    (call_meets F.slot_int_rmul (typeIs_int s 0 t) F.entry_int_rmul (F.args_int_rmul_2 _ _) (int_rmul_tuple 0 t l its.toArray n dd sl)
      ⟨ho, rfl, ⟨_, ho, rfl⟩, call_meets F.slot_tuple_mul ⟨_, ho, rfl⟩ F.entry_tuple_mul (F.args_tuple_mul_2 _ _) (tuple_mul0 l its.toArray n sl dd t c1) ⟨ho, ?_⟩⟩)
  refine ⟨.ref s.heap.objs.size, _, I.laid (t' := s.toks) (o := .tup []) (fun b ob q => Heap.get?_push_of_some _ q) (Nat.le_refl _) ?_, rfl, q _ (I.hok.fresh (Nat.le_refl _))⟩
  exact ⟨Nat.zero_le _, _, .nil, IsTup.new _ _⟩
end
def mulT : D → D → R D
  | .tup xs, .int j => if j = 1 then .ok (.tup xs) else if j = 0 ∧ xs ≠ [] then .ok (.tup []) else mulD (.tup xs) (.int j)
  | x, y => mulD x y
theorem o_mulT {X : Cx} {k : Kn} (hk : k.K = X.K) : Op2 X k (binaryOp .Mult) .st mulT := by
  obtain ⟨r0, h0, z0⟩ := o_mul (k := k) (X := X) hk
  refine ⟨_, op_repT1.or (op_repT0.or h0), ?_⟩
  intro G H x y u v d e nx ny hg Q q
  unfold mulT at hg
  split at hg
  · rename_i xs j
    split at hg
    · rename_i hj
      cases hg; subst hj
      obtain rfl := ny.int
      obtain ⟨a, vs, rfl, ha, r⟩ := nx.tup
      exact .inl ⟨a, vs, rfl, rfl, hk ▸ e.sqT ha.t, q _ _ _ (Step.refl e) (.tup ha r)⟩
    · split at hg
      · rename_i hj
        cases hg
        obtain ⟨rfl, hne⟩ := hj
        obtain rfl := ny.int
        obtain ⟨a, vs, rfl, ha, r⟩ := nx.tup
        refine .inr (.inl ⟨a, vs, rfl, rfl, hk ▸ e.sqT ha.t, fun z => hne ?_, fun p hp => q _ _ _ (Step.new e hp) (.tup (SqU.of upd_same) .nil)⟩)
        subst z; cases r; rfl
      · exact .inr (.inr (z0 G H _ _ u v d e nx ny hg Q q))
  · exact .inr (.inr (z0 G H _ _ u v d e nx ny hg Q q))
end M
set_option Elab.async false
set_option linter.all false
set_option maxRecDepth 100000
set_option maxHeartbeats 4000000
namespace M
open PySem L2
def mulSt (a : Str) (n : Int) : Str := if n < 1 then Str.empty else if (n == 1 || a.length == 0) = true then a else ⟨(List.replicate n.toNat a.cps).foldl (· ++ ·) #[]⟩
def rMulS : R2 := fun x y H Q => ∃ a n, x = .str a ∧ y = .int n ∧ 0 ≤ n ∧ n ≤ 64 ∧ a.length ≤ 64 ∧ (mulSt a n).length ≤ sizeLine ∧ Q (.str (mulSt a n)) H
section
variable {X : Cx} {k : Kn}
theorem op_mulS : OpR X (binaryOp .Mult) rMulS := by
  intro pins s σ H x y v u Q I rx ry h
  obtain ⟨a, n, rfl, rfl, h0, h1, h2, h3, q⟩ := h
  obtain ⟨t, rfl⟩ := (show ∃ t, v = Value.str a t from rx)
  obtain ⟨t2, rfl⟩ := (show ∃ t, u = Value.int n t from ry)
  refine P.mul_str (by
    have e1 : ¬ n < -(2 ^ 63 : Int) := by omega
    have e2 : ¬ n ≥ 2 ^ 63 := by omega
    rw [decide_eq_false e1, decide_eq_false e2]; rfl) (fun c1 c2 hgt => ?_) (fun c1 c2 => ?_) ?_
  · have hd : (2 ^ 63 - 1 : Int) / n ≥ 64 := by
      have : (64 : Int) ≤ (2 ^ 63 - 1) / n := (Int.le_ediv_iff_mul_le (by omega)).mpr (by omega)
      exact this
    omega
  · unfold Builtin.Str.tooLong
    have hm : a.length * n.toNat ≤ 64 * 64 := Nat.mul_le_mul h2 (by omega)
    have : (64 * 64 : Nat) ≤ sizeLine := by decide
    exact decide_eq_false (by omega)
  · unfold mulSt at q h3
    split
    · rename_i c
      rw [if_pos c] at q h3
      exact ⟨h3, .str _, H, I.tok _, ⟨_, rfl⟩, q⟩
    · rename_i c
      rw [if_neg c] at q h3
      split
      · rename_i c2
        rw [if_pos c2] at q
        exact ⟨.str _, H, I, ⟨_, rfl⟩, q⟩
      · rename_i c2
        rw [if_neg c2] at q h3
        exact ⟨h3, .str _, H, I.tok _, ⟨_, rfl⟩, q⟩
def mulTS : D → D → R D
  | .str a, .int n => if 0 ≤ n ∧ n ≤ 64 ∧ a.length ≤ 64 ∧ (mulSt a n).length ≤ sizeLine then .ok (.str (mulSt a n)) else .fail
  | x, y => mulT x y
theorem o_mulTS (hk : k.K = X.K) : Op2 X k (binaryOp .Mult) .st mulTS := by
  obtain ⟨r0, h0, z0⟩ := o_mulT (k := k) (X := X) hk
  refine ⟨_, op_mulS.or h0, ?_⟩
  intro G H x y u v d e nx ny hg Q q
  unfold mulTS at hg
  split at hg
  · rename_i a n
    split at hg
    · rename_i hc
      cases hg
      obtain rfl := ny.int
      obtain rfl : u = .str a := by
        rcases nx with n | ⟨a, o, rfl, h, ct⟩
        · cases n; rfl
        · cases ct
      exact .inl ⟨a, n, rfl, rfl, hc.1, hc.2.1, hc.2.2.1, hc.2.2.2, q _ _ _ (Step.refl e) (.str _)⟩
    · cases hg
  · exact .inr (z0 G H _ _ u v d e nx ny hg Q q)
end
end M
set_option Elab.async false
set_option linter.all false
set_option maxRecDepth 100000
set_option maxHeartbeats 4000000
namespace M
open PySem L2
section
variable {X : Cx} {k : Kn}
def isntBD (x y : D) : R D := match x, y with
  | .bl a, .bl b => .ok (.bl (!decide (a = b)))
  | x, y => isntD x y
theorem now_bl {G H : Hp} {b : Bool} {u : V} (n : Now k G H (.bl b) u) : u = .bl b := by
  rcases n with n | ⟨a, o, rfl, h, ct⟩
  · cases n; rfl
  · cases ct
theorem o_isntB : Op2 X k (compareOp .IsNot) .st isntBD := by
  obtain ⟨r0, h0, z0⟩ := o_isnt (X := X) (k := k)
  refine ⟨_, (op_isnot_bl (X := X)).or h0, ?_⟩
  intro G H x y u v d e nx ny hg Q q
  unfold isntBD at hg
  split at hg
  · cases hg
    obtain rfl := now_bl nx
    obtain rfl := now_bl ny
    exact .inl ⟨_, _, rfl, rfl, q _ G H (Step.refl e) (.bl _)⟩
  · exact .inr (z0 G H _ _ u v d e nx ny hg Q q)
end
end M
set_option Elab.async false
set_option linter.all false
set_option maxRecDepth 100000
set_option maxHeartbeats 4000000
namespace M
open PySem L2
section
variable {X : Cx} {c : Cf} {o : Expr} {f : FE} {pos apos : Pos} {fr : Bool} {den : List D → R D}
def tCMeth0 (C : Addr) (sp : Sp) (E : L2.St → XK) (ta : TE) : TE := fun σ H Q => ta σ H fun x H1 => x = .ref C ∧ sp [.ref C] H1 Q (E σ)
theorem pe_cmeth0 {CX : CXT} {E : L2.St → XK} {k : Nat} {C p g : Addr} {mc : Value} {fd : FuncData} {ps : List Str} {sp : Sp} {m : Str} {ta : TE} {pl : Sem Bool} (he : PE X o ta) (r : ClX.CRead X.K C mc) (cm : ClX.CMet X.K C mc m p g) (F : FnOk X.prog X.w X.K X.mg X.base CX k g fd ps sp) (hr : Room k X.A) (hb : Binds X.K fd ps []) (hx : ∀ σ, PassesAt CX X σ (E σ))
    (ht : eval (.Call (.Attribute o m apos) [] [] pos) X.env = (do
      let ov ← eval o X.env
      standAt apos.atName
      let (f, first) ← holding [ov] (getMethod ov m pl)
      callWith pos f first (backTo pos (starEach [] X.env)) (backToKw pos (keywordEach [] X.env))) := by rfl) :
    PE X (.Call (.Attribute o m apos) [] [] pos) (tCMeth0 C sp E ta) := by
  refine ⟨fun pins s σ H Q I h => ?_⟩
  refine PySem.W.methodCall_KW (pl := pl) (thn (he.run pins s σ H _ I h) fun u s1 ⟨x, H1, I1, rx, ex, q2⟩ => ?_) ht
  subst ex
  obtain rfl : u = Value.ref C := rx
  refine ClX.getmethcm_ok I1 r cm fun s2 I3 => ?_
  refine PySem.W.callWith_M0 (K := X.K) (first := []) ⟨ClX.pin_at I3, I3.kIn⟩ cm.fi ?_
  have r2 : Vals [V.ref C] [Value.ref C] := .cons rfl .nil
  have hl : [Value.ref C].length = ps.length := by rw [← r2.length]; exact F.len _ _ _ _ q2
  have bb := hb s2 [Value.ref C] I3.kIn (by rw [List.append_nil]; exact hl)
  rw [List.append_nil] at bb
  have z : wpAny (model X.prog X.w) X.A (call (.ref s1.heap.objs.size) []) (EP X ((s1.heap.objs.size, PySem.W.methodObj (.ref g) (.ref C)) :: pins) σ Q) X.xe s2 :=
    wpAny_call (PySem.W.method_call (ClX.pin_at I3) (codeAny_mono (F.run X.A X.stack s2 H1 ⟨[Value.ref C], []⟩ [Value.ref C] [V.ref C] Q _ hr I3.env0 bb r2 q2) fun r s' hq => by
      cases r with
      | error e => exact hx σ _ H1 s2 e s' I3 hq
      | ok fl =>
        cases fl with
        | ret u => exact I3.after hq
        | next => exact False.elim hq
        | brk => exact False.elim hq
        | cont => exact False.elim hq))
  exact thn z fun _ _ y => ClX.unpinE y
def eCM0 (ci : Nat) (den : List D → R D) (f : FE) : FE := fun S => f S >>= fun o => if isClsD ci o then den [o] else .fail
theorem d_cmeth0 {lv m' : Nat} (ci : Nat) {m : Str} {pl : Sem Bool} (F : CmethX X.prog X.w X.K X.mg X.base c.k lv ci m 1 fr den) (hr : Room m' X.A) (hle : lv ≤ m') (tk : L2N.Takes X c.W) (ho : PE' X c .st o f)
    (ht : eval (.Call (.Attribute o m apos) [] [] pos) X.env = (do
      let ov ← eval o X.env
      standAt apos.atName
      let (f, first) ← holding [ov] (getMethod ov m pl)
      callWith pos f first (backTo pos (starEach [] X.env)) (backToKw pos (keywordEach [] X.env))) := by rfl) :
    PE' X c (kdOf fr) (.Call (.Attribute o m apos) [] [] pos) (eCM0 ci den f) := by
  obtain ⟨C, p, g, mc, fd, ps, nm, hn, hcl, cr, cm, ok, bd⟩ := F.ex
  refine peI (pe_cmeth0 ho cr cm ok (hr.mono hle) bd (fun σ => L2N.passAt tk σ) ht) fun σ H Q ⟨G, S, rel, q⟩ => ?_
  refine rdE_go (g := fun o => if isClsD ci o then den [o] else .fail) (Post := PostE c (kdOf fr) G S σ H Q) rel q (fun _ z => z) (fun z => z) fun d v G1 H1 s1 q1 p1 => ?_
  by_cases ho : isClsD ci d = true
  · rw [if_pos ho] at p1
    cases d with
    | cls c' =>
      have hc : c' = ci := by simpa [isClsD] using ho
      subst hc
      have q1 : RD c.k G1 (.cls c') v := q1
      cases q1 with
      | cls h =>
        rw [hcl] at h; cases h
        refine ⟨rfl, rfl, G1, [.cls c'], s1.gh, .cons (.cls hcl) .nil, ?_⟩
        cases e1 : den [.cls c'] with
        | ok d => rw [e1] at p1; exact fun v G' H' s3 r3 => p1 v G' H' (s1.trans s3) (r3.mono s1.h)
        | exc x =>
          rw [e1] at p1
          have p1 : PX c σ x := p1
          exact fun _ cls da G' H' s3 xr => p1 cls da G' H' ((rel.grow s1).st.trans s3) xr
        | fail => rw [e1] at p1; exact p1.elim
    | _ => simp [isClsD] at ho
  · rw [if_neg ho] at p1; exact p1.elim
theorem d_cmeth0S {lv m' : Nat} (ci : Nat) {m : Str} {pl : Sem Bool} (F : CmethX X.prog X.w X.K X.mg X.base c.k lv ci m 1 false den) (hr : Room m' X.A) (hle : lv ≤ m') (tk : L2N.Takes X c.W) (ho : PE' X c .st o f)
    (ht : eval (.Call (.Attribute o m apos) [] [] pos) X.env = (do
      let ov ← eval o X.env
      standAt apos.atName
      let (f, first) ← holding [ov] (getMethod ov m pl)
      callWith pos f first (backTo pos (starEach [] X.env)) (backToKw pos (keywordEach [] X.env))) := by rfl) :
    PE' X c .st (.Call (.Attribute o m apos) [] [] pos) (eCM0 ci den f) := d_cmeth0 ci F hr hle tk ho ht
end
end M
set_option Elab.async false
set_option linter.all false
set_option maxRecDepth 100000
set_option maxHeartbeats 4000000
namespace M
open PySem L2
inductive NK where
  | dic (ks : List Key) | lst
structure Nd where
  k : NK
  es : List (Bool × D)
def Nd.d (n : Nd) : D := match n.k with
  | .dic ks => .dic ks (n.es.map (·.2))
  | .lst => .lst (n.es.map (·.2))
def NK.ho (k : NK) (vs : List V) : HO := match k with
  | .dic ks => .dK (ks.zip vs)
  | .lst => .lst vs
def NK.wf (k : NK) (n : Nat) : Prop := match k with
  | .dic ks => ks.length = n
  | .lst => True
inductive EnR (k : Kn) (G H : Hp) : List (Bool × D) → List V → List Addr → Prop
  | nil : EnR k G H [] [] []
  | st {d : D} {v : V} {es : List (Bool × D)} {vs : List V} {bs : List Addr} : RD k G d v → EnR k G H es vs bs → EnR k G H ((false, d) :: es) (v :: vs) bs
  | ow {d : D} {b : Addr} {o : HO} {es : List (Bool × D)} {vs : List V} {bs : List Addr} : H b = some o → Cont k G d o → EnR k G H es vs bs → EnR k G H ((true, d) :: es) (.ref b :: vs) (b :: bs)
section
variable {k : Kn} {G G' H H' : Hp}
theorem EnR.keep (e : Ex G G') : ∀ {es : List (Bool × D)} {vs : List V} {bs : List Addr}, (∀ b, b ∈ bs → H' b = H b) → EnR k G H es vs bs → EnR k G' H' es vs bs
  | _, _, _, _, .nil => .nil
  | _, _, _, h, .st r t => .st (r.mono e) (EnR.keep e h t)
  | _, _, _, h, .ow q r t => .ow (by rw [h _ (List.mem_cons_self ..)]; exact q) (r.mono e) (EnR.keep e (fun b hb => h b (List.mem_cons_of_mem _ hb)) t)
theorem EnR.len : ∀ {es : List (Bool × D)} {vs : List V} {bs : List Addr}, EnR k G H es vs bs → es.length = vs.length
  | _, _, _, .nil => rfl
  | _, _, _, .st r t => by rw [List.length_cons, List.length_cons, EnR.len t]
  | _, _, _, .ow _ r t => by rw [List.length_cons, List.length_cons, EnR.len t]
theorem EnR.live : ∀ {es : List (Bool × D)} {vs : List V} {bs : List Addr}, EnR k G H es vs bs → ∀ b, b ∈ bs → ∃ o, H b = some o
  | _, _, _, .nil, b, h => by cases h
  | _, _, _, .st r t, b, h => EnR.live t b h
  | _, _, _, .ow q r t, b, h => by
    rcases List.mem_cons.mp h with rfl | h
    · exact ⟨_, q⟩
    · exact EnR.live t b h
theorem EnR.get : ∀ {es : List (Bool × D)} {vs : List V} {bs : List Addr} {m : Nat} {d : D}, EnR k G H es vs bs → es[m]? = some (true, d) → ∃ b o, vs[m]? = some (.ref b) ∧ b ∈ bs ∧ H b = some o ∧ Cont k G d o
  | _, _, _, m, d, .nil, h => by simp at h
  | _, _, _, 0, d, .st r t, h => by simp at h
  | _, _, _, 0, d, .ow q r t, h => by
    simp at h; subst h
    exact ⟨_, _, rfl, by simp, q, r⟩
  | _, _, _, m + 1, d, .st r t, h => by
    obtain ⟨b, o, h1, h2, h3, h4⟩ := EnR.get (m := m) t (by simpa using h)
    exact ⟨b, o, by simpa using h1, h2, h3, h4⟩
  | _, _, _, m + 1, d, .ow q r t, h => by
    obtain ⟨b, o, h1, h2, h3, h4⟩ := EnR.get (m := m) t (by simpa using h)
    exact ⟨b, o, by simpa using h1, List.mem_cons_of_mem _ h2, h3, h4⟩
theorem EnR.put : ∀ {es : List (Bool × D)} {vs : List V} {bs : List Addr} {m : Nat} {d d' : D} {b : Addr} {o' : HO}, EnR k G H es vs bs → es[m]? = some (true, d) → vs[m]? = some (.ref b) → bs.Nodup → Cont k G d' o' → EnR k G (upd H b o') (es.set m (true, d')) vs bs
  | _, _, _, m, d, d', b, o', .nil, h, _, _, _ => by simp at h
  | _, _, _, 0, d, d', b, o', .st r t, h, _, _, _ => by simp at h
  | _, _, _, 0, d, d', b, o', .ow q r t, h, hv, nd, ct => by
    simp at hv; subst hv
    exact .ow upd_same ct (t.keep (Ex.refl _) fun x hx => upd_ne (fun z => (List.nodup_cons.mp nd).1 (by rw [← z]; exact hx)))
  | _, _, _, m + 1, d, d', b, o', .st r t, h, hv, nd, ct => .st r (EnR.put t (by simpa using h) (by simpa using hv) nd ct)
  | _, _, _, m + 1, d, d', b, o', @EnR.ow _ _ _ d0 b0 o0 es0 vs0 bs0 q r t, h, hv, nd, ct => by
    have h' := (show _ from h)
    rw [List.getElem?_cons_succ] at h'
    have hv' := (show _ from hv)
    rw [List.getElem?_cons_succ] at hv'
    obtain ⟨b2, o2, e1, e2, _, _⟩ := EnR.get t h'
    rw [hv'] at e1; cases e1
    exact .ow (by rw [upd_ne (show b0 ≠ b from fun z => (List.nodup_cons.mp nd).1 (by rw [z]; exact e2))]; exact q) r (EnR.put t h' hv' (List.nodup_cons.mp nd).2 ct)
end
structure NAt (c : Cf) (G : Hp) (S : Env) (σ : St) (H : Hp) (i : Nat) (n : Nd) : Prop where
  ex : ∃ a vs bs, σ[i]? = some (some (.ref a)) ∧ H a = some (n.k.ho vs) ∧ n.k.wf n.es.length ∧ EnR c.k G H n.es vs bs ∧ (a :: bs).Nodup ∧ ∀ x, x ∈ a :: bs → G x = none ∧ c.H0 x = none ∧ ∀ j, ¬ OwnAt S σ j x
section
variable {c : Cf} {G G' H H' : Hp} {S S' : Env} {σ σ' : St} {i : Nat} {n : Nd}
theorem NAt.all (a : NAt c G S σ H i n) : ∃ t vs bs, σ[i]? = some (some (.ref t)) ∧ H t = some (n.k.ho vs) ∧ n.k.wf n.es.length ∧ EnR c.k G H n.es vs bs ∧ (t :: bs).Nodup ∧ (∀ x, x ∈ t :: bs → G x = none ∧ c.H0 x = none ∧ ∀ j, ¬ OwnAt S σ j x) ∧ ∀ x, x ∈ t :: bs → ∃ o, H x = some o := by
  obtain ⟨t, vs, bs, h1, h2, h3, h4, h5, h6⟩ := a.ex
  refine ⟨t, vs, bs, h1, h2, h3, h4, h5, h6, fun x hx => ?_⟩
  rcases List.mem_cons.mp hx with rfl | hx
  · exact ⟨_, h2⟩
  · exact h4.live x hx
theorem NAt.grow (a : NAt c G S σ H i n) (s : Step G H G' H') : NAt c G' S σ H' i n := by
  obtain ⟨t, vs, bs, h1, h2, h3, h4, h5, h6, h7⟩ := a.all
  refine ⟨t, vs, bs, h1, s.h _ _ h2, h3, h4.keep s.g fun b hb => ?_, h5, fun x hx => ⟨?_, (h6 x hx).2⟩⟩
  · obtain ⟨o, e⟩ := h7 b (List.mem_cons_of_mem _ hb)
    rw [e, s.h _ _ e]
  · obtain ⟨o, e⟩ := h7 x hx
    cases q : G' x with
    | none => rfl
    | some u =>
      rcases s.gr x u q with z | z
      · rw [(h6 x hx).1] at z; cases z
      · rw [e] at z; cases z
noncomputable def Cf.at (c : Cf) (S : Env) (σ : St) (G H : Hp) : Cf := ⟨c.k, cut S σ H, G, c.W⟩
theorem Rel.frzB (r : Rel c G S σ H) {b : Addr} {o : HO} (h : H b = some o) (hg : G b = none) (h0 : c.H0 b = none) (hn : ∀ j, ¬ OwnAt S σ j b) : Rel c (upd G b o) S σ H where
  st := r.st.frz h h0 hg
  len := r.len
  fz := fun j d q => let ⟨v, e, z⟩ := r.fz j d q; ⟨v, e, z.mono (Ex.new hg)⟩
  ow := fun j d q => by
    obtain ⟨a, u, e, g, h0', ho, ct⟩ := r.ow j d q
    exact ⟨a, u, e, by rw [upd_ne (show a ≠ b from fun z => hn j (by rw [← z]; exact ⟨⟨d, q⟩, e⟩))]; exact g, h0', ho, ct.mono (Ex.new hg)⟩
  nd := r.nd
theorem EnR.frz : ∀ {es : List (Bool × D)} {vs : List V} {bs : List Addr} {G : Hp}, Rel c G S σ H → EnR c.k G H es vs bs → bs.Nodup → (∀ x, x ∈ bs → G x = none ∧ c.H0 x = none ∧ ∀ j, ¬ OwnAt S σ j x) →
    ∃ G', Ex G G' ∧ Rel c G' S σ H ∧ RDs c.k G' (es.map (·.2)) vs ∧ ∀ x, x ∉ bs → G' x = G x
  | _, _, _, G, rel, .nil, _, _ => ⟨G, Ex.refl _, rel, .nil, fun _ _ => rfl⟩
  | _, _, _, G, rel, .st r t, nd, h => by
    obtain ⟨G', e, rel', rr, k⟩ := EnR.frz rel t nd h
    exact ⟨G', e, rel', .cons (r.mono e) rr, k⟩
  | _, _, _, G, rel, @EnR.ow _ _ _ d b o es vs bs q r t, nd, h => by
    obtain ⟨hg, h0, hn⟩ := h b (by simp)
    have nd2 := List.nodup_cons.mp nd
    have rel1 := rel.frzB q hg h0 hn
    have ex1 : Ex G (upd G b o) := Ex.new hg
    have t1 : EnR c.k (upd G b o) H es vs bs := t.keep ex1 fun _ _ => rfl
    obtain ⟨G', e, rel', rr, k⟩ := EnR.frz rel1 t1 nd2.2 fun x hx => by
      obtain ⟨z1, z2, z3⟩ := h x (List.mem_cons_of_mem _ hx)
      exact ⟨by rw [upd_ne (show x ≠ b from fun z => nd2.1 (by rw [← z]; exact hx))]; exact z1, z2, z3⟩
    refine ⟨G', ex1.trans e, rel', .cons ((r.mono (ex1.trans e)).rd (e _ _ upd_same)) rr, fun x hx => ?_⟩
    rw [k x (fun z => hx (List.mem_cons_of_mem _ z)), upd_ne fun z => hx (by rw [z]; exact List.mem_cons_self ..)]
end
abbrev FN := Env → Nd → R (Env × Nd)
def PostNs (c : Cf) (as : List Nat) (i : Nat) (G : Hp) (S : Env) (σ : St) (H : Hp) (Dn : Ends) : R (Env × Nd) → Prop
  | .ok z => ∀ G' σ' H', Ex G G' → Rel c G' z.1 σ' H' → z.1[i]? = some none → NAt c G' z.1 σ' H' i z.2 → Frm as S σ H z.1 σ' H' → Dn.nx σ' H'
  | _ => False
abbrev FNR := Env → Nd → R (Fl × Env)
section
variable {X : Cx} {c : Cf} {kd k1 k2 k3 : Kd} {a b e kx : Expr} {f g h : FE} {t u : FT} {pos apos cpos spos p' : Pos} {fr : Bool} {as bs : List Nat} {s r : FS} {F F1 F2 : FN} {Z : FNR} {st : Stmt} {sts : List Stmt} {x : Str} {i : Nat}
theorem PostNs.mv {G G' H H' : Hp} {S S' : Env} {σ σ' : St} {Dn : Ends} {q : R (Env × Nd)} (hg : Ex G G') (fm : Frm as S σ H S' σ' H') (p : PostNs c (as ++ bs) i G S σ H Dn q) : PostNs c bs i G' S' σ' H' Dn q := by
  cases q with
  | ok z => exact fun G2 σ2 H2 e r2 h2 n2 f2 => p G2 σ2 H2 (hg.trans e) r2 h2 n2 (fm.trans f2)
  | exc x => exact p
  | fail => exact p
theorem PostNs.sub {as' : List Nat} {G H : Hp} {S : Env} {σ : St} {Dn : Ends} {q : R (Env × Nd)} (hs : ∀ i, i ∈ as' → i ∈ as) (p : PostNs c as i G S σ H Dn q) : PostNs c as' i G S σ H Dn q := by
  cases q with
  | ok z => exact fun G2 σ2 H2 e r2 h2 n2 f2 => p G2 σ2 H2 e r2 h2 n2 (f2.mono hs)
  | exc x => exact p
  | fail => exact p
theorem PostNs.gr {G H G' H' : Hp} {S : Env} {σ : St} {Dn : Ends} {q : R (Env × Nd)} (rel : Rel c G S σ H) (sp : Step G H G' H') (p : PostNs c as i G S σ H Dn q) : PostNs c as i G' S σ H' Dn q :=
  PostNs.mv (as := []) (bs := as) sp.g (Frm.step rel sp) p
end
end M
set_option Elab.async false
set_option linter.all false
set_option maxRecDepth 100000
set_option maxHeartbeats 4000000
namespace M
open PySem L2
section
variable {X : Cx} {c : Cf} {kd k1 k2 k3 : Kd} {a b e kx : Expr} {f g h : FE} {t u : FT} {pos apos cpos spos p' : Pos} {fr : Bool} {as bs : List Nat} {s r : FS} {F F1 F2 : FN} {Z : FNR} {st : Stmt} {sts : List Stmt} {x : Str} {i : Nat}
def posK {κ : Type} [DecidableEq κ] : List κ → κ → Option Nat
  | [], _ => none
  | k :: ks, q => if k = q then some 0 else (posK ks q).map (· + 1)
def NK.at (k : NK) (y : D) : Option Nat := match k with
  | .dic ks => (keyD y).bind fun q => posK ks q
  | .lst => none
end
end M
set_option Elab.async false
set_option linter.all false
set_option maxRecDepth 100000
set_option maxHeartbeats 4000000
namespace M
open PySem L2 PySem.Spec PyProof.Rows
section
variable {k : Kn} {G H : Hp}
theorem EnR.snoc {d : D} {b : Addr} {o : HO} (q : H b = some o) (r : Cont k G d o) : ∀ {es : List (Bool × D)} {vs : List V} {bs : List Addr}, EnR k G H es vs bs → EnR k G H (es ++ [(true, d)]) (vs ++ [.ref b]) (bs ++ [b])
  | _, _, _, .nil => .ow q r .nil
  | _, _, _, .st a t => .st a (EnR.snoc q r t)
  | _, _, _, .ow a b t => .ow a b (EnR.snoc q r t)
end
section
variable {X : Cx} {c : Cf} {kd k1 k2 k3 : Kd} {a b e kx : Expr} {f g h : FE} {t u : FT} {pos apos cpos spos p' : Pos} {fr : Bool} {as bs : List Nat} {s r : FS} {F F1 F2 : FN} {Z : FNR} {st : Stmt} {sts : List Stmt} {x : Str} {i : Nat}
abbrev FAN := Env → R (List (Bool × D))
variable {keys : List (Option Expr)} {values : List Expr} {ks : List Str} {fa : FAN}
end
end M
set_option Elab.async false
set_option linter.all false
set_option maxRecDepth 100000
set_option maxHeartbeats 4000000
namespace MnD
open PySem
open Sem (wp)
theorem nm : (toString "min" ++ toString ".loop" : String) = "min.loop" := by decide
abbrev kwD (d : Value) : List (Str × Value) := [(Str.ofString "default", d)]
section
variable {p : Program} {w : World} {A : Around} {R : Result → Shared → Prop} {I B : Addr} {fp wr : List Addr} {n : Nat} {P : Nat → Value → Prop} {St : Nat → Heap → Prop} {bt : Nat → Nat → Bool} {dv : Value}
theorem lp (W : Walks p w A.in1 I fp wr n P St) (cm : CmpOf p w A.in1 .Lt P bt) (out : B ∉ fp) : ∀ (m i : Nat) (s : Shared) (v : Value) (c : Nat), n - (i + 1) = m → i + 1 ≤ n → St (i + 1) s.heap → P (argBest bt i) v →
    s.heap.get? B = some { cls := .type "list", dict := none, data := .seq #[v, v] c, slots := #[] } →
    (∀ u h tk, P (argBest bt (n - 1)) u → (∀ b o, b ∉ wr → b ≠ B → s.heap.get? b = some o → h.get? b = some o) → R (.ok (.ret u)) { s with heap := h, toks := tk }) →
    codeAny (model p w) A (.builtin "min.loop" ⟨[.ref I, .none, .ref B], kwD dv⟩) R s := by
  have ow : B ∉ wr := fun z => out (W.sub _ z)
  intro m
  induction m with
  | zero =>
    intro i s v c em le st pb hb q
    have en : i + 1 = n := by omega
    refine codeAny_builtin F.entry_min_loop ?_
    rw [Around.under_plainId F.plain_min_loop _]
    show wpAny _ A.in1 (seqItems? (.ref B) >>= _) _ _ s
    refine wpAny_bind (wpAny_seqItems hb rfl ?_)
    show wpAny _ A.in1 (tryCatch (pyNext (.ref I)) _ >>= _) _ _ s
    refine wpAny_bind (wpAny_tryCatch (W.done s _ _ (en ▸ st) fun h1 tk k1 => ?_))
    have hb1 := k1 B _ ow hb
    show wpAny _ A.in1 (updateSeq B (fun _ => #[]) >>= _) _ _ _
    refine wpAny_bind (wpAny_updateSeq hb1 rfl (wpAny_bind (wpAny_letGo (wpAny_pure ?_))))
    exact q v _ tk (by rw [← en]; exact pb) fun b o nw nb e => (Heap.get?_update_other _ _ (Ne.symm nb)).trans (k1 b o nw e)
  | succ m ih =>
    intro i s v c em le st pb hb q
    have lt : i + 1 < n := by omega
    refine codeAny_builtin F.entry_min_loop ?_
    rw [Around.under_plainId F.plain_min_loop _]
    show wpAny _ A.in1 (seqItems? (.ref B) >>= _) _ _ s
    refine wpAny_bind (wpAny_seqItems hb rfl ?_)
    show wpAny _ A.in1 (tryCatch (pyNext (.ref I)) _ >>= _) _ _ s
    refine wpAny_bind (wpAny_tryCatch (W.item (i + 1) s _ _ lt st fun u h1 tk pu st1 k1 => ?_))
    have hb1 := k1 B _ ow hb
    show wpAny _ A.in1 (tryCatch (holding [u, u] (richCompare .Lt u v >>= _)) _ >>= _) _ _ _
    refine wpAny_bind (wpAny_tryCatch (wpAny_holding (wpAny_bind (cm (i + 1) (argBest bt i) u v _ _ _ pu pb (wpAny_bind (wpAny_holding (wpAny_truthy_bool (wpAny_bind (wpAny_letGo (wpAny_pure ?_)))))))))) 
    cases hc : bt (i + 1) (argBest bt i) with
    | true =>
      simp only [if_true]
      refine wpAny_bind (wpAny_updateSeq hb1 rfl (wpAny_bind (wpAny_letGo ?_)))
      rw [nm]
      refine wpAny_pure ⟨plainId_quiet F.plain_min_loop _, ih (i + 1) _ u _ (by omega) lt (W.frame _ _ _ st1 fun b bf o e => ?_) (by simp only [argBest, hc, if_true]; exact pu) (Heap.get?_update_self _ hb1 rfl) fun u' h2 tk2 p2 k2 => ?_⟩
      · exact (Heap.get?_update_other _ _ (fun z : B = b => out (by rw [z]; exact bf))).trans e
      · exact q u' h2 tk2 p2 fun b o nw nb e => k2 b o nw nb ((Heap.get?_update_other _ _ (Ne.symm nb)).trans (k1 b o nw e))
    | false =>
      simp only [Bool.false_eq_true, if_false]
      refine wpAny_bind (wpAny_letGo ?_)
      rw [nm]
      exact wpAny_pure ⟨plainId_quiet F.plain_min_loop _, ih (i + 1) _ v c (by omega) lt st1 (by simp only [argBest, hc, Bool.false_eq_true, if_false]; exact pb) hb1 fun u' h2 tk2 p2 k2 => q u' h2 tk2 p2 fun b o nw nb e => k2 b o nw nb (k1 b o nw e)⟩
end
section
variable {p : Program} {w : World} {A : Around} {E : Value → Shared → Prop} {s : Shared} {l : Addr} {xs : Array (Int × Tok)} {dv : Value}
end
end MnD
namespace M
open PySem L2
section
variable {X : Cx} {c : Cf} {k : Kn} {e : Expr} {pos : Pos}
end
end M
set_option Elab.async false
set_option linter.all false
set_option maxRecDepth 100000
set_option maxHeartbeats 4000000
namespace M
open PySem
section
variable {prog : Program} {w : World} {A : Around} {R : GenEnd} {Y : Protocol} {n : Nat} {s₀ : Shared} {c : Code} {fs : List Frame} {s : Shared} {env : PySem.Env} {K : Flow → Sem Fin} {J : Value → Sem Fin} {gd : Bool → Bool} {lv : List Value → List Value}
end
end M
set_option Elab.async false
set_option linter.all false
set_option maxRecDepth 100000
set_option maxHeartbeats 4000000
namespace M
open PySem L2 PySem.Spec PyProof.Rows
section
variable {X : Cx}
end
end M
set_option Elab.async false
set_option linter.all false
set_option maxRecDepth 100000
set_option maxHeartbeats 4000000
namespace M
open PySem L2
abbrev FY := Env → R (Fl × Env × List D)
section
variable {X : Cx} {c : Cf} {k1 : Kd} {e : Expr} {f : FE} {pos : Pos} {as bs : List Nat} {s : FS} {y z : FY} {st : Stmt} {sts : List Stmt}
end
end M
set_option Elab.async false
set_option linter.all false
set_option maxRecDepth 100000
set_option maxHeartbeats 4000000
namespace M
open PySem L2
def PostGn (k : Kn) (G0 H : Hp) (Q : List V → Hp → Prop) (E : XK) : R (List D) → Prop
  | .ok ds => ds.length ≤ sizeLine ∧ ∀ vs G' H', Step G0 H G' H' → RDs k G' ds vs → Q vs H'
  | .exc x => PXs ⟨k, H, G0, liftX E⟩ x
  | .fail => False
def SpGn (k : Kn) (n : Nat) (den : List D → R (List D)) : SpG := fun vs H Q E => vs.length = n ∧ ∃ G0 ds, Ex G0 H ∧ RDs k G0 ds vs ∧ PostGn k G0 H Q E (den ds)
section
variable {P : Program} {w : World} {K : PySem.W.Frag} {mg : Str → Option Value} {base : Heap}
end
end M
set_option Elab.async false
set_option linter.all false
set_option maxRecDepth 100000
set_option maxHeartbeats 4000000
namespace M
open PySem L2
structure GMethod (P : Program) (w : World) (K : PySem.W.Frag) (mg : Str → Option Value) (base : Heap) (k : Kn) (lv : Nat) (ci : Nat) (m : Str) (n : Nat) (den : List D → R (List D)) : Prop where
  ex : ∃ (C f : Addr) (fd : FuncData) (ps nm : List Str), ps.length = n ∧ k.cl ci = some (C, nm) ∧ m ∉ nm ∧ Cls K C ∧ Meth K C m f ∧ GFn P w K mg base lv f fd ps (SpGn k n den) ∧ Binds K fd ps []
section
variable {X : Cx} {c : Cf} {e o : Expr} {f : FE} {pos apos pos' : Pos} {den : List D → R (List D)}
def lstE (out : List D) : R D := if out.length ≤ sizeLine then .ok (.lst out) else .fail
def eLM (ci : Nat) (den : List D → R (List D)) (f : FE) (fa : FA) : FE := fun S => f S >>= fun o => if o.isObj ci then fa S >>= fun ds => (den (o :: ds)).nox >>= fun out => lstE out else .fail
end
end M
set_option Elab.async false
set_option linter.all false
set_option maxRecDepth 100000
set_option maxHeartbeats 4000000
namespace M
open PySem L2
section
variable {X : Cx} {c : Cf} {k1 : Kd} {e : Expr} {pos spos p' : Pos} {f : FE} {fr : Bool} {x : Str} {i : Nat}
def eFmt (f : FE) : FE := fun S => f S >>= fun d => match d with
  | .str y => if y.length ≤ sizeLine then .ok (.str y) else .fail
  | .int i => if i.natAbs.log2 < 1920 then .ok (.str (toString i)) else .fail
  | _ => .fail
theorem d_fmt (he : PE' X c .st e f) : PE' X c .st (.FormattedValue e (-1) none pos) (eFmt f) :=
  peI (pe_fmt he) fun σ H Q ⟨G, S, rel, p⟩ => by
    refine rdE_go (g := fun d => match d with
      | .str y => if y.length ≤ sizeLine then .ok (D.str y) else .fail
      | .int i => if i.natAbs.log2 < 1920 then .ok (D.str (toString i)) else .fail
      | _ => .fail) (Post := PostE c .st G S σ H Q) rel p (fun _ z => z) (fun z => z) fun d v G' H' sp q p1 => ?_
    have q : RD c.k G' d v := q
    cases d with
    | str y =>
      by_cases h : y.length ≤ sizeLine
      · dsimp only at p1
        rw [if_pos h] at p1
        cases q
        exact .inl ⟨y, rfl, h, p1 _ G' H' sp (.str _)⟩
      · dsimp only at p1
        rw [if_neg h] at p1; exact p1.elim
    | int i =>
      by_cases h : i.natAbs.log2 < 1920
      · dsimp only at p1
        rw [if_pos h] at p1
        cases q
        exact .inr ⟨i, rfl, h, p1 _ G' H' sp (.str _)⟩
      · dsimp only at p1
        rw [if_neg h] at p1; exact p1.elim
    | _ => exact p1.elim
abbrev FFs := Str → Env → R Str
def fsN : FFs := fun acc _ => .ok acc
def fsC (f : FE) (r : FFs) : FFs := fun acc S => (f S).nox >>= fun d => match d with
  | .str y => if (acc ++ y).length ≤ sizeLine then r (acc ++ y) S else .fail
  | _ => .fail
def PostFs (G H : Hp) (Q : Str → Hp → Prop) : R Str → Prop
  | .ok out => ∀ G' H', Step G H G' H' → Q out H'
  | _ => False
def PFs (X : Cx) (c : Cf) (es : List Expr) (r : FFs) : Prop := ∃ ts, PJ X es ts ∧ ∀ acc σ H Q, (∃ G S, Rel c G S σ H ∧ PostFs G H Q (r acc S)) → tJs ts acc σ H Q
theorem fs_n : PFs X c [] fsN := ⟨[], .nil, fun acc σ H Q ⟨G, S, rel, p⟩ => p G H (Step.refl rel.st.gh)⟩
theorem fs_c {v : Expr} {es : List Expr} {r : FFs} (hv : PE' X c .st v f) (hr : PFs X c es r) : PFs X c (v :: es) (fsC f r) := by
  obtain ⟨ts, h1, h2⟩ := hr
  refine ⟨_, .cons hv h1, fun acc σ H Q ⟨G, S, rel, p⟩ => ?_⟩
  refine ⟨G, S, rel, ?_⟩
  have p : PostFs G H Q ((f S).nox >>= fun d => match d with
    | .str y => if (acc ++ y).length ≤ sizeLine then r (acc ++ y) S else .fail
    | _ => .fail) := p
  cases e1 : f S with
  | exc x => rw [e1] at p; exact p.elim
  | fail => rw [e1] at p; exact p.elim
  | ok d =>
    rw [e1, R.nox_ok, R.ok_bind] at p
    intro v G' H' sp q
    have q : RD c.k G' d v := q
    cases d with
    | str y =>
      by_cases h : (acc ++ y).length ≤ sizeLine
      · dsimp only at p
        rw [if_pos h] at p
        cases q
        refine ⟨y, rfl, h, h2 _ σ H' Q ⟨G', S, rel.grow sp, ?_⟩⟩
        cases e2 : r (acc ++ y) S with
        | exc x => rw [e2] at p; exact p.elim
        | fail => rw [e2] at p; exact p.elim
        | ok out => rw [e2] at p; exact fun G1 H1 s1 => p G1 H1 (sp.trans s1)
      · dsimp only at p
        rw [if_neg h] at p; exact p.elim
    | _ => exact p.elim
def eFs (r : FFs) : FE := fun S => (r Str.empty S).nox >>= fun y => .ok (.str y)
theorem d_fs {v1 v2 : Expr} {rest : List Expr} {r : FFs} (h : PFs X c (v1 :: v2 :: rest) r) : PE' X c .st (.JoinedStr (v1 :: v2 :: rest) pos) (eFs r) := by
  obtain ⟨ts, h1, h2⟩ := h
  refine peI (pe_joined h1) fun σ H Q ⟨G, S, rel, p⟩ => h2 _ σ H _ ⟨G, S, rel, ?_⟩
  have p : PostE c .st G S σ H Q ((r Str.empty S).nox >>= fun y => .ok (.str y)) := p
  cases e1 : r Str.empty S with
  | exc x => rw [e1] at p; exact p.elim
  | fail => rw [e1] at p; exact p.elim
  | ok out => rw [e1] at p; exact fun G1 H1 s1 => p _ G1 H1 s1 (.str _)
def mulM : D → D → R D
  | .int i, .int j => if CMul i j then .ok (.int (i * j)) else .fail
  | _, _ => .fail
def sAugM (i : Nat) (f : FE) : FS := fun S => eV i S >>= fun x => f S >>= fun y => (mulM x y).nox >>= fun z => .ok (.nx, S.set i (some ⟨false, z⟩))
theorem s_augM (i : Nat) (hN : X.N.Nodup) (he : PE' X c k1 e f) (hi : X.N[i]? = some x := by rfl) (hx : Loc X.env.scope x := by first | exact Or.inl rfl | exact Or.inr rfl) (hf : X.fn x = true ∨ X.env.scope.names.lookup x = some .local := by first | exact .inl rfl | exact .inr rfl) :
    PS' X c fr [i] (.AugAssign (.Name x p') .Mult e pos) (sAugM i f) := by
  refine psI (ps_aug hN hi hx he iop_mul hf) fun Dn σ H ⟨G, S, rel, p⟩ => ?_
  have p : PostS c fr [i] G S σ H Dn (eV i S >>= fun x => f S >>= fun y => (mulM x y).nox >>= fun z => .ok (.nx, S.set i (some ⟨false, z⟩))) := p
  cases e0 : eV i S with
  | exc x => exact absurd e0 eV_exc
  | fail => rw [e0] at p; exact p.elim
  | ok d =>
    rw [e0, R.ok_bind] at p
    obtain ⟨v, es, rv⟩ := rel.fz i d (eV_of e0)
    refine ⟨v, es, ?_⟩
    refine rdE_go (Post := PostS c fr [i] G S σ H Dn) rel p (fun _ z => z _) (fun z => z) fun d2 v2 G' H' sp q p1 => ?_
    cases e1 : mulM d d2 with
    | exc x => rw [e1] at p1; exact p1.elim
    | fail => rw [e1] at p1; exact p1.elim
    | ok z =>
      rw [e1] at p1
      unfold mulM at e1
      split at e1
      · rename_i a1 a2
        split at e1
        · rename_i hc
          cases e1
          cases rv
          obtain rfl := q.now.int
          exact ⟨a1, a2, rfl, rfl, hc, p1 G' _ H' sp.g ((rel.grow sp).setS i (.int _)) ((Frm.step (as := []) rel sp).trans (Frm.set i _ _))⟩
        · cases e1
      · cases e1
end
end M
set_option Elab.async false
set_option linter.all false
set_option maxRecDepth 100000
set_option maxHeartbeats 4000000
namespace M
open PySem L2
section
variable {X : Cx} {c : Cf} {e : Expr} {pos px py : Pos} {f : FE} {fr : Bool} {x y : Str}
end
end M
set_option Elab.async false
set_option linter.all false
set_option maxRecDepth 100000
set_option maxHeartbeats 4000000
namespace M
open PySem L2
theorem unitsH {k : Nat} {A : Around} (r : L2H.RoomH k A) : A.units + 64 < cLine := by have := r.un; omega
theorem units5H {k : Nat} {A : Around} (r : L2H.RoomH k A) : A.units + 65 < cLine := by have := r.un; omega
structure CalleeH (P : Program) (w : World) (K : PySem.W.Frag) (mg : Str → Option Value) (base : Heap) (k : Kn) (lv : Nat) (x : Str) (n : Nat) (den : List D → R D) : Prop where
  ex : ∃ (f : Addr) (fd : FuncData) (ps : List Str), ps.length = n ∧ L2H.FnH P w K mg base CX0 lv f fd ps (SpF k false n den) ∧ mg x = some (.ref f) ∧ PySem.W.keepIn K (.ref f) = true ∧ Binds K fd ps []
section
variable {P : Program} {w : World} {K : PySem.W.Frag} {mg : Str → Option Value} {base : Heap}
end
section
variable {X : Cx} {c : Cf} {k : Kn} {e : Expr} {pos : Pos} {den : List D → R D}
end
section
variable {X : Cx} {c : Cf} {pos : Pos} {s : FS} {as bs : List Nat}
theorem roomS {k : Nat} {A : Around} {o : Option Value} (r : Room k A) : L2H.RoomH k (A.mark o) := ⟨r.dp, r.un⟩
end
end M
set_option Elab.async false
set_option linter.all false
set_option maxRecDepth 100000
set_option maxHeartbeats 4000000
namespace L2H
open PySem PySem.Spec PyProof.Rows L2 HotX
structure FnE (P : Program) (w : World) (K : PySem.W.Frag) (mg : Str → Option Value) (base : Heap) (CX : CXT) (k : Nat) (f : Addr) (fd : FuncData) (ps : List Str) (sp : Addr × Obj → Sp) : Prop where
  len : ∀ p vs H Q E, sp p vs H Q E → vs.length = ps.length
  run : ∀ (A : Around) (outer : List Env) (s : Shared) (H : Hp) (args : Args) (us : List Value) (vs : List V) (Q : VK) (E : XK) (p : Addr × Obj), RoomH k A → Hot1 A p → PinOk outer H s p → Env0 P w K mg base A outer s H → BindsTo s fd args (ps.zip us) → Vals vs us → sp p vs H Q E →
    codeAny (model P w) A (.call (.ref f) args) (CR CX outer P w H s Q E) s
theorem fn_ofE {CX : CXT} {P : Program} {w : World} {K : PySem.W.Frag} {mg : Str → Option Value} {base : Heap} {k : Nat} {f : Addr} {name qual : Str} {params : Arguments} {body : List Stmt} {scope : Scope} {dV kV doc pm cdv ct oc : Value} {an od : Option Addr}
    {osl : Array (Option Value)} {N ps : List Str} {sp : Addr × Obj → Sp} (lk : K.lookup f = some ⟨oc, od, .func (PySem.W.fnOf name qual params body scope dV kV doc pm an cdv ct), osl⟩) (hcd : PySem.W.codeIn K cdv qual = true) (S : FnScope N ps scope)
    (len : ∀ p vs H Q E, sp p vs H Q E → vs.length = ps.length)
    (hbody : ∀ (A : Around) (outer : List Env) (s : Shared) (H : Hp) (vs : List V) (Q : VK) (E : XK) (p : Addr × Obj), Hot1 A p → RoomH k (A.deeper (envOfC qual scope s.heap.objs.size f cdv)) → sp p vs H Q E →
      ∃ t, PSs (cxH CX P w K mg base N qual scope f cdv A outer s H E p) body t ∧ t { nx := fun _ H' => Q .non H', rt := Q } (L2.start N vs) H) :
    FnE P w K mg base CX (k + 1) f (PySem.W.fnOf name qual params body scope dV kV doc pm an cdv ct) ps sp := by
  refine ⟨len, fun A outer s H args us vs Q E p hr hot hpin e0 hb r hsp => ?_⟩
  have hl := len _ _ _ _ _ hsp
  have KX : K.In s.heap := e0.mod.kin.keeps fun b o e => (e0.bs b o e).1
  have lim : s.heap.NoLimit := e0.mod.nolimit.keeps fun b o e => (e0.bs b o e).1
  have hkind : ∀ y ∈ ps.zip us, scope.names.lookup y.1 = some .local ∨ (scope.names.lookup y.1 = some .cell ∧ ((cellsFrom (s.heap.objs.size + 1) scope.names []).lookup y.1).isSome = true) := fun ⟨n, v⟩ hy => by
    rcases S.par n (List.of_mem_zip hy).1 with q | q
    · exact .inl q
    · exact .inr ⟨q, PySem.W.cellsFrom_some _ _ _ (.inl q)⟩
  refine codeAny_call_function hr.depth (KX _ _ lk) rfl S.co S.gen rfl (PySem.W.codeRec_of KX hcd) (hb _ _ _ _ ?_)
  refine wpAny_newFunctionEnv_cells S.kind hkind fun env he s1 x => ?_
  subst he
  refine ⟨lim.keeps x.toInCall.keep, codeAny_func ?_⟩
  obtain ⟨t, ht, hq⟩ := hbody A outer s H vs Q E p hot (hr.deeper _) hsp
  have I : Inv (cxH CX P w K mg base N qual scope f cdv A outer s H E p) [] (L2.start N vs) H s1 := inv_startH S hpin e0 hl r x
  refine wpAny_mono (ht.run [] s1 (L2.start N vs) H _ I hq) (fun fl s' hs => ?_) fun e s' hs => hs
  have fin : ∀ {σ' : St} {H' : Hp} {v : V} {u : Value}, Inv (cxH CX P w K mg base N qual scope f cdv A outer s H E p) [] σ' H' s' → RelV v u → Q v H' → CE outer P w H s Q u s' :=
    fun {σ' H' v u} J rv q => ⟨v, H', J.os, J.bare, J.base, J.hok, rv, q⟩
  cases fl with
  | ret u =>
    obtain ⟨v, σ', H', J, rv, q⟩ := hs
    exact fin J rv q
  | next =>
    obtain ⟨σ', H', J, q⟩ := hs
    exact fin (v := V.non) (u := Value.none) J rfl q
  | brk =>
    obtain ⟨_, _, _, q⟩ := hs
    exact False.elim q
  | cont =>
    obtain ⟨_, _, _, q⟩ := hs
    exact False.elim q
section
variable {X : Cx} {CX : CXT} {k : Nat} {f C : Addr} {fd : FuncData} {ps : List Str} {sp : Addr × Obj → Sp} {E : St → XK} {x m : Str} {q pos apos : Pos} {e o : Expr} {es : List Expr} {ta : TE} {t : TA} {p : Addr × Obj}
theorem run_fnE {pins : List (Addr × Obj)} {σ : St} {H : Hp} {s : Shared} {Q : VK} {us : List Value} {vs : List V} (F : FnE X.prog X.w X.K X.mg X.base CX k f fd ps sp) (hr : RoomH k X.A) (hot : Hot1 X.A p) (hp : p ∈ X.pn) (hb : Binds X.K fd ps []) (hx : PassesAt CX X σ (E σ))
    (I : Inv X pins σ H s) (r : Vals vs us) (h : sp p vs H Q (E σ)) : wpAny (model X.prog X.w) X.A (call (.ref f) us) (EP X pins σ Q) X.xe s := by
  have hl : us.length = ps.length := by rw [← r.length]; exact F.len _ _ _ _ _ h
  have b := hb s us I.kIn (by rw [List.append_nil]; exact hl)
  rw [List.append_nil] at b
  have P1 := I.pin p (List.mem_append_left _ hp)
  have hpin : PinOk X.stack H s p := ⟨P1.1, P1.2.1, fun hm => (List.mem_cons.mp (I.stkSub p.1 hm)).elim P1.2.2.1 P1.2.2.2.1, P1.2.2.2.2⟩
  refine wpAny_call (codeAny_mono (F.run X.A X.stack s H ⟨us, []⟩ us vs Q (E σ) p hr hot hpin I.env0 b r h) fun r s' hq => ?_)
  cases r with
  | error e => exact hx pins H s e s' I hq
  | ok fl =>
    cases fl with
    | ret u => exact I.after hq
    | next => exact False.elim hq
    | brk => exact False.elim hq
    | cont => exact False.elim hq
theorem pe_callE (F : FnE X.prog X.w X.K X.mg X.base CX k f fd ps sp) (hr : RoomH k X.A) (hot : Hot1 X.A p) (hp : p ∈ X.pn) (hg : Gl X x) (hm : X.mg x = some (.ref f)) (hk : PySem.W.keepIn X.K (.ref f) = true) (hb : Binds X.K fd ps []) (hx : ∀ σ, PassesAt CX X σ (E σ))
    (ha : PA X (e :: es) t) (hdb : (x == ("__debug__" : Str)) = false := by decide) (he : starEach (e :: es) X.env = (false, eval e X.env) :: starEach es X.env := by rfl) (hpl : (backTo pos (starEach es X.env)).any (·.1) = false := by rfl) :
    PE X (.Call (.Name x q) (e :: es) [] pos) (tCallS (sp p) E t) := by
  refine ⟨fun pins s σ H Q I h => ?_⟩
  refine wpAny_Call_Name_kw (ld_glob I hg hm ?_ hdb)
  refine PySem.W.callWith_K (h₀ := X.base) I.ok.mod.kin hk (thn (ha.run pos pins s σ H _ I h) fun us s1 ⟨vs, H1, I1, r, q⟩ => ⟨I1.kIn, ?_⟩) he hpl
  exact run_fnE F hr hot hp hb (hx σ) I1 r q
end
end L2H
namespace M
open PySem L2
structure HeldE (X : Cx) (k : Kn) (a : Addr) (y : Exc) (H0 G0 : Hp) : Prop where
  ex : ∃ (oe : Obj) (cls : Value) (d : Option Addr), (a, oe) ∈ X.pn ∧ L2H.Hot1 X.A (a, oe) ∧ Zc cls d oe ∧ (∃ vs, oe.data = .fields vs) ∧ XR ⟨k, H0, G0, liftX E0⟩ G0 y cls d H0
theorem HeldE.held {X : Cx} {k : Kn} {a : Addr} {y : Exc} {H0 G0 : Hp} (h : HeldE X k a y H0 G0) : Held X k a y H0 G0 := by
  obtain ⟨oe, cls, d, h1, _, h2, h3, h4⟩ := h.ex
  exact ⟨oe, cls, d, h1, h2, h3, h4⟩
theorem HeldE.hot {X : Cx} {k : Kn} {a : Addr} {y : Exc} {H0 G0 : Hp} (h : HeldE X k a y H0 G0) : L2H.HotC X := by
  obtain ⟨oe, cls, d, h1, h2, _⟩ := h.ex
  exact ⟨(a, oe), h2, h1⟩
def SpE (k : Kn) (n : Nat) (den : Exc → List D → R D) (p : Addr × Obj) : Sp := fun vs H Q E => vs.length = n ∧ ∃ y cls d, Zc cls d p.2 ∧ (∃ vs, p.2.data = .fields vs) ∧ ∃ G0 ds, XR ⟨k, H, G0, liftX E0⟩ G0 y cls d H ∧ Ex G0 H ∧ RDs (k.at p.1) G0 ds vs ∧ PostF (k.at p.1) false G0 H Q E (den y ds)
structure CalleeE (P : Program) (w : World) (K : PySem.W.Frag) (mg : Str → Option Value) (base : Heap) (k : Kn) (lv : Nat) (x : Str) (n : Nat) (den : Exc → List D → R D) : Prop where
  ex : ∃ (f : Addr) (fd : FuncData) (ps : List Str), ps.length = n ∧ L2H.FnE P w K mg base CX0 lv f fd ps (SpE k n den) ∧ mg x = some (.ref f) ∧ PySem.W.keepIn K (.ref f) = true ∧ Binds K fd ps []
section
variable {P : Program} {w : World} {K : PySem.W.Frag} {mg : Str → Option Value} {base : Heap}
theorem fn_okE {k : Kn} {as : List Nat} {x qual : Str} {params : Arguments} {body : List Stmt} {scope : Scope} {dvs : List V} {kws : List (Str × V)} {f : Addr} {fd : FuncData} {N ps : List Str} {lv : Nat} {s : Exc → FS} (F : FunD K x qual params body scope dvs kws f fd) (S : FnScope N ps scope)
    (hb : ∀ (cdv : Value) (A : Around) (outer : List PySem.Env) (sh : Shared) (H G0 : Hp) (p : Addr × Obj) (y : Exc), L2H.RoomH lv (A.deeper (PyProof.Rows.envOfC qual scope sh.heap.objs.size f cdv)) → HeldE (L2H.cxH CX0 P w K mg base N qual scope f cdv A outer sh H E0 p).nox k p.1 y H G0 → PB' (L2H.cxH CX0 P w K mg base N qual scope f cdv A outer sh H E0 p).nox ⟨k.at p.1, H, G0, liftX E0⟩ false as body (s y)) :
    L2H.FnE P w K mg base CX0 (lv + 1) f fd ps (SpE k ps.length (fun y ds => (runF false N.length (s y) ds).nox)) := by
  obtain ⟨oc, od, dV, kV, doc, pm, an, cdv, ct, osl, rfl, lk, hcd, _, _⟩ := F.ex
  refine L2H.fn_ofE lk hcd S (fun p vs H Q E q => q.1) fun A outer sh H vs Q E p hot hr q => ?_
  obtain ⟨hl, y, cls, d, hz, hf, G0, ds, xr, e, r, pp⟩ := q
  have he : HeldE (L2H.cxH CX0 P w K mg base N qual scope f cdv A outer sh H E0 p).nox k p.1 y H G0 := ⟨p.2, cls, d, List.mem_cons_self .., hot, hz, hf, xr⟩
  have hB := hb cdv A outer sh H G0 p y hr he
  refine ⟨_, hB.nox, G0, _, rel_start (c := ⟨k.at p.1, H, G0, liftX E0⟩) e r, ?_⟩
  dsimp only at pp
  unfold runF at pp
  cases e1 : s y (startS N.length ds) with
  | exc x => rw [e1] at pp; exact pp.elim
  | fail => rw [e1] at pp; exact pp.elim
  | ok z =>
    rw [e1] at pp
    obtain ⟨fl, S1⟩ := z
    cases fl with
    | nx => exact fun G' σ' H' _ rel _ => pp .non G' H' rel.st .non
    | bk => exact pp.elim
    | ct => exact pp.elim
    | rt d => exact fun v G' H' st rv _ => pp v G' H' st rv
end
section
variable {X : Cx} {c : Cf} {k : Kn} {e : Expr} {pos : Pos} {den : Exc → List D → R D} {s : FS} {as bs : List Nat}
theorem XR.step {k : Kn} {G0 H0 G H G1 H1 : Hp} {y : Exc} {cls : Value} {d : Option Addr} (xr : XR ⟨k, H0, G0, liftX E0⟩ G0 y cls d H0) (st : Step G0 H0 G H) : XR ⟨k, H, G, liftX E0⟩ G y cls d H := by
  obtain ⟨C, nm, h1, h2, h3⟩ := xr
  refine ⟨C, nm, h1, h2, ?_⟩
  rcases h3 with ⟨a, b, c⟩ | ⟨d', vs, a, b, c, e⟩
  · exact .inl ⟨a, b, c⟩
  · exact .inr ⟨d', vs, a, st.h _ _ b, RDs.mono st.g c, e⟩
def eCHE (y : Exc) (den : Exc → List D → R D) (fa : FA) : FE := fun S => fa S >>= fun ds => (den y ds).nox
theorem d_callE {lv m n : Nat} {a : Addr} {y : Exc} {H0 G0 : Hp} {W : WX} {x : Str} {p : Pos} {es : List Expr} {fa : FA} (F : CalleeE X.prog X.w X.K X.mg X.base k lv x n den) (hr : L2H.RoomH m X.A) (hle : lv ≤ m) (hh : HeldE X k a y H0 G0) (ha : PA' X ⟨k.at a, H0, G0, W⟩ false (e :: es) fa) (hl : Len n fa)
    (hg : Gl X x := by rfl) (hdb : (x == ("__debug__" : Str)) = false := by decide)
    (hs : starEach (e :: es) X.env = (false, eval e X.env) :: starEach es X.env := by rfl) (hs2 : ((backTo pos (starEach es X.env)).any fun x => x.1) = false := by rfl) : PE' X ⟨k.at a, H0, G0, W⟩ .st (.Call (.Name x p) (e :: es) [] pos) (eCHE y den fa) := by
  obtain ⟨f, fd, ps, hn, ok, hm, hk, hb⟩ := F.ex
  obtain ⟨oe, cls, d, hin, hot, hz, hf, xr⟩ := hh.ex
  refine peI (L2H.pe_callE (E := fun _ => E0) (p := (a, oe)) ok (hr.mono hle) hot hin hg hm hk hb (fun σ => fun _ _ _ _ _ _ h => h.elim) ha hdb hs hs2) fun σ H Q ⟨G, S, rel, q⟩ => ?_
  have q : PostE ⟨k.at a, H0, G0, W⟩ .st G S σ H Q (fa S >>= fun ds => (den y ds).nox) := q
  refine ⟨G, S, rel, ?_⟩
  cases e0 : fa S with
  | exc x => rw [e0] at q; exact q
  | fail => rw [e0] at q; exact q
  | ok ds =>
    rw [e0] at q
    intro vs G1 H1 s1 q1
    have q1 : RDs (k.at a) G1 ds vs := q1
    have q : PostE ⟨k.at a, H0, G0, W⟩ .st G S σ H Q (den y ds).nox := q
    refine ⟨by rw [← q1.length]; exact hl S ds e0, y, cls, d, hz, hf, G1, ds, XR.step (G1 := G1) (H1 := H1) xr (rel.grow s1).st, s1.gh, q1, ?_⟩
    cases e1 : den y ds with
    | ok d => rw [e1] at q; exact fun v G' H' s2 r2 => q v G' H' (s1.trans s2) r2
    | exc x => rw [e1] at q; exact q.elim
    | fail => rw [e1] at q; exact q.elim
theorem s_tryE {x n : Str} {i : Nat} {body suite : List Stmt} {b₀ : Stmt} {np pos' : Pos} {hnd : Exc → FS} {mt : Nat → Option Bool} (T : TryC X.K X.mg c.k x mt) (hN : X.N.Nodup) (tk : L2N.Takes X c.W) (h0 : c.k.cl xix = none)
    (hb : ∀ (W : WX) (pn : List (Addr × Obj)) (xe : Value → Shared → Prop) (H0 G0 : Hp), L2N.Takes (X.tr pn xe) W → PassesOwn (model X.prog X.w) X.A X.env xe → PB1' (X.tr pn xe) ⟨c.k, H0, G0, W⟩ false as body s)
    (hsu : ∀ (a : Addr) (oe : Obj) (cls : Value) (d : Option Addr) (pn : List (Addr × Obj)) (H0 G0 : Hp) (y : Exc), Held (X.suite a ((a, oe) :: pn)) c.k a y H0 G0 → HeldE (X.suite a ((a, oe) :: pn)) c.k a y H0 G0 → L2H.HotC (X.suite a ((a, oe) :: pn)) →
      PB' (X.suite a ((a, oe) :: pn)) ⟨c.k.at a, H0, G0, liftX E0⟩ false bs (b₀ :: suite) (hnd y))
    (hi : X.N[i]? = some n := by rfl) (hln : X.env.kindOf n = some .local := by rfl) (hg : Gl X x := by rfl) (hdb : (x == ("__debug__" : Str)) = false := by decide) (hs : X.stack = X.env :: X.outer := by rfl) (hf : X.env.frame = some X.env.locals := by rfl) :
    PS' X c false as (.Try body [.ExceptHandler (some (.Name x np)) (some n) (b₀ :: suite) pos'] [] [] pos) (sTryAs mt i s hnd) := by
  obtain ⟨cv, hm, he⟩ := T.ex
  refine s_tryAs (bs := bs) hs hf hN hi hln ⟨hg, hdb, .inl hm⟩ tk h0 he hb fun a oe cls d pn H0 G0 y hz hv xr => ?_
  have hot : L2H.Hot1 (X.suite a ((a, oe) :: pn)).A (a, oe) := ⟨rfl, by obtain ⟨vs, e⟩ := hv; exact ⟨vs, e, hz.2.2 vs e⟩⟩
  have hh : HeldE (X.suite a ((a, oe) :: pn)) c.k a y H0 G0 := ⟨oe, cls, d, List.mem_cons_self .., hot, hz.zc, hv, xr⟩
  exact hsu a oe cls d pn H0 G0 y hh.held hh hh.hot
end
end M
set_option Elab.async false
set_option linter.all false
set_option maxRecDepth 100000
set_option maxHeartbeats 4000000
namespace Pf
open PySem L2 M
structure Bt (mg : Str → Option Value) : Prop where
  ValueError : mg "ValueError" = none
  abs : mg "abs" = none
  all : mg "all" = none
  any : mg "any" = none
  enumerate : mg "enumerate" = none
  int : mg "int" = none
  isinstance : mg "isinstance" = none
  len : mg "len" = none
  list : mg "list" = none
  max : mg "max" = none
  min : mg "min" = none
  range : mg "range" = none
  set : mg "set" = none
  sorted : mg "sorted" = none
  sum : mg "sum" = none
  tuple : mg "tuple" = none
section
variable {P : Program} {w : World} {K : PySem.W.Frag} {mg : Str → Option Value} {base : Heap} {cl : Nat → Option (Addr × List Str)}
def mt_BreachError : Nat → Option Bool := mtOf [(204, true), (205, true), (202, true), (206, true), (212, true)]
def mt_TooLarge : Nat → Option Bool := mtOf [(204, false), (205, false), (202, false), (206, false), (212, true)]
def xtab : Nat → D → Option Bool := xtabOf [((204, .cls 204), true), ((204, .cls 205), false), ((204, .cls 206), false), ((204, .cls 212), false), ((204, .cls 202), false), ((204, .cls 200), true), ((204, .ty "ValueError"), true), ((205, .cls 204), false), ((205, .cls 205), true), ((205, .cls 206), false), ((205, .cls 212), false), ((205, .cls 202), false), ((205, .cls 200), true), ((205, .ty "ValueError"), true), ((202, .cls 204), false), ((202, .cls 205), false), ((202, .cls 206), false), ((202, .cls 212), false), ((202, .cls 202), true), ((202, .cls 200), true), ((202, .ty "ValueError"), true), ((206, .cls 204), false), ((206, .cls 205), false), ((206, .cls 206), true), ((206, .cls 212), false), ((206, .cls 202), false), ((206, .cls 200), true), ((206, .ty "ValueError"), true), ((212, .cls 204), false), ((212, .cls 205), false), ((212, .cls 206), false), ((212, .cls 212), true), ((212, .cls 202), false), ((212, .cls 200), true), ((212, .ty "ValueError"), true)]
def m_check_nodes : FS :=
    (sSeq (sIf (tNo (tB' (e3 leD leD (eI (1)) (eC (f1 lenD) (aC (eW 0) aN)) (eG gv_MOST_NODES)))) (sExc0 204) sNil)
    (sFor (fun S => (eV 0) S >>= itemsD) (gT 2 (gsC (gN 1) (gsC (gN 2) gsN))) (sSeq (sIf (tNo (tB' (e3 leD leD (eI (1)) (eC (f1 lenD) (aC (eW 1) aN)) (eG gv_LONGEST_PLAN)))) (sExc0 204) sNil)
    (sSeq (sIf (tT' (eC (f1 anyD) (aC (lcE (fun S => (eV 1) S >>= itemsD) (gN 3) tY (e2 notInA (eW 3) (eG gv_ENTRIES)) [3]) aN))) (sExc0 204) sNil)
    (sIf (tNo (tB' (e3 leD leD (eC (f1 lenD) (aC (eW 1) aN)) (eW 2) (eG gv_LONGEST_TIME)))) (sExc0 204) sNil)))))
def d_check_nodes : List D → R D := runF false 4 m_check_nodes
theorem sc_check_nodes : FnScope ["nodes", "plan", "due", "entry"] ["nodes"] (defScope st_check_nodes) := ⟨rfl, rfl, rfl, by decide +kernel, rfl, by decide +kernel, by decide +kernel⟩
theorem ok_check_nodes {f : Addr} {fd : FuncData} (F : FunD K "check_nodes" "check_nodes" (defArgs st_check_nodes) (defBody st_check_nodes) (defScope st_check_nodes) [] [] f fd) (mgf : mg "check_nodes" = some (.ref f)) (B : Bt mg) (g_MOST_NODES : Gc mg ⟨K, cl⟩ "MOST_NODES" gv_MOST_NODES) (R_InvalidTask : RaO K mg ⟨K, cl⟩ "InvalidTask" 204) (g_LONGEST_PLAN : Gc mg ⟨K, cl⟩ "LONGEST_PLAN" gv_LONGEST_PLAN) (g_ENTRIES : Gc mg ⟨K, cl⟩ "ENTRIES" gv_ENTRIES) (g_LONGEST_TIME : Gc mg ⟨K, cl⟩ "LONGEST_TIME" gv_LONGEST_TIME) : CalleeX P w K mg base ⟨K, cl⟩ 1 "check_nodes" 1 false d_check_nodes := by
  have nd : (["nodes", "plan", "due", "entry"] : List Str).Nodup := sc_check_nodes.nd
  have z := fn_okX (P := P) (w := w) (mg := mg) (base := base) (k := ⟨K, cl⟩) (fr := false) (lv := 0) (as := _) (s := m_check_nodes) F sc_check_nodes fun cdv A outer sh H G0 E hr tk => by
    have hu := hr.units
    have hu5 := hr.units5
    exact (b_cons (s_if (d_not (d_tch (o_le) (o_le) d_int (d_bltn (c_len rfl) B.len (d_ab (d_w 0) d_an)) (d_g g_MOST_NODES))) (b_one (s_raise0 R_InvalidTask rfl tk)) b_nil)
    (b_one (s_for (L2.passes_of rfl) rfl (i_seq rfl (d_v 0)) (g_t rfl rfl (gs_c (g_n 1 nd) (gs_c (g_n 2 nd) gs_n))) (b_cons (s_if (d_not (d_tch (o_le) (o_le) d_int (d_bltn (c_len rfl) B.len (d_ab (d_w 1) d_an)) (d_g g_LONGEST_PLAN))) (b_one (s_raise0 R_InvalidTask rfl tk)) b_nil)
    (b_cons (s_if (d_tt rfl (d_bltn (c_any rfl) B.any (d_ab (d_lc [("entry", 3)] rfl nd (i_seq rfl (d_v 1)) (blkOk_by (N := ["nodes", "plan", "due", "entry"]) (sc := (defScope st_check_nodes)) (by decide +kernel)) (fun _ _ _ _ _ => (g_n 3 nd)) (fun _ _ _ _ _ => ts_n) (fun _ _ _ _ _ => (d_cmp (o_notinA rfl hu5) (d_w 3) (d_g g_ENTRIES)))) d_an))) (b_one (s_raise0 R_InvalidTask rfl tk)) b_nil)
    (b_one (s_if (d_not (d_tch (o_le) (o_le) (d_bltn (c_len rfl) B.len (d_ab (d_w 1) d_an)) (d_w 2) (d_g g_LONGEST_TIME))) (b_one (s_raise0 R_InvalidTask rfl tk)) b_nil)))))))
  exact ⟨f, fd, ["nodes"], rfl, z, mgf, F.kp, F.bindsN fun _ _ _ _ _ _ us hl => match us, hl with | [_], _ => rfl⟩
def m_check_edges : FS :=
    (sSeq (sFor (fun S => (eV 1) S >>= itemsD) (gT 3 (gsC (gN 2) (gsC (gN 3) (gsC (gN 4) gsN)))) (sSeq (sIf (tO (tNo (tB' (e3 leD ltD (eI (0)) (eW 2) (eC (f1 lenD) (aC (eW 0) aN))))) (tNo (tB' (e3 leD ltD (eI (0)) (eW 3) (eC (f1 lenD) (aC (eW 0) aN)))))) (sExc0 204) sNil)
    (sIf (tNo (tB' (e3 leD leD (e2 ixA (e2 ixA (eW 0) (eW 2)) (eI (1))) (eW 4) (eG gv_LONGEST_TIME)))) (sExc0 204) sNil)))
    (sIf (tB' (e2 ltD (lenSc (fun S => (eV 1) S >>= itemsD) (gT 3 (gsC (gN 2) (gsC (gN 3) (gsC (gN 4) gsN)))) tY (eT (aC (eV 2) (aC (eV 3) aN))) [2, 3, 4]) (eC (f1 lenD) (aC (eW 1) aN)))) (sExc0 204) sNil))
def d_check_edges : List D → R D := runF false 5 m_check_edges
theorem sc_check_edges : FnScope ["nodes", "edges", "u", "v", "gap"] ["nodes", "edges"] (defScope st_check_edges) := ⟨rfl, rfl, rfl, by decide +kernel, rfl, by decide +kernel, by decide +kernel⟩
theorem ok_check_edges {f : Addr} {fd : FuncData} (F : FunD K "check_edges" "check_edges" (defArgs st_check_edges) (defBody st_check_edges) (defScope st_check_edges) [] [] f fd) (mgf : mg "check_edges" = some (.ref f)) (B : Bt mg) (R_InvalidTask : RaO K mg ⟨K, cl⟩ "InvalidTask" 204) (g_LONGEST_TIME : Gc mg ⟨K, cl⟩ "LONGEST_TIME" gv_LONGEST_TIME) : CalleeX P w K mg base ⟨K, cl⟩ 1 "check_edges" 2 false d_check_edges := by
  have nd : (["nodes", "edges", "u", "v", "gap"] : List Str).Nodup := sc_check_edges.nd
  have z := fn_okX (P := P) (w := w) (mg := mg) (base := base) (k := ⟨K, cl⟩) (fr := false) (lv := 0) (as := _) (s := m_check_edges) F sc_check_edges fun cdv A outer sh H G0 E hr tk => by
    have hu := hr.units
    have hu5 := hr.units5
    exact (b_cons (s_for (L2.passes_of rfl) rfl (i_seq rfl (d_v 1)) (g_t rfl rfl (gs_c (g_n 2 nd) (gs_c (g_n 3 nd) (gs_c (g_n 4 nd) gs_n)))) (b_cons (s_if (d_pw (d_or (d_not (d_tch (o_le) (o_lt) d_int (d_w 2) (d_bltn (c_len rfl) B.len (d_ab (d_w 0) d_an)))) (d_or1 (d_not (d_tch (o_le) (o_lt) d_int (d_w 3) (d_bltn (c_len rfl) B.len (d_ab (d_w 0) d_an))))))) (b_one (s_raise0 R_InvalidTask rfl tk)) b_nil)
    (b_one (s_if (d_not (d_tch (o_le) (o_le) (d_ix (o_ixA rfl hu5) (d_ix (o_ixA rfl hu5) (d_w 0) (d_w 2)) d_int) (d_w 4) (d_g g_LONGEST_TIME))) (b_one (s_raise0 R_InvalidTask rfl tk)) b_nil))))
    (b_one (s_if (d_tc (o_lt) (d_lenSc [("u", 2), ("v", 3), ("gap", 4)] rfl hu B.len rfl nd (i_seq rfl (d_v 1)) (blkOk_by (N := ["nodes", "edges", "u", "v", "gap"]) (sc := (defScope st_check_edges)) (by decide +kernel)) (fun _ _ _ _ _ => (g_t rfl rfl (gs_c (g_n 2 nd) (gs_c (g_n 3 nd) (gs_c (g_n 4 nd) gs_n))))) (fun _ _ _ _ _ => ts_n) (fun _ _ _ _ _ => (d_tup (d_ac (d_v 2) (d_ac (d_v 3) d_an))))) (d_bltn (c_len rfl) B.len (d_ab (d_w 1) d_an))) (b_one (s_raise0 R_InvalidTask rfl tk)) b_nil)))
  exact ⟨f, fd, ["nodes", "edges"], rfl, z, mgf, F.kp, F.bindsN fun _ _ _ _ _ _ us hl => match us, hl with | [_, _], _ => rfl⟩
def m_Task : FS :=
    (sSeq (sFldN 4 0 0 (eC (f1 tupD) (aC (lcE (fun S => (eV 1) S >>= itemsD) (gT 2 (gsC (gN 4) (gsC (gN 5) gsN))) tY (eT (aC (eC (f1 tupD) (aC (eW 4) aN)) (aC (eV 5) aN))) [4, 5]) aN)))
    (sSeq (sFldN 4 0 1 (eC (f1 tupD) (aC (eC (f1 srtAD) (aC (lcE (fun S => (eV 2) S >>= itemsD) (gN 6) tY (eC (f1 tupD) (aC (eW 6) aN)) [6]) aN)) aN)))
    (sSeq (sFldN 4 0 2 (eV 3))
    (sSeq (sDrop (eCX d_check_nodes (aC (e1 (fldD 4 0) (eW 0)) aN)))
    (sSeq (sDrop (eCX d_check_edges (aC (e1 (fldD 4 0) (eW 0)) (aC (e1 (fldD 4 1) (eW 0)) aN))))
    (sSeq (sIf (tA (tT' (eW 3)) (tO (tB' (e2 neD (eC (f1 lenD) (aC (e1 (fldD 4 0) (eW 0)) aN)) (eI (1)))) (tB' (e2 neD (eC (f1 lenD) (aC (e1 (fldD 4 1) (eW 0)) aN)) (eI (1)))))) (sExc0 204) sNil)
    (sFldN 4 0 3 (eC (f1 tupD) (aC (lcE (fun S => (aC (e1 (fldD 4 0) (eW 0)) aN) S >>= enumerateF) (gT 2 (gsC (gN 7) (gsC (gT 2 (gsC (gN 4) (gsC (gN 5) gsN))) gsN))) tY (eC (f1 maxD) (aC (e2 addD (eL (aC (eV 5) aN)) (lcE (fun S => (e1 (fldD 4 1) (eW 0)) S >>= itemsD) (gT 3 (gsC (gN 8) (gsC (gN 9) (gsC (gN 10) gsN)))) (tB' (e2 eqD (eW 8) (eW 7))) (eV 10) [8, 9, 10])) aN)) [7, 4, 5]) aN)))))))))
def d_Task : List D → R D := runN 11 4 m_Task
theorem sc_Task : FnScope ["self", "nodes", "edges", "steady", "plan", "due", "edge", "node", "u", "v", "gap"] ["self", "nodes", "edges", "steady"] (defScope st_Task) := ⟨rfl, rfl, rfl, by decide +kernel, rfl, by decide +kernel, by decide +kernel⟩
theorem ok_Task {C f : Addr} {fd : FuncData} {dvs : List V} (hdd : ∀ G, RDs ⟨K, cl⟩ G [.bl false] dvs) (F : FunD K "__init__" "Task.__init__" (defArgs st_Task) (defBody st_Task) (defScope st_Task) [] ((["steady"] : List Str).zip dvs) f fd) (hcl : cl 4 = some (C, (["nodes", "edges", "steady", "caps"] : List Str))) (mk : Mk K C f) (mgf : mg "Task" = some (.ref C)) (B : Bt mg) (C_Task : ClsI K ⟨K, cl⟩ 4 (["nodes", "edges", "steady", "caps"] : List Str)) (h_check_nodes : CalleeX P w K mg base ⟨K, cl⟩ 1 "check_nodes" 1 false d_check_nodes) (h_check_edges : CalleeX P w K mg base ⟨K, cl⟩ 1 "check_edges" 2 false d_check_edges) (R_InvalidTask : RaO K mg ⟨K, cl⟩ "InvalidTask" 204) : MakerXD P w K mg base ⟨K, cl⟩ 2 "Task" 4 2 [.bl false] d_Task := by
  have nd : (["self", "nodes", "edges", "steady", "plan", "due", "edge", "node", "u", "v", "gap"] : List Str).Nodup := sc_Task.nd
  have z := init_okX (P := P) (w := w) (mg := mg) (base := base) (k := ⟨K, cl⟩) (ci := 4) (lv := 1) (as := [1000, 1000, 1000, 1000]) (s := m_Task) F sc_Task (by decide) fun cdv A outer sh H H0 G0 E hr tk => by
    have hu := hr.units
    have hu5 := hr.units5
    exact (b_cons (s_fld 4 0 0 C_Task rfl (d_btyp (c_tup rfl) B.tuple (d_ab (d_lc [("plan", 4), ("due", 5)] rfl nd (i_seq rfl (d_v 1)) (blkOk_by (N := ["self", "nodes", "edges", "steady", "plan", "due", "edge", "node", "u", "v", "gap"]) (sc := (defScope st_Task)) (by decide +kernel)) (fun _ _ _ _ _ => (g_t rfl rfl (gs_c (g_n 4 nd) (gs_c (g_n 5 nd) gs_n)))) (fun _ _ _ _ _ => ts_n) (fun _ _ _ _ _ => (d_tup (d_ac (d_btyp (c_tup rfl) B.tuple (d_ab (d_w 4) d_an)) (d_ac (d_v 5) d_an))))) d_an)))
    (b_cons (s_fld 4 0 1 C_Task rfl (d_btyp (c_tup rfl) B.tuple (d_ab (d_bltn (c_srtA rfl hu) B.sorted (d_ab (d_lc [("edge", 6)] rfl nd (i_seq rfl (d_v 2)) (blkOk_by (N := ["self", "nodes", "edges", "steady", "plan", "due", "edge", "node", "u", "v", "gap"]) (sc := (defScope st_Task)) (by decide +kernel)) (fun _ _ _ _ _ => (g_n 6 nd)) (fun _ _ _ _ _ => ts_n) (fun _ _ _ _ _ => (d_btyp (c_tup rfl) B.tuple (d_ab (d_w 6) d_an)))) d_an)) d_an)))
    (b_cons (s_fld 4 0 2 C_Task rfl (d_v 3))
    (b_cons (s_drop (d_callXS h_check_nodes hr (by decide) tk (d_ac (d_fld 4 0 C_Task rfl (d_w 0)) d_an) (len_c len_n)))
    (b_cons (s_drop (d_callXS h_check_edges hr (by decide) tk (d_ac (d_fld 4 0 C_Task rfl (d_w 0)) (d_ac (d_fld 4 1 C_Task rfl (d_w 0)) d_an)) (len_c (len_c len_n))))
    (b_cons (s_if (d_pw (d_and (d_tt rfl (d_w 3)) (d_and1 (d_pw (d_or (d_tc (o_ne rfl hu) (d_bltn (c_len rfl) B.len (d_ab (d_fld 4 0 C_Task rfl (d_w 0)) d_an)) d_int) (d_or1 (d_tc (o_ne rfl hu) (d_bltn (c_len rfl) B.len (d_ab (d_fld 4 1 C_Task rfl (d_w 0)) d_an)) d_int))))))) (b_one (s_raise0 R_InvalidTask rfl tk)) b_nil)
    (b_one (s_fld 4 0 3 C_Task rfl (d_btyp (c_tup rfl) B.tuple (d_ab (d_lc [("node", 7), ("plan", 4), ("due", 5)] rfl nd (i_enumerate rfl B.enumerate (d_ac (d_fld 4 0 C_Task rfl (d_w 0)) d_an)) (blkOk_by (N := ["self", "nodes", "edges", "steady", "plan", "due", "edge", "node", "u", "v", "gap"]) (sc := (defScope st_Task)) (by decide +kernel)) (fun _ _ _ _ _ => (g_t rfl rfl (gs_c (g_n 7 nd) (gs_c (g_t rfl rfl (gs_c (g_n 4 nd) (gs_c (g_n 5 nd) gs_n))) gs_n)))) (fun _ _ _ _ _ => ts_n) (fun _ _ _ _ _ => (d_bltn (c_max rfl) B.max (d_ab (d_op (o_add rfl) (d_lst (d_ac (d_v 5) d_an)) (d_lc [("u", 8), ("v", 9), ("gap", 10)] rfl nd (i_seq rfl (d_fld 4 1 C_Task rfl (d_w 0))) (blkOk_by (N := ["self", "nodes", "edges", "steady", "plan", "due", "edge", "node", "u", "v", "gap"]) (sc := (relS ({ kind := .function, names := [(".0", .local), ("node", .cell), ("plan", .local), ("due", .local), ("max", .globalImplicit), ("self", .free)], isGenerator := false, isCoroutine := false, more := [] } : Scope) (defScope st_Task))) (by decide +kernel)) (fun _ _ _ _ _ => (g_t rfl rfl (gs_c (g_n 8 nd) (gs_c (g_n 9 nd) (gs_c (g_n 10 nd) gs_n))))) (fun _ _ _ _ _ => (ts_1 (d_tc (o_eq rfl hu) (d_w 8) (d_w 7)))) (fun _ _ _ _ _ => (d_v 10)))) d_an)))) d_an))))))))))
  have hl0 : dvs.length = 1 := (hdd (fun _ => none)).length.symm
  obtain ⟨ds, hv, hb⟩ := F.binds0 (ps := ["self", "nodes", "edges", "steady"]) 3 (by intro h; have := congrArg List.length h; simp [hl0] at this) (by simp [hl0]) (match dvs, hl0 with | [_], _ => fun D doc pm an cdv ct us ks l1 l2 => match us, ks, l1, l2 with | [_, _, _], [_], _, _ => ⟨_, _, _, _, _, _, rfl, rfl, rfl⟩)
  exact ⟨C, f, fd, ["self", "nodes", "edges", "steady"], (["nodes", "edges", "steady", "caps"] : List Str), dvs, ds, hcl, mk, z, mgf, hb, (match dvs, hl0, hv with | [_], _, hv => hv), hdd⟩
theorem okk_Task {C f : Addr} {fd : FuncData} {dvs : List V} (hdd : ∀ G, RDs ⟨K, cl⟩ G [.bl false] dvs) (F : FunD K "__init__" "Task.__init__" (defArgs st_Task) (defBody st_Task) (defScope st_Task) [] ((["steady"] : List Str).zip dvs) f fd) (hcl : cl 4 = some (C, (["nodes", "edges", "steady", "caps"] : List Str))) (mk : Mk K C f) (mgf : mg "Task" = some (.ref C)) (B : Bt mg) (C_Task : ClsI K ⟨K, cl⟩ 4 (["nodes", "edges", "steady", "caps"] : List Str)) (h_check_nodes : CalleeX P w K mg base ⟨K, cl⟩ 1 "check_nodes" 1 false d_check_nodes) (h_check_edges : CalleeX P w K mg base ⟨K, cl⟩ 1 "check_edges" 2 false d_check_edges) (R_InvalidTask : RaO K mg ⟨K, cl⟩ "InvalidTask" 204) : MakerXK P w K mg base ⟨K, cl⟩ 2 "Task" 4 2 ["steady"] d_Task := by
  have nd : (["self", "nodes", "edges", "steady", "plan", "due", "edge", "node", "u", "v", "gap"] : List Str).Nodup := sc_Task.nd
  have z := init_okX (P := P) (w := w) (mg := mg) (base := base) (k := ⟨K, cl⟩) (ci := 4) (lv := 1) (as := [1000, 1000, 1000, 1000]) (s := m_Task) F sc_Task (by decide) fun cdv A outer sh H H0 G0 E hr tk => by
    have hu := hr.units
    have hu5 := hr.units5
    exact (b_cons (s_fld 4 0 0 C_Task rfl (d_btyp (c_tup rfl) B.tuple (d_ab (d_lc [("plan", 4), ("due", 5)] rfl nd (i_seq rfl (d_v 1)) (blkOk_by (N := ["self", "nodes", "edges", "steady", "plan", "due", "edge", "node", "u", "v", "gap"]) (sc := (defScope st_Task)) (by decide +kernel)) (fun _ _ _ _ _ => (g_t rfl rfl (gs_c (g_n 4 nd) (gs_c (g_n 5 nd) gs_n)))) (fun _ _ _ _ _ => ts_n) (fun _ _ _ _ _ => (d_tup (d_ac (d_btyp (c_tup rfl) B.tuple (d_ab (d_w 4) d_an)) (d_ac (d_v 5) d_an))))) d_an)))
    (b_cons (s_fld 4 0 1 C_Task rfl (d_btyp (c_tup rfl) B.tuple (d_ab (d_bltn (c_srtA rfl hu) B.sorted (d_ab (d_lc [("edge", 6)] rfl nd (i_seq rfl (d_v 2)) (blkOk_by (N := ["self", "nodes", "edges", "steady", "plan", "due", "edge", "node", "u", "v", "gap"]) (sc := (defScope st_Task)) (by decide +kernel)) (fun _ _ _ _ _ => (g_n 6 nd)) (fun _ _ _ _ _ => ts_n) (fun _ _ _ _ _ => (d_btyp (c_tup rfl) B.tuple (d_ab (d_w 6) d_an)))) d_an)) d_an)))
    (b_cons (s_fld 4 0 2 C_Task rfl (d_v 3))
    (b_cons (s_drop (d_callXS h_check_nodes hr (by decide) tk (d_ac (d_fld 4 0 C_Task rfl (d_w 0)) d_an) (len_c len_n)))
    (b_cons (s_drop (d_callXS h_check_edges hr (by decide) tk (d_ac (d_fld 4 0 C_Task rfl (d_w 0)) (d_ac (d_fld 4 1 C_Task rfl (d_w 0)) d_an)) (len_c (len_c len_n))))
    (b_cons (s_if (d_pw (d_and (d_tt rfl (d_w 3)) (d_and1 (d_pw (d_or (d_tc (o_ne rfl hu) (d_bltn (c_len rfl) B.len (d_ab (d_fld 4 0 C_Task rfl (d_w 0)) d_an)) d_int) (d_or1 (d_tc (o_ne rfl hu) (d_bltn (c_len rfl) B.len (d_ab (d_fld 4 1 C_Task rfl (d_w 0)) d_an)) d_int))))))) (b_one (s_raise0 R_InvalidTask rfl tk)) b_nil)
    (b_one (s_fld 4 0 3 C_Task rfl (d_btyp (c_tup rfl) B.tuple (d_ab (d_lc [("node", 7), ("plan", 4), ("due", 5)] rfl nd (i_enumerate rfl B.enumerate (d_ac (d_fld 4 0 C_Task rfl (d_w 0)) d_an)) (blkOk_by (N := ["self", "nodes", "edges", "steady", "plan", "due", "edge", "node", "u", "v", "gap"]) (sc := (defScope st_Task)) (by decide +kernel)) (fun _ _ _ _ _ => (g_t rfl rfl (gs_c (g_n 7 nd) (gs_c (g_t rfl rfl (gs_c (g_n 4 nd) (gs_c (g_n 5 nd) gs_n))) gs_n)))) (fun _ _ _ _ _ => ts_n) (fun _ _ _ _ _ => (d_bltn (c_max rfl) B.max (d_ab (d_op (o_add rfl) (d_lst (d_ac (d_v 5) d_an)) (d_lc [("u", 8), ("v", 9), ("gap", 10)] rfl nd (i_seq rfl (d_fld 4 1 C_Task rfl (d_w 0))) (blkOk_by (N := ["self", "nodes", "edges", "steady", "plan", "due", "edge", "node", "u", "v", "gap"]) (sc := (relS ({ kind := .function, names := [(".0", .local), ("node", .cell), ("plan", .local), ("due", .local), ("max", .globalImplicit), ("self", .free)], isGenerator := false, isCoroutine := false, more := [] } : Scope) (defScope st_Task))) (by decide +kernel)) (fun _ _ _ _ _ => (g_t rfl rfl (gs_c (g_n 8 nd) (gs_c (g_n 9 nd) (gs_c (g_n 10 nd) gs_n))))) (fun _ _ _ _ _ => (ts_1 (d_tc (o_eq rfl hu) (d_w 8) (d_w 7)))) (fun _ _ _ _ _ => (d_v 10)))) d_an)))) d_an))))))))))
  have hl0 : dvs.length = 1 := (hdd (fun _ => none)).length.symm
  obtain ⟨mv, kb⟩ := F.kbinds0 (ps := ["self", "nodes", "edges", "steady"]) 3 ["steady"] [] (fun us _ ws => us ++ ws) (by intro h; have := congrArg List.length h; simp [hl0] at this) (fun q hq => nomatch hq) (fun r1 _ r3 => r1.append r3) (fun _ _ _ _ _ _ us mv ws l1 l2 l3 => match us, mv, ws, l1, l2, l3 with | [_, _, _], [], [_], _, _, _ => rfl)
  exact ⟨C, f, fd, ["self", "nodes", "edges", "steady"], (["nodes", "edges", "steady", "caps"] : List Str), _, hcl, mk, z, mgf, kb⟩
def m_Task_plain : FS :=
    (sRet (eCXL 0 4 [.bl false] d_Task (aC (eL (aC (eT (aC (e2 mulT (eT (aC (eS "") aN)) (eW 1)) (aC (eV 2) aN))) aN)) (aC (eL (aC (eT (aC (eI (0)) (aC (eI (0)) (aC (eV 3) aN)))) aN)) aN))))
def d_Task_plain : List D → R D := runF false 4 m_Task_plain
theorem sc_Task_plain : FnScope ["cls", "length", "due", "gap"] ["cls", "length", "due", "gap"] (defScope st_Task_plain) := ⟨rfl, rfl, rfl, by decide +kernel, rfl, by decide +kernel, by decide +kernel⟩
theorem ok_Task_plain {C p f : Addr} {mc : Value} {fd : FuncData} (F : FunD K "plain" "Task.plain" (defArgs st_Task_plain) (defBody st_Task_plain) (defScope st_Task_plain) [] [] f fd) (hcl : cl 4 = some (C, (["nodes", "edges", "steady", "caps"] : List Str))) (cr : ClX.CRead K C mc) (cm : ClX.CMet K C mc "plain" p f) (B : Bt mg) (m_Task : MakerXD P w K mg base ⟨K, cl⟩ 2 "Task" 4 2 [.bl false] d_Task) : CmethX P w K mg base ⟨K, cl⟩ 4 4 "plain" 4 false d_Task_plain := by
  have nd : (["cls", "length", "due", "gap"] : List Str).Nodup := sc_Task_plain.nd
  have z := fn_okX (P := P) (w := w) (mg := mg) (base := base) (k := ⟨K, cl⟩) (fr := false) (lv := 3) (as := _) (s := m_Task_plain) F sc_Task_plain fun cdv A outer sh H G0 E hr tk => by
    have hu := hr.units
    have hu5 := hr.units5
    exact (b_one (s_ret (d_z (d_makerXL 0 m_Task hr (by decide) tk (d_ac (d_z (d_lst (d_ac (d_tup (d_ac (d_op (o_mulT rfl) (d_tup (d_ac d_str d_an)) (d_w 1)) (d_ac (d_v 2) d_an))) d_an))) (d_ac (d_z (d_lst (d_ac (d_tup (d_ac d_int (d_ac d_int (d_ac (d_v 3) d_an)))) d_an))) d_an)) (len_c (len_c len_n))))))
  exact ⟨C, p, f, mc, fd, ["cls", "length", "due", "gap"], (["nodes", "edges", "steady", "caps"] : List Str), rfl, hcl, cr, cm, z, F.bindsN fun _ _ _ _ _ _ us hl => match us, hl with | [_, _, _, _], _ => rfl⟩
def m_Task_serving : FS :=
    (sRet (eCXKL 0 4 d_Task (aC (eL (aC (eT (aC (e2 mulT (eT (aC (eS "") aN)) (eW 1)) (aC (eV 2) aN))) aN)) (aC (eL (aC (eT (aC (eI (0)) (aC (eI (0)) (aC (eV 2) aN)))) aN)) aN)) (aC (eB true) aN)))
def d_Task_serving : List D → R D := runF false 3 m_Task_serving
theorem sc_Task_serving : FnScope ["cls", "length", "gap"] ["cls", "length", "gap"] (defScope st_Task_serving) := ⟨rfl, rfl, rfl, by decide +kernel, rfl, by decide +kernel, by decide +kernel⟩
theorem ok_Task_serving {C p f : Addr} {mc : Value} {fd : FuncData} (F : FunD K "serving" "Task.serving" (defArgs st_Task_serving) (defBody st_Task_serving) (defScope st_Task_serving) [] [] f fd) (hcl : cl 4 = some (C, (["nodes", "edges", "steady", "caps"] : List Str))) (cr : ClX.CRead K C mc) (cm : ClX.CMet K C mc "serving" p f) (B : Bt mg) (mx_Task : MakerXK P w K mg base ⟨K, cl⟩ 2 "Task" 4 2 ["steady"] d_Task) : CmethX P w K mg base ⟨K, cl⟩ 4 4 "serving" 3 false d_Task_serving := by
  have nd : (["cls", "length", "gap"] : List Str).Nodup := sc_Task_serving.nd
  have z := fn_okX (P := P) (w := w) (mg := mg) (base := base) (k := ⟨K, cl⟩) (fr := false) (lv := 3) (as := _) (s := m_Task_serving) F sc_Task_serving fun cdv A outer sh H G0 E hr tk => by
    have hu := hr.units
    have hu5 := hr.units5
    exact (b_one (s_ret (d_z (d_makerXKL 0 (ks := ["steady"]) mx_Task hr (by decide) tk (d_ac (d_z (d_lst (d_ac (d_tup (d_ac (d_op (o_mulT rfl) (d_tup (d_ac d_str d_an)) (d_w 1)) (d_ac (d_v 2) d_an))) d_an))) (d_ac (d_z (d_lst (d_ac (d_tup (d_ac d_int (d_ac d_int (d_ac (d_v 2) d_an)))) d_an))) d_an)) (len_c (len_c len_n)) (d_kc d_bl d_kn) (len_c len_n)))))
  exact ⟨C, p, f, mc, fd, ["cls", "length", "gap"], (["nodes", "edges", "steady", "caps"] : List Str), rfl, hcl, cr, cm, z, F.bindsN fun _ _ _ _ _ _ us hl => match us, hl with | [_, _, _], _ => rfl⟩
def m_Task_server : FS :=
    (sSeq (sIf (tNo (tT' (e1 (fldD 4 2) (eW 0)))) (sRet (eB false)) sNil)
    (sSeq (sAsg (gT 2 (gsC (gN 1) (gsC (gN 2) gsN))) (e2 ixA (e1 (fldD 4 0) (eW 0)) (eI (0))))
    (sRet (eAnd (e2 eqD (eW 2) (e2 ixA (e2 ixA (e1 (fldD 4 1) (eW 0)) (eI (0))) (eI (2)))) (eNot (eC (f1 anyTD) (aC (eW 1) aN)))))))
def d_Task_server : List D → R D := fun ds => (runF false 3 m_Task_server ds).nox
theorem sc_Task_server : FnScope ["self", "plan", "due"] ["self"] (defScope st_Task_server) := ⟨rfl, rfl, rfl, by decide +kernel, rfl, by decide +kernel, by decide +kernel⟩
theorem ok_Task_server {C p f : Addr} {fd : FuncData} (F : FunD K "server" "Task.server" (defArgs st_Task_server) (defBody st_Task_server) (defScope st_Task_server) [] [] f fd) (hcl : cl 4 = some (C, (["nodes", "edges", "steady", "caps"] : List Str))) (mc : Cls K C) (mk : PropOf K C "server" p f) (B : Bt mg) (C_Task : ClsI K ⟨K, cl⟩ 4 (["nodes", "edges", "steady", "caps"] : List Str)) : Prope P w K mg base ⟨K, cl⟩ 1 4 "server" false d_Task_server := by
  have nd : (["self", "plan", "due"] : List Str).Nodup := sc_Task_server.nd
  have z := fn_ok (P := P) (w := w) (mg := mg) (base := base) (k := ⟨K, cl⟩) (fr := false) (lv := 0) (as := [1, 2]) (s := m_Task_server) F sc_Task_server fun cdv A outer sh H G0 hr => by
    have hu := hr.units
    have hu5 := hr.units5
    exact (b_cons (s_if (d_not (d_tt rfl (d_fld 4 2 C_Task rfl (d_w 0)))) (b_one (s_ret d_bl)) b_nil)
    (b_cons (s_asg (d_ix (o_ixA rfl hu5) (d_fld 4 0 C_Task rfl (d_w 0)) d_int) (g_t rfl rfl (gs_c (g_n 1 nd) (gs_c (g_n 2 nd) gs_n))))
    (b_one (s_ret (d_vand (d_cmp (o_eq rfl hu) (d_w 2) (d_ix (o_ixA rfl hu5) (d_ix (o_ixA rfl hu5) (d_fld 4 1 C_Task rfl (d_w 0)) d_int) d_int)) (d_vone (d_vnot (d_bltn (c_anyT rfl rfl) B.any (d_ab (d_w 1) d_an)))))))))
  exact ⟨C, p, f, fd, ["self"], (["nodes", "edges", "steady", "caps"] : List Str), rfl, hcl, mc, mk, z, F.bindsN fun _ _ _ _ _ _ us hl => match us, hl with | [_], _ => rfl⟩
def m_Task_cap : FS :=
    (sRet (e2 ixA (e1 (fldD 4 3) (eW 0)) (eW 1)))
def d_Task_cap : List D → R D := fun ds => (runF false 2 m_Task_cap ds).nox
theorem sc_Task_cap : FnScope ["self", "node"] ["self", "node"] (defScope st_Task_cap) := ⟨rfl, rfl, rfl, by decide +kernel, rfl, by decide +kernel, by decide +kernel⟩
theorem ok_Task_cap {C f : Addr} {fd : FuncData} (F : FunD K "cap" "Task.cap" (defArgs st_Task_cap) (defBody st_Task_cap) (defScope st_Task_cap) [] [] f fd) (hcl : cl 4 = some (C, (["nodes", "edges", "steady", "caps"] : List Str))) (mc : Cls K C) (mk : Meth K C "cap" f) (B : Bt mg) (C_Task : ClsI K ⟨K, cl⟩ 4 (["nodes", "edges", "steady", "caps"] : List Str)) : Method P w K mg base ⟨K, cl⟩ 1 4 "cap" 2 false d_Task_cap := by
  have nd : (["self", "node"] : List Str).Nodup := sc_Task_cap.nd
  have z := fn_ok (P := P) (w := w) (mg := mg) (base := base) (k := ⟨K, cl⟩) (fr := false) (lv := 0) (as := []) (s := m_Task_cap) F sc_Task_cap fun cdv A outer sh H G0 hr => by
    have hu := hr.units
    have hu5 := hr.units5
    exact (b_one (s_ret (d_ix (o_ixA rfl hu5) (d_fld 4 3 C_Task rfl (d_w 0)) (d_w 1))))
  exact ⟨C, f, fd, ["self", "node"], (["nodes", "edges", "steady", "caps"] : List Str), rfl, hcl, by decide, mc, mk, z, F.bindsN fun _ _ _ _ _ _ us hl => match us, hl with | [_, _], _ => rfl⟩
def m_Choice : FS :=
    (sSeq (sIf (tB' (e2 notInA (eW 1) (eG gv_ORDERS))) (sExc0 205) sNil)
    (sSeq (sIf (tO (tT' (eC (f1 anyD) (aC (lcE (fun S => (eV 2) S >>= itemsD) (gN 3) tY (e2 notInA (eW 3) (eG gv_RULES)) [3]) aN))) (tB' (e2 ltD (e1 lenSetD (eW 2)) (eC (f1 lenD) (aC (eW 2) aN))))) (sExc0 205) sNil)
    (sSeq (sFldN 5 0 0 (eV 1))
    (sFldN 5 0 1 (eC (f1 tupD) (aC (eC (f1 srtAD) (aC (eW 2) aN)) aN))))))
def d_Choice : List D → R D := runN 4 5 m_Choice
theorem sc_Choice : FnScope ["self", "order", "rules", "rule"] ["self", "order", "rules"] (defScope st_Choice) := ⟨rfl, rfl, rfl, by decide +kernel, rfl, by decide +kernel, by decide +kernel⟩
theorem okS_Choice_ {C f : Addr} {fd : FuncData} (hdd : ∀ G, RDs ⟨K, cl⟩ G [] []) (F : FunD K "__init__" "Choice.__init__" (defArgs st_Choice) (defBody st_Choice) (defScope st_Choice) [.str "first"] [] f fd) (hcl : cl 5 = some (C, (["order", "rules"] : List Str))) (mk : Mk K C f) (mgf : mg "Choice" = some (.ref C)) (B : Bt mg) (g_ORDERS : Gc mg ⟨K, cl⟩ "ORDERS" gv_ORDERS) (R_InvalidChoice : RaO K mg ⟨K, cl⟩ "InvalidChoice" 205) (g_RULES : Gc mg ⟨K, cl⟩ "RULES" gv_RULES) (C_Choice : ClsI K ⟨K, cl⟩ 5 (["order", "rules"] : List Str)) : MakerXS P w K mg base ⟨K, cl⟩ 1 "Choice" 5 1 [] [] [] d_Choice := by
  have nd : (["self", "order", "rules", "rule"] : List Str).Nodup := sc_Choice.nd
  have sb := starB1 (ps := ["self", "order"]) (pv := "rules") F 2 (by simp) fun _ _ _ _ _ _ _ us its rest hl h2 => match us, its, rest, hl, h2 with | [_, _], [_], [], _, _ => ⟨_, rfl, rfl⟩ | [_, _], [_], _ :: _, _, _ => ⟨_, rfl, rfl⟩
  have sr : ∀ {vs : List V} {us : List Value} {zs : List V} {ws : List Value}, Vals vs us → Vals zs ws → Vals (vs ++ M.mergeK [] [] zs) us := fun r _ => by simpa [M.mergeK] using r
  have z := init_okS (P := P) (w := w) (mg := mg) (base := base) (k := ⟨K, cl⟩) (ci := 5) (lv := 0) (as := [1000, 1000]) (s := m_Choice) (N := ["self", "order", "rules", "rule"]) (ps := ["self", "order"]) (pv := "rules") F sc_Choice (by decide) sb (gV := fun vs zs => vs ++ M.mergeK [] [] zs) sr (by intro us ws l1 l2; simpa using l1) fun cdv A outer sh H H0 G0 E hr tk => by
    have hu := hr.units
    have hu5 := hr.units5
    exact (b_cons (s_if (d_tc (o_notinA rfl hu5) (d_w 1) (d_g g_ORDERS)) (b_one (s_raise0 R_InvalidChoice rfl tk)) b_nil)
    (b_cons (s_if (d_pw (d_or (d_tt rfl (d_bltn (c_any rfl) B.any (d_ab (d_lc [("rule", 3)] rfl nd (i_seq rfl (d_v 2)) (blkOk_by (N := ["self", "order", "rules", "rule"]) (sc := (defScope st_Choice)) (by decide +kernel)) (fun _ _ _ _ _ => (g_n 3 nd)) (fun _ _ _ _ _ => ts_n) (fun _ _ _ _ _ => (d_cmp (o_notinA rfl hu5) (d_w 3) (d_g g_RULES)))) d_an))) (d_or1 (d_tc (o_lt) (d_lenSet rfl rfl hu B.len B.set (d_w 2)) (d_bltn (c_len rfl) B.len (d_ab (d_w 2) d_an)))))) (b_one (s_raise0 R_InvalidChoice rfl tk)) b_nil)
    (b_cons (s_fld 5 0 0 C_Choice rfl (d_v 1))
    (b_one (s_fld 5 0 1 C_Choice rfl (d_btyp (c_tup rfl) B.tuple (d_ab (d_bltn (c_srtA rfl hu) B.sorted (d_ab (d_w 2) d_an)) d_an)))))))
  exact ⟨C, f, (["order", "rules"] : List Str), [], hcl, mk, mgf, hdd, rfl, rfl, z⟩
theorem okZ_Choice {C f : Addr} {fd : FuncData} (F : FunD K "__init__" "Choice.__init__" (defArgs st_Choice) (defBody st_Choice) (defScope st_Choice) [.str "first"] [] f fd) (hcl : cl 5 = some (C, (["order", "rules"] : List Str))) (mk : Mk K C f) (mgf : mg "Choice" = some (.ref C)) (B : Bt mg) (g_ORDERS : Gc mg ⟨K, cl⟩ "ORDERS" gv_ORDERS) (R_InvalidChoice : RaO K mg ⟨K, cl⟩ "InvalidChoice" 205) (g_RULES : Gc mg ⟨K, cl⟩ "RULES" gv_RULES) (C_Choice : ClsI K ⟨K, cl⟩ 5 (["order", "rules"] : List Str)) : MakerXZ P w K mg base ⟨K, cl⟩ 1 "Choice" 5 [.str "first"] d_Choice := by
  have nd : (["self", "order", "rules", "rule"] : List Str).Nodup := sc_Choice.nd
  obtain ⟨its, rI, sb⟩ := starZ1 (ps := ["self", "order"]) (pv := "rules") F (by simp) fun _ _ _ _ _ _ _ _ its h2 => match its, h2 with | [_], _ => ⟨_, rfl, rfl⟩
  have z := init_okZ (P := P) (w := w) (mg := mg) (base := base) (k := ⟨K, cl⟩) (ci := 5) (lv := 0) (as := [1000, 1000]) (s := m_Choice) (N := ["self", "order", "rules", "rule"]) (ps := ["self", "order"]) (pv := "rules") F sc_Choice (by decide) rI sb rfl fun cdv A outer sh H H0 G0 E hr tk => by
    have hu := hr.units
    have hu5 := hr.units5
    exact (b_cons (s_if (d_tc (o_notinA rfl hu5) (d_w 1) (d_g g_ORDERS)) (b_one (s_raise0 R_InvalidChoice rfl tk)) b_nil)
    (b_cons (s_if (d_pw (d_or (d_tt rfl (d_bltn (c_any rfl) B.any (d_ab (d_lc [("rule", 3)] rfl nd (i_seq rfl (d_v 2)) (blkOk_by (N := ["self", "order", "rules", "rule"]) (sc := (defScope st_Choice)) (by decide +kernel)) (fun _ _ _ _ _ => (g_n 3 nd)) (fun _ _ _ _ _ => ts_n) (fun _ _ _ _ _ => (d_cmp (o_notinA rfl hu5) (d_w 3) (d_g g_RULES)))) d_an))) (d_or1 (d_tc (o_lt) (d_lenSet rfl rfl hu B.len B.set (d_w 2)) (d_bltn (c_len rfl) B.len (d_ab (d_w 2) d_an)))))) (b_one (s_raise0 R_InvalidChoice rfl tk)) b_nil)
    (b_cons (s_fld 5 0 0 C_Choice rfl (d_v 1))
    (b_one (s_fld 5 0 1 C_Choice rfl (d_btyp (c_tup rfl) B.tuple (d_ab (d_bltn (c_srtA rfl hu) B.sorted (d_ab (d_w 2) d_an)) d_an)))))))
  exact ⟨C, f, (["order", "rules"] : List Str), [.str "first"], hcl, mk, mgf, fun _ => (.cons (.str _) .nil), z⟩
def m_check_supply : FS :=
    (sSeq (sIf (tNo (tB' (e3 leD leD (eI (1)) (eW 0) (eG gv_MOST_STATES)))) (sExc0 202) sNil)
    (sSeq (sIf (tO (tNo (tT' (eW 2))) (tO (tB' (e2 ltD (e1 lenSetD (eW 2)) (eC (f1 lenD) (aC (eW 2) aN)))) (tO (tB' (e2 ltD (e2 ixA (eW 2) (eI (0))) (eI (0)))) (tB' (e2 geD (e2 ixA (eW 2) (e1 negD (eI (1)))) (eW 0)))))) (sExc0 202) sNil)
    (sSeq (sIf (tB' (e2 ltD (e1 lenSetD (eW 1)) (eC (f1 lenD) (aC (eW 1) aN)))) (sExc0 202) sNil)
    (sSeq (sFor (fun S => (eV 1) S >>= itemsD) (gT 3 (gsC (gN 3) (gsC (gN 4) (gsC (gN 5) gsN)))) (sIf (tO (tNo (tB' (e3 leD ltD (eI (0)) (eW 3) (eW 0)))) (tO (tNo (tB' (e3 leD ltD (eI (0)) (eW 5) (eW 0)))) (tB' (e2 notInA (eW 4) (eT (aC (eI (0)) (aC (eI (1)) aN))))))) (sExc0 202) sNil))
    (sIf (tB' (e2 ltD (lenScK (fun S => (eV 1) S >>= itemsD) (gT 3 (gsC (gN 3) (gsC (gN 4) (gsC (gN 5) gsN)))) tY (eV 3) [3, 4, 5]) (eW 0))) (sExc0 202) sNil)))))
def d_check_supply : List D → R D := runF false 6 m_check_supply
theorem sc_check_supply : FnScope ["size", "steps", "starts", "state", "bit", "ahead"] ["size", "steps", "starts"] (defScope st_check_supply) := ⟨rfl, rfl, rfl, by decide +kernel, rfl, by decide +kernel, by decide +kernel⟩
theorem ok_check_supply {f : Addr} {fd : FuncData} (F : FunD K "check_supply" "check_supply" (defArgs st_check_supply) (defBody st_check_supply) (defScope st_check_supply) [] [] f fd) (mgf : mg "check_supply" = some (.ref f)) (B : Bt mg) (g_MOST_STATES : Gc mg ⟨K, cl⟩ "MOST_STATES" gv_MOST_STATES) (R_InvalidSupply : RaO K mg ⟨K, cl⟩ "InvalidSupply" 202) : CalleeX P w K mg base ⟨K, cl⟩ 1 "check_supply" 3 false d_check_supply := by
  have nd : (["size", "steps", "starts", "state", "bit", "ahead"] : List Str).Nodup := sc_check_supply.nd
  have z := fn_okX (P := P) (w := w) (mg := mg) (base := base) (k := ⟨K, cl⟩) (fr := false) (lv := 0) (as := _) (s := m_check_supply) F sc_check_supply fun cdv A outer sh H G0 E hr tk => by
    have hu := hr.units
    have hu5 := hr.units5
    exact (b_cons (s_if (d_not (d_tch (o_le) (o_le) d_int (d_w 0) (d_g g_MOST_STATES))) (b_one (s_raise0 R_InvalidSupply rfl tk)) b_nil)
    (b_cons (s_if (d_pw (d_or (d_not (d_tt rfl (d_w 2))) (d_or (d_tc (o_lt) (d_lenSet rfl rfl hu B.len B.set (d_w 2)) (d_bltn (c_len rfl) B.len (d_ab (d_w 2) d_an))) (d_or (d_tc (o_lt) (d_ix (o_ixA rfl hu5) (d_w 2) d_int) d_int) (d_or1 (d_tc (o_ge) (d_ix (o_ixA rfl hu5) (d_w 2) (d_un o_neg d_int)) (d_w 0))))))) (b_one (s_raise0 R_InvalidSupply rfl tk)) b_nil)
    (b_cons (s_if (d_tc (o_lt) (d_lenSet rfl rfl hu B.len B.set (d_w 1)) (d_bltn (c_len rfl) B.len (d_ab (d_w 1) d_an))) (b_one (s_raise0 R_InvalidSupply rfl tk)) b_nil)
    (b_cons (s_for (L2.passes_of rfl) rfl (i_seq rfl (d_v 1)) (g_t rfl rfl (gs_c (g_n 3 nd) (gs_c (g_n 4 nd) (gs_c (g_n 5 nd) gs_n)))) (b_one (s_if (d_pw (d_or (d_not (d_tch (o_le) (o_lt) d_int (d_w 3) (d_w 0))) (d_or (d_not (d_tch (o_le) (o_lt) d_int (d_w 5) (d_w 0))) (d_or1 (d_tc (o_notinA rfl hu5) (d_w 4) (d_tup (d_ac d_int (d_ac d_int d_an)))))))) (b_one (s_raise0 R_InvalidSupply rfl tk)) b_nil)))
    (b_one (s_if (d_tc (o_lt) (d_lenScK [("state", 3), ("bit", 4), ("ahead", 5)] rfl hu B.len rfl nd (i_seq rfl (d_v 1)) (blkOk_by (N := ["size", "steps", "starts", "state", "bit", "ahead"]) (sc := (defScope st_check_supply)) (by decide +kernel)) (fun _ _ _ _ _ => (g_t rfl rfl (gs_c (g_n 3 nd) (gs_c (g_n 4 nd) (gs_c (g_n 5 nd) gs_n))))) (fun _ _ _ _ _ => ts_n) (fun _ _ _ _ _ => (d_v 3))) (d_w 0)) (b_one (s_raise0 R_InvalidSupply rfl tk)) b_nil))))))
  exact ⟨f, fd, ["size", "steps", "starts"], rfl, z, mgf, F.kp, F.bindsN fun _ _ _ _ _ _ us hl => match us, hl with | [_, _, _], _ => rfl⟩
def m_moves_of : FS :=
    (sSeq (sOwn 1 (fun _ => .ok (.dit [] [])))
    (sSeq (sFor (fun S => (eV 0) S >>= itemsD) (gT 3 (gsC (gN 2) (gsC (gN 3) (gsC (gN 4) gsN)))) (sPutA 1 (eT (aC (eV 2) (aC (eV 3) aN))) (e2 addD (eGet2 (eW 1) (eT (aC (eV 2) (aC (eV 3) aN))) (eT aN)) (eT (aC (eV 4) aN)))))
    (sRetO 1)))
def d_moves_of : List D → R D := fun ds => (runF true 5 m_moves_of ds).nox
theorem sc_moves_of : FnScope ["steps", "found", "state", "bit", "ahead"] ["steps"] (defScope st_moves_of) := ⟨rfl, rfl, rfl, by decide +kernel, rfl, by decide +kernel, by decide +kernel⟩
theorem ok_moves_of {f : Addr} {fd : FuncData} (F : FunD K "moves_of" "moves_of" (defArgs st_moves_of) (defBody st_moves_of) (defScope st_moves_of) [] [] f fd) (mgf : mg "moves_of" = some (.ref f)) (B : Bt mg)  : Callee P w K mg base ⟨K, cl⟩ 1 "moves_of" 1 true d_moves_of := by
  have nd : (["steps", "found", "state", "bit", "ahead"] : List Str).Nodup := sc_moves_of.nd
  have z := fn_ok (P := P) (w := w) (mg := mg) (base := base) (k := ⟨K, cl⟩) (fr := true) (lv := 0) (as := [1, 2, 3, 4, 1001]) (s := m_moves_of) F sc_moves_of fun cdv A outer sh H G0 hr => by
    have hu := hr.units
    have hu5 := hr.units5
    exact (b_cons (s_own 1 nd d_dnewT)
    (b_cons (s_for PassesOwn.never rfl (i_seq rfl (d_v 0)) (g_t rfl rfl (gs_c (g_n 2 nd) (gs_c (g_n 3 nd) (gs_c (g_n 4 nd) gs_n)))) (b_one (s_putA 1 hu (d_op (o_add rfl) (d_get2A hu (d_w 1) (d_tup (d_ac (d_v 2) (d_ac (d_v 3) d_an))) (d_tup d_an)) (d_tup (d_ac (d_v 4) d_an))) (d_tup (d_ac (d_v 2) (d_ac (d_v 3) d_an))))))
    (b_one (s_retO 1))))
  exact ⟨f, fd, ["steps"], rfl, z, mgf, F.kp, F.bindsN fun _ _ _ _ _ _ us hl => match us, hl with | [_], _ => rfl⟩
def m_Supply : FS :=
    (sSeq (sFldN 3 0 0 (eV 1))
    (sSeq (sFldN 3 0 1 (eC (f1 tupD) (aC (eC (f1 srtAD) (aC (lcE (fun S => (eV 2) S >>= itemsD) (gN 4) tY (eC (f1 tupD) (aC (eW 4) aN)) [4]) aN)) aN)))
    (sSeq (sFldN 3 0 2 (eC (f1 tupD) (aC (eC (f1 srtAD) (aC (eW 3) aN)) aN)))
    (sSeq (sDrop (eCX d_check_supply (aC (eV 1) (aC (e1 (fldD 3 1) (eW 0)) (aC (e1 (fldD 3 2) (eW 0)) aN)))))
    (sFldN 3 0 3 (eC d_moves_of (aC (e1 (fldD 3 1) (eW 0)) aN)))))))
def d_Supply : List D → R D := runN 5 3 m_Supply
theorem sc_Supply : FnScope ["self", "size", "steps", "starts", "step"] ["self", "size", "steps", "starts"] (defScope st_Supply) := ⟨rfl, rfl, rfl, by decide +kernel, rfl, by decide +kernel, by decide +kernel⟩
theorem ok_Supply {C f : Addr} {fd : FuncData} {dvs : List V} (hdd : ∀ G, RDs ⟨K, cl⟩ G [.tup [.int 0]] dvs) (F : FunD K "__init__" "Supply.__init__" (defArgs st_Supply) (defBody st_Supply) (defScope st_Supply) [] ((["starts"] : List Str).zip dvs) f fd) (hcl : cl 3 = some (C, (["size", "steps", "starts", "moves"] : List Str))) (mk : Mk K C f) (mgf : mg "Supply" = some (.ref C)) (B : Bt mg) (C_Supply : ClsI K ⟨K, cl⟩ 3 (["size", "steps", "starts", "moves"] : List Str)) (h_check_supply : CalleeX P w K mg base ⟨K, cl⟩ 1 "check_supply" 3 false d_check_supply) (h_moves_of : Callee P w K mg base ⟨K, cl⟩ 1 "moves_of" 1 true d_moves_of) : MakerXD P w K mg base ⟨K, cl⟩ 2 "Supply" 3 2 [.tup [.int 0]] d_Supply := by
  have nd : (["self", "size", "steps", "starts", "step"] : List Str).Nodup := sc_Supply.nd
  have z := init_okX (P := P) (w := w) (mg := mg) (base := base) (k := ⟨K, cl⟩) (ci := 3) (lv := 1) (as := [1000, 1000, 1000, 1000]) (s := m_Supply) F sc_Supply (by decide) fun cdv A outer sh H H0 G0 E hr tk => by
    have hu := hr.units
    have hu5 := hr.units5
    exact (b_cons (s_fld 3 0 0 C_Supply rfl (d_v 1))
    (b_cons (s_fld 3 0 1 C_Supply rfl (d_btyp (c_tup rfl) B.tuple (d_ab (d_bltn (c_srtA rfl hu) B.sorted (d_ab (d_lc [("step", 4)] rfl nd (i_seq rfl (d_v 2)) (blkOk_by (N := ["self", "size", "steps", "starts", "step"]) (sc := (defScope st_Supply)) (by decide +kernel)) (fun _ _ _ _ _ => (g_n 4 nd)) (fun _ _ _ _ _ => ts_n) (fun _ _ _ _ _ => (d_btyp (c_tup rfl) B.tuple (d_ab (d_w 4) d_an)))) d_an)) d_an)))
    (b_cons (s_fld 3 0 2 C_Supply rfl (d_btyp (c_tup rfl) B.tuple (d_ab (d_bltn (c_srtA rfl hu) B.sorted (d_ab (d_w 3) d_an)) d_an)))
    (b_cons (s_drop (d_callXS h_check_supply hr (by decide) tk (d_ac (d_v 1) (d_ac (d_fld 3 1 C_Supply rfl (d_w 0)) (d_ac (d_fld 3 2 C_Supply rfl (d_w 0)) d_an))) (len_c (len_c (len_c len_n)))))
    (b_one (s_fld 3 0 3 C_Supply rfl (d_z (d_callF (h_moves_of.at hr (by decide)) (d_ac (d_fld 3 1 C_Supply rfl (d_w 0)) d_an) (len_c len_n)))))))))
  have hl0 : dvs.length = 1 := (hdd (fun _ => none)).length.symm
  obtain ⟨ds, hv, hb⟩ := F.binds0 (ps := ["self", "size", "steps", "starts"]) 3 (by intro h; have := congrArg List.length h; simp [hl0] at this) (by simp [hl0]) (match dvs, hl0 with | [_], _ => fun D doc pm an cdv ct us ks l1 l2 => match us, ks, l1, l2 with | [_, _, _], [_], _, _ => ⟨_, _, _, _, _, _, rfl, rfl, rfl⟩)
  exact ⟨C, f, fd, ["self", "size", "steps", "starts"], (["size", "steps", "starts", "moves"] : List Str), dvs, ds, hcl, mk, z, mgf, hb, (match dvs, hl0, hv with | [_], _, hv => hv), hdd⟩
theorem okk_Supply {C f : Addr} {fd : FuncData} {dvs : List V} (hdd : ∀ G, RDs ⟨K, cl⟩ G [.tup [.int 0]] dvs) (F : FunD K "__init__" "Supply.__init__" (defArgs st_Supply) (defBody st_Supply) (defScope st_Supply) [] ((["starts"] : List Str).zip dvs) f fd) (hcl : cl 3 = some (C, (["size", "steps", "starts", "moves"] : List Str))) (mk : Mk K C f) (mgf : mg "Supply" = some (.ref C)) (B : Bt mg) (C_Supply : ClsI K ⟨K, cl⟩ 3 (["size", "steps", "starts", "moves"] : List Str)) (h_check_supply : CalleeX P w K mg base ⟨K, cl⟩ 1 "check_supply" 3 false d_check_supply) (h_moves_of : Callee P w K mg base ⟨K, cl⟩ 1 "moves_of" 1 true d_moves_of) : MakerXK P w K mg base ⟨K, cl⟩ 2 "Supply" 3 2 ["starts"] d_Supply := by
  have nd : (["self", "size", "steps", "starts", "step"] : List Str).Nodup := sc_Supply.nd
  have z := init_okX (P := P) (w := w) (mg := mg) (base := base) (k := ⟨K, cl⟩) (ci := 3) (lv := 1) (as := [1000, 1000, 1000, 1000]) (s := m_Supply) F sc_Supply (by decide) fun cdv A outer sh H H0 G0 E hr tk => by
    have hu := hr.units
    have hu5 := hr.units5
    exact (b_cons (s_fld 3 0 0 C_Supply rfl (d_v 1))
    (b_cons (s_fld 3 0 1 C_Supply rfl (d_btyp (c_tup rfl) B.tuple (d_ab (d_bltn (c_srtA rfl hu) B.sorted (d_ab (d_lc [("step", 4)] rfl nd (i_seq rfl (d_v 2)) (blkOk_by (N := ["self", "size", "steps", "starts", "step"]) (sc := (defScope st_Supply)) (by decide +kernel)) (fun _ _ _ _ _ => (g_n 4 nd)) (fun _ _ _ _ _ => ts_n) (fun _ _ _ _ _ => (d_btyp (c_tup rfl) B.tuple (d_ab (d_w 4) d_an)))) d_an)) d_an)))
    (b_cons (s_fld 3 0 2 C_Supply rfl (d_btyp (c_tup rfl) B.tuple (d_ab (d_bltn (c_srtA rfl hu) B.sorted (d_ab (d_w 3) d_an)) d_an)))
    (b_cons (s_drop (d_callXS h_check_supply hr (by decide) tk (d_ac (d_v 1) (d_ac (d_fld 3 1 C_Supply rfl (d_w 0)) (d_ac (d_fld 3 2 C_Supply rfl (d_w 0)) d_an))) (len_c (len_c (len_c len_n)))))
    (b_one (s_fld 3 0 3 C_Supply rfl (d_z (d_callF (h_moves_of.at hr (by decide)) (d_ac (d_fld 3 1 C_Supply rfl (d_w 0)) d_an) (len_c len_n)))))))))
  have hl0 : dvs.length = 1 := (hdd (fun _ => none)).length.symm
  obtain ⟨mv, kb⟩ := F.kbinds0 (ps := ["self", "size", "steps", "starts"]) 3 ["starts"] [] (fun us _ ws => us ++ ws) (by intro h; have := congrArg List.length h; simp [hl0] at this) (fun q hq => nomatch hq) (fun r1 _ r3 => r1.append r3) (fun _ _ _ _ _ _ us mv ws l1 l2 l3 => match us, mv, ws, l1, l2, l3 with | [_, _, _], [], [_], _, _, _ => rfl)
  exact ⟨C, f, fd, ["self", "size", "steps", "starts"], (["size", "steps", "starts", "moves"] : List Str), _, hcl, mk, z, mgf, kb⟩
def m_Supply_always : FS :=
    (sRet (eCXL 0 3 [.tup [.int 0]] d_Supply (aC (eI (1)) (aC (eL (aC (eT (aC (eI (0)) (aC (eI (1)) (aC (eI (0)) aN)))) aN)) aN))))
def d_Supply_always : List D → R D := runF false 1 m_Supply_always
theorem sc_Supply_always : FnScope ["cls"] ["cls"] (defScope st_Supply_always) := ⟨rfl, rfl, rfl, by decide +kernel, rfl, by decide +kernel, by decide +kernel⟩
theorem ok_Supply_always {C p f : Addr} {mc : Value} {fd : FuncData} (F : FunD K "always" "Supply.always" (defArgs st_Supply_always) (defBody st_Supply_always) (defScope st_Supply_always) [] [] f fd) (hcl : cl 3 = some (C, (["size", "steps", "starts", "moves"] : List Str))) (cr : ClX.CRead K C mc) (cm : ClX.CMet K C mc "always" p f) (B : Bt mg) (m_Supply : MakerXD P w K mg base ⟨K, cl⟩ 2 "Supply" 3 2 [.tup [.int 0]] d_Supply) : CmethX P w K mg base ⟨K, cl⟩ 4 3 "always" 1 false d_Supply_always := by
  have nd : (["cls"] : List Str).Nodup := sc_Supply_always.nd
  have z := fn_okX (P := P) (w := w) (mg := mg) (base := base) (k := ⟨K, cl⟩) (fr := false) (lv := 3) (as := _) (s := m_Supply_always) F sc_Supply_always fun cdv A outer sh H G0 E hr tk => by
    have hu := hr.units
    have hu5 := hr.units5
    exact (b_one (s_ret (d_z (d_makerXL 0 m_Supply hr (by decide) tk (d_ac d_int (d_ac (d_z (d_lst (d_ac (d_tup (d_ac d_int (d_ac d_int (d_ac d_int d_an)))) d_an))) d_an)) (len_c (len_c len_n))))))
  exact ⟨C, p, f, mc, fd, ["cls"], (["size", "steps", "starts", "moves"] : List Str), rfl, hcl, cr, cm, z, F.bindsN fun _ _ _ _ _ _ us hl => match us, hl with | [_], _ => rfl⟩
def m_weight_of : FS :=
    (sSeq (sSet 2 (e1 (fldD 3 0) (eW 0)))
    (sSeq (sFor (fun S => (eV 1) S >>= itemsD) (gN 3) (sAugM 2 (e2 addD (eI (1)) (eC (f1 sumD) (aC (lcE (fun S => (aC (e1 (fldD 4 0) (eW 3)) aN) S >>= enumerateF) (gT 2 (gsC (gN 4) (gsC (gT 2 (gsC (gN 5) (gsC (gN 6) gsN))) gsN))) tY (e2 mulD (e2 addD (eM 4 d_Task_cap (eV 3) (aC (eV 4) aN)) (eI (1))) (e2 addD (eC (f1 lenD) (aC (eW 5) aN)) (eI (2)))) [4, 5, 6]) aN)))))
    (sRet (eV 2))))
def d_weight_of : List D → R D := fun ds => (runF false 7 m_weight_of ds).nox
theorem sc_weight_of : FnScope ["supply", "tasks", "weight", "task", "node", "plan", "due"] ["supply", "tasks"] (defScope st_weight_of) := ⟨rfl, rfl, rfl, by decide +kernel, rfl, by decide +kernel, by decide +kernel⟩
theorem ok_weight_of {f : Addr} {fd : FuncData} (F : FunD K "weight_of" "weight_of" (defArgs st_weight_of) (defBody st_weight_of) (defScope st_weight_of) [] [] f fd) (mgf : mg "weight_of" = some (.ref f)) (B : Bt mg) (C_Supply : ClsI K ⟨K, cl⟩ 3 (["size", "steps", "starts", "moves"] : List Str)) (C_Task : ClsI K ⟨K, cl⟩ 4 (["nodes", "edges", "steady", "caps"] : List Str)) (h_Task_cap : Method P w K mg base ⟨K, cl⟩ 1 4 "cap" 2 false d_Task_cap) : Callee P w K mg base ⟨K, cl⟩ 2 "weight_of" 2 false d_weight_of := by
  have nd : (["supply", "tasks", "weight", "task", "node", "plan", "due"] : List Str).Nodup := sc_weight_of.nd
  have z := fn_ok (P := P) (w := w) (mg := mg) (base := base) (k := ⟨K, cl⟩) (fr := false) (lv := 1) (as := [2, 3, 2]) (s := m_weight_of) F sc_weight_of fun cdv A outer sh H G0 hr => by
    have hu := hr.units
    have hu5 := hr.units5
    exact (b_cons (s_set 2 nd (d_fld 3 0 C_Supply rfl (d_w 0)))
    (b_cons (s_for PassesOwn.never rfl (i_seq rfl (d_v 1)) (g_n 3 nd) (b_one (s_augM 2 nd (d_op (o_add rfl) d_int (d_bltn (c_sum rfl) B.sum (d_ab (d_lc [("node", 4), ("plan", 5), ("due", 6)] rfl nd (i_enumerate rfl B.enumerate (d_ac (d_fld 4 0 C_Task rfl (d_w 3)) d_an)) (blkOk_by (N := ["supply", "tasks", "weight", "task", "node", "plan", "due"]) (sc := (defScope st_weight_of)) (by decide +kernel)) (fun _ _ _ _ _ => (g_t rfl rfl (gs_c (g_n 4 nd) (gs_c (g_t rfl rfl (gs_c (g_n 5 nd) (gs_c (g_n 6 nd) gs_n))) gs_n)))) (fun _ _ _ _ _ => ts_n) (fun _ _ _ _ _ => (d_op (o_mul rfl) (d_op (o_add rfl) (d_methS 4 h_Task_cap hr (by decide) (d_v 3) (d_ac (d_v 4) d_an) (len_c len_n)) d_int) (d_op (o_add rfl) (d_bltn (c_len rfl) B.len (d_ab (d_w 5) d_an)) d_int)))) d_an))))))
    (b_one (s_ret (d_v 2)))))
  exact ⟨f, fd, ["supply", "tasks"], rfl, z, mgf, F.kp, F.bindsN fun _ _ _ _ _ _ us hl => match us, hl with | [_, _], _ => rfl⟩
def m_Core : FS :=
    (sSeq (sIf (tO (tB' (e2 gtD (eC (f1 lenD) (aC (eW 5) aN)) (eG gv_MOST_TASKS))) (tO (tB' (e2 notInA (eW 3) (eG gv_DOORS))) (tB' (e2 notInA (eW 4) (eG gv_GUARDS))))) (sExc0 206) sNil)
    (sSeq (sFldN 6 0 0 (eV 1))
    (sSeq (sFldN 6 0 1 (eC (f1 tupD) (aC (eW 5) aN)))
    (sSeq (sFldN 6 0 2 (eIf (tB' (e2 isD (eW 2) eN)) (eCXZ [.str "first"] d_Choice) (eV 2)))
    (sSeq (sFldN 6 0 3 (eV 3))
    (sSeq (sFldN 6 0 4 (eV 4))
    (sSeq (sFldN 6 0 5 (eC d_weight_of (aC (eV 1) (aC (e1 (fldD 6 1) (eW 0)) aN))))
    (sSeq (sIf (tB' (e2 gtD (e1 (fldD 6 5) (eW 0)) (eG gv_MOST_WEIGHT))) (sExcI 212 1 (aC (eG gv_MOST_WEIGHT) aN)) sNil)
    (sSeq (sSet 6 (eLstRg (rg1 (eC (f1 lenD) (aC (eW 5) aN)))))
    (sFldN 6 0 6 (eC (f1 tupD) (aC (e2 addD (e2 addD (e2 addD (eL (aC (eS "choice") aN)) (lcE (fun S => (eV 6) S >>= itemsD) (gN 7) tY (eFs (fsC (eS "gaps") (fsC (eFmt (eV 7)) fsN))) [7])) (lcE (fun S => (eV 6) S >>= itemsD) (gN 7) tY (eFs (fsC (eS "needs") (fsC (eFmt (eV 7)) fsN))) [7])) (eL (aC (eS "supply") aN))) aN))))))))))))
def d_Core : List D → R D := runN 8 6 m_Core
theorem sc_Core : FnScope ["self", "supply", "choice", "door", "guard", "tasks", "numbers", "i"] ["self", "supply", "choice", "door", "guard", "tasks"] (defScope st_Core) := ⟨rfl, rfl, rfl, by decide +kernel, rfl, by decide +kernel, by decide +kernel⟩
theorem okS_Core_011 {C f : Addr} {fd : FuncData} {v0 v1 v2 : V} (hdd : ∀ G, RDs ⟨K, cl⟩ G [.non, .str "shut", .str "cut"] [v0, v1, v2]) (F : FunD K "__init__" "Core.__init__" (defArgs st_Core) (defBody st_Core) (defScope st_Core) [] [("choice", v0), ("door", v1), ("guard", v2)] f fd) (hcl : cl 6 = some (C, (["supply", "tasks", "choice", "door", "guard", "weight", "parties"] : List Str))) (mk : Mk K C f) (mgf : mg "Core" = some (.ref C)) (B : Bt mg) (g_MOST_TASKS : Gc mg ⟨K, cl⟩ "MOST_TASKS" gv_MOST_TASKS) (g_DOORS : Gc mg ⟨K, cl⟩ "DOORS" gv_DOORS) (g_GUARDS : Gc mg ⟨K, cl⟩ "GUARDS" gv_GUARDS) (R_InvalidCore : RaO K mg ⟨K, cl⟩ "InvalidCore" 206) (C_Core : ClsI K ⟨K, cl⟩ 6 (["supply", "tasks", "choice", "door", "guard", "weight", "parties"] : List Str)) (mZ_Choice : MakerXZ P w K mg base ⟨K, cl⟩ 1 "Choice" 5 [.str "first"] d_Choice) (h_weight_of : Callee P w K mg base ⟨K, cl⟩ 2 "weight_of" 2 false d_weight_of) (g_MOST_WEIGHT : Gc mg ⟨K, cl⟩ "MOST_WEIGHT" gv_MOST_WEIGHT) (R_TooLarge : RaI P K mg ⟨K, cl⟩ "TooLarge" 212 ["bound"]) : MakerXS P w K mg base ⟨K, cl⟩ 3 "Core" 6 1 [false, true, true] ["door", "guard"] [.non, .str "shut", .str "cut"] d_Core := by
  have nd : (["self", "supply", "choice", "door", "guard", "tasks", "numbers", "i"] : List Str).Nodup := sc_Core.nd
  obtain ⟨mv, rmv, sb⟩ := starB2 (ps := ["self", "supply", "choice", "door", "guard"]) (pv := "tasks") F 2 ["door", "guard"] [("choice", v0)] (fun us mv ws => us ++ M.mixK [false, true, true] mv ws) (by simp) (by simp) fun _ _ _ _ _ _ us rest mv ws l1 l2 l3 => match us, rest, mv, ws, l1, l2, l3 with | [_, _], [], [_], [_, _], _, _, _ => ⟨_, _, _, _, _, _, rfl, rfl, rfl⟩ | [_, _], _ :: _, [_], [_, _], _, _, _ => ⟨_, _, _, _, _, _, rfl, rfl, rfl⟩
  have sr : ∀ {vs : List V} {us : List Value} {zs : List V} {ws : List Value}, Vals vs us → Vals zs ws → Vals (vs ++ M.mergeK [false, true, true] [v0, v1, v2] zs) (us ++ M.mixK [false, true, true] mv ws) := fun r q => r.append (by rw [mergeK_mix [false, true, true] [v0, v1, v2] _ rfl]; exact Vals.mixK rmv q)
  have z := init_okS (P := P) (w := w) (mg := mg) (base := base) (k := ⟨K, cl⟩) (ci := 6) (lv := 2) (as := [1000, 1000, 1000, 1000, 1000, 1000, 6, 1000]) (s := m_Core) (N := ["self", "supply", "choice", "door", "guard", "tasks", "numbers", "i"]) (ps := ["self", "supply", "choice", "door", "guard"]) (pv := "tasks") F sc_Core (by decide) sb (gV := fun vs zs => vs ++ M.mergeK [false, true, true] [v0, v1, v2] zs) sr (by intro us ws l1 l2; have l3 := rmv.length; match us, mv, ws, l1, l2, l3 with | [_, _], [_], [_, _], _, _, _ => rfl) fun cdv A outer sh H H0 G0 E hr tk => by
    have hu := hr.units
    have hu5 := hr.units5
    exact (b_cons (as := []) (bs := [1000, 1000, 1000, 1000, 1000, 1000, 6, 1000]) (s_if (as := []) (bs := []) (d_pw (d_or (d_tc (o_gt) (d_bltn (c_len rfl) B.len (d_ab (d_w 5) d_an)) (d_g g_MOST_TASKS)) (d_or (d_tc (o_notinA rfl hu5) (d_w 3) (d_g g_DOORS)) (d_or1 (d_tc (o_notinA rfl hu5) (d_w 4) (d_g g_GUARDS)))))) (b_one (s_raise0 R_InvalidCore rfl tk)) b_nil)
    (b_cons (as := [1000]) (bs := [1000, 1000, 1000, 1000, 1000, 6, 1000]) (s_fld 6 0 0 C_Core rfl (d_v 1))
    (b_cons (as := [1000]) (bs := [1000, 1000, 1000, 1000, 6, 1000]) (s_fld 6 0 1 C_Core rfl (d_btyp (c_tup rfl) B.tuple (d_ab (d_w 5) d_an)))
    (b_cons (as := [1000]) (bs := [1000, 1000, 1000, 6, 1000]) (s_fld 6 0 2 C_Core rfl (d_ite (d_tc (o_is) (d_w 2) d_non) (d_z (d_makerXZ mZ_Choice hr (by decide) tk)) (d_v 2)))
    (b_cons (as := [1000]) (bs := [1000, 1000, 6, 1000]) (s_fld 6 0 3 C_Core rfl (d_v 3))
    (b_cons (as := [1000]) (bs := [1000, 6, 1000]) (s_fld 6 0 4 C_Core rfl (d_v 4))
    (b_cons (as := [1000]) (bs := [6, 1000]) (s_fld 6 0 5 C_Core rfl (d_callS (h_weight_of.at hr (by decide)) (d_ac (d_v 1) (d_ac (d_fld 6 1 C_Core rfl (d_w 0)) d_an)) (len_c (len_c len_n))))
    (b_cons (as := []) (bs := [6, 1000]) (s_if (as := []) (bs := []) (d_tc (o_gt) (d_fld 6 5 C_Core rfl (d_w 0)) (d_g g_MOST_WEIGHT)) (b_one (s_raiseI R_TooLarge rfl hr rfl tk (d_ac (d_g g_MOST_WEIGHT) d_an))) b_nil)
    (b_cons (as := [6]) (bs := [1000]) (s_set 6 nd (d_z (d_lstRg rfl B.list (d_rg1 B.range (d_bltn (c_len rfl) B.len (d_ab (d_w 5) d_an))))))
    (b_one (s_fld 6 0 6 C_Core rfl (d_btyp (c_tup rfl) B.tuple (d_ab (d_op (o_add rfl) (d_op (o_add rfl) (d_op (o_add rfl) (d_lst (d_ac d_str d_an)) (d_lc [("i", 7)] rfl nd (i_seq rfl (d_v 6)) (blkOk_by (N := ["self", "supply", "choice", "door", "guard", "tasks", "numbers", "i"]) (sc := (defScope st_Core)) (by decide +kernel)) (fun _ _ _ _ _ => (g_n 7 nd)) (fun _ _ _ _ _ => ts_n) (fun _ _ _ _ _ => (d_fs (fs_c d_str (fs_c (d_fmt (d_v 7)) fs_n)))))) (d_lc [("i", 7)] rfl nd (i_seq rfl (d_v 6)) (blkOk_by (N := ["self", "supply", "choice", "door", "guard", "tasks", "numbers", "i"]) (sc := (defScope st_Core)) (by decide +kernel)) (fun _ _ _ _ _ => (g_n 7 nd)) (fun _ _ _ _ _ => ts_n) (fun _ _ _ _ _ => (d_fs (fs_c d_str (fs_c (d_fmt (d_v 7)) fs_n)))))) (d_lst (d_ac d_str d_an))) d_an)))))))))))))
  exact ⟨C, f, (["supply", "tasks", "choice", "door", "guard", "weight", "parties"] : List Str), [v0, v1, v2], hcl, mk, mgf, hdd, rfl, rfl, z⟩
theorem okS_Core_000 {C f : Addr} {fd : FuncData} {v0 v1 v2 : V} (hdd : ∀ G, RDs ⟨K, cl⟩ G [.non, .str "shut", .str "cut"] [v0, v1, v2]) (F : FunD K "__init__" "Core.__init__" (defArgs st_Core) (defBody st_Core) (defScope st_Core) [] [("choice", v0), ("door", v1), ("guard", v2)] f fd) (hcl : cl 6 = some (C, (["supply", "tasks", "choice", "door", "guard", "weight", "parties"] : List Str))) (mk : Mk K C f) (mgf : mg "Core" = some (.ref C)) (B : Bt mg) (g_MOST_TASKS : Gc mg ⟨K, cl⟩ "MOST_TASKS" gv_MOST_TASKS) (g_DOORS : Gc mg ⟨K, cl⟩ "DOORS" gv_DOORS) (g_GUARDS : Gc mg ⟨K, cl⟩ "GUARDS" gv_GUARDS) (R_InvalidCore : RaO K mg ⟨K, cl⟩ "InvalidCore" 206) (C_Core : ClsI K ⟨K, cl⟩ 6 (["supply", "tasks", "choice", "door", "guard", "weight", "parties"] : List Str)) (mZ_Choice : MakerXZ P w K mg base ⟨K, cl⟩ 1 "Choice" 5 [.str "first"] d_Choice) (h_weight_of : Callee P w K mg base ⟨K, cl⟩ 2 "weight_of" 2 false d_weight_of) (g_MOST_WEIGHT : Gc mg ⟨K, cl⟩ "MOST_WEIGHT" gv_MOST_WEIGHT) (R_TooLarge : RaI P K mg ⟨K, cl⟩ "TooLarge" 212 ["bound"]) : MakerXS P w K mg base ⟨K, cl⟩ 3 "Core" 6 1 [false, false, false] [] [.non, .str "shut", .str "cut"] d_Core := by
  have nd : (["self", "supply", "choice", "door", "guard", "tasks", "numbers", "i"] : List Str).Nodup := sc_Core.nd
  obtain ⟨mv, rmv, sb⟩ := starB2 (ps := ["self", "supply", "choice", "door", "guard"]) (pv := "tasks") F 2 [] [("choice", v0), ("door", v1), ("guard", v2)] (fun us mv ws => us ++ M.mixK [false, false, false] mv ws) (by simp) (by simp) fun _ _ _ _ _ _ us rest mv ws l1 l2 l3 => match us, rest, mv, ws, l1, l2, l3 with | [_, _], [], [_, _, _], [], _, _, _ => ⟨_, _, _, _, _, _, rfl, rfl, ⟨_, _, _, _, _, _, rfl, rfl, ⟨_, _, _, _, _, _, rfl, rfl, rfl⟩⟩⟩ | [_, _], _ :: _, [_, _, _], [], _, _, _ => ⟨_, _, _, _, _, _, rfl, rfl, ⟨_, _, _, _, _, _, rfl, rfl, ⟨_, _, _, _, _, _, rfl, rfl, rfl⟩⟩⟩
  have sr : ∀ {vs : List V} {us : List Value} {zs : List V} {ws : List Value}, Vals vs us → Vals zs ws → Vals (vs ++ M.mergeK [false, false, false] [v0, v1, v2] zs) (us ++ M.mixK [false, false, false] mv ws) := fun r q => r.append (by rw [mergeK_mix [false, false, false] [v0, v1, v2] _ rfl]; exact Vals.mixK rmv q)
  have z := init_okS (P := P) (w := w) (mg := mg) (base := base) (k := ⟨K, cl⟩) (ci := 6) (lv := 2) (as := [1000, 1000, 1000, 1000, 1000, 1000, 6, 1000]) (s := m_Core) (N := ["self", "supply", "choice", "door", "guard", "tasks", "numbers", "i"]) (ps := ["self", "supply", "choice", "door", "guard"]) (pv := "tasks") F sc_Core (by decide) sb (gV := fun vs zs => vs ++ M.mergeK [false, false, false] [v0, v1, v2] zs) sr (by intro us ws l1 l2; have l3 := rmv.length; match us, mv, ws, l1, l2, l3 with | [_, _], [_, _, _], [], _, _, _ => rfl) fun cdv A outer sh H H0 G0 E hr tk => by
    have hu := hr.units
    have hu5 := hr.units5
    exact (b_cons (as := []) (bs := [1000, 1000, 1000, 1000, 1000, 1000, 6, 1000]) (s_if (as := []) (bs := []) (d_pw (d_or (d_tc (o_gt) (d_bltn (c_len rfl) B.len (d_ab (d_w 5) d_an)) (d_g g_MOST_TASKS)) (d_or (d_tc (o_notinA rfl hu5) (d_w 3) (d_g g_DOORS)) (d_or1 (d_tc (o_notinA rfl hu5) (d_w 4) (d_g g_GUARDS)))))) (b_one (s_raise0 R_InvalidCore rfl tk)) b_nil)
    (b_cons (as := [1000]) (bs := [1000, 1000, 1000, 1000, 1000, 6, 1000]) (s_fld 6 0 0 C_Core rfl (d_v 1))
    (b_cons (as := [1000]) (bs := [1000, 1000, 1000, 1000, 6, 1000]) (s_fld 6 0 1 C_Core rfl (d_btyp (c_tup rfl) B.tuple (d_ab (d_w 5) d_an)))
    (b_cons (as := [1000]) (bs := [1000, 1000, 1000, 6, 1000]) (s_fld 6 0 2 C_Core rfl (d_ite (d_tc (o_is) (d_w 2) d_non) (d_z (d_makerXZ mZ_Choice hr (by decide) tk)) (d_v 2)))
    (b_cons (as := [1000]) (bs := [1000, 1000, 6, 1000]) (s_fld 6 0 3 C_Core rfl (d_v 3))
    (b_cons (as := [1000]) (bs := [1000, 6, 1000]) (s_fld 6 0 4 C_Core rfl (d_v 4))
    (b_cons (as := [1000]) (bs := [6, 1000]) (s_fld 6 0 5 C_Core rfl (d_callS (h_weight_of.at hr (by decide)) (d_ac (d_v 1) (d_ac (d_fld 6 1 C_Core rfl (d_w 0)) d_an)) (len_c (len_c len_n))))
    (b_cons (as := []) (bs := [6, 1000]) (s_if (as := []) (bs := []) (d_tc (o_gt) (d_fld 6 5 C_Core rfl (d_w 0)) (d_g g_MOST_WEIGHT)) (b_one (s_raiseI R_TooLarge rfl hr rfl tk (d_ac (d_g g_MOST_WEIGHT) d_an))) b_nil)
    (b_cons (as := [6]) (bs := [1000]) (s_set 6 nd (d_z (d_lstRg rfl B.list (d_rg1 B.range (d_bltn (c_len rfl) B.len (d_ab (d_w 5) d_an))))))
    (b_one (s_fld 6 0 6 C_Core rfl (d_btyp (c_tup rfl) B.tuple (d_ab (d_op (o_add rfl) (d_op (o_add rfl) (d_op (o_add rfl) (d_lst (d_ac d_str d_an)) (d_lc [("i", 7)] rfl nd (i_seq rfl (d_v 6)) (blkOk_by (N := ["self", "supply", "choice", "door", "guard", "tasks", "numbers", "i"]) (sc := (defScope st_Core)) (by decide +kernel)) (fun _ _ _ _ _ => (g_n 7 nd)) (fun _ _ _ _ _ => ts_n) (fun _ _ _ _ _ => (d_fs (fs_c d_str (fs_c (d_fmt (d_v 7)) fs_n)))))) (d_lc [("i", 7)] rfl nd (i_seq rfl (d_v 6)) (blkOk_by (N := ["self", "supply", "choice", "door", "guard", "tasks", "numbers", "i"]) (sc := (defScope st_Core)) (by decide +kernel)) (fun _ _ _ _ _ => (g_n 7 nd)) (fun _ _ _ _ _ => ts_n) (fun _ _ _ _ _ => (d_fs (fs_c d_str (fs_c (d_fmt (d_v 7)) fs_n)))))) (d_lst (d_ac d_str d_an))) d_an)))))))))))))
  exact ⟨C, f, (["supply", "tasks", "choice", "door", "guard", "weight", "parties"] : List Str), [v0, v1, v2], hcl, mk, mgf, hdd, rfl, rfl, z⟩
def m__law_cell : FS :=
    (sSeq (sIf (tB' (e2 ltD (eW 1) (eC (f1 lenD) (aC (eW 0) aN)))) (sRet (e2 ixA (eW 0) (eW 1))) sNil)
    (sRet (eI (0))))
def d__law_cell : List D → R D := fun ds => (runF false 2 m__law_cell ds).nox
theorem sc__law_cell : FnScope ["_law_script", "_law_at"] ["_law_script", "_law_at"] (defScope st__law_cell) := ⟨rfl, rfl, rfl, by decide +kernel, rfl, by decide +kernel, by decide +kernel⟩
theorem ok__law_cell {f : Addr} {fd : FuncData} (F : FunD K "_law_cell" "_law_cell" (defArgs st__law_cell) (defBody st__law_cell) (defScope st__law_cell) [] [] f fd) (mgf : mg "_law_cell" = some (.ref f)) (B : Bt mg)  : Callee P w K mg base ⟨K, cl⟩ 1 "_law_cell" 2 false d__law_cell := by
  have nd : (["_law_script", "_law_at"] : List Str).Nodup := sc__law_cell.nd
  have z := fn_ok (P := P) (w := w) (mg := mg) (base := base) (k := ⟨K, cl⟩) (fr := false) (lv := 0) (as := []) (s := m__law_cell) F sc__law_cell fun cdv A outer sh H G0 hr => by
    have hu := hr.units
    have hu5 := hr.units5
    exact (b_cons (s_if (d_tc (o_lt) (d_w 1) (d_bltn (c_len rfl) B.len (d_ab (d_w 0) d_an))) (b_one (s_ret (d_ix (o_ixA rfl hu5) (d_w 0) (d_w 1)))) b_nil)
    (b_one (s_ret d_int)))
  exact ⟨f, fd, ["_law_script", "_law_at"], rfl, z, mgf, F.kp, F.bindsN fun _ _ _ _ _ _ us hl => match us, hl with | [_, _], _ => rfl⟩
def m__law_draws : FS :=
    (sSeq (sSet 3 (eC (f1 absD) (aC (eC d__law_cell (aC (eV 0) (aC (eV 1) aN))) aN)))
    (sSeq (sSet 4 (eI (0)))
    (sSeq (sIf (tB' (e2 geD (eW 3) (e2 powD (eI (10)) (eI (18))))) (sSet 4 (e2 subD (eW 3) (e2 powD (eI (10)) (eI (18))))) sNil)
    (sSeq (sOwn 5 (eL aN))
    (sSeq (sFor (fun S => (aC (eW 2) aN) S >>= rng1) (gN 6) (sIf (tB' (e2 gtD (eW 4) (eI (0)))) (sSeq (sApp 5 (e2 modD (eC (f1 intD) (aC (eW 4) aN)) (eI (60))))
    (sSet 4 (e2 fdivD (eW 4) (eI (60))))) (sSeq (sSet 7 (e2 modD (eC (f1 intD) (aC (e2 addD (e2 addD (e2 addD (e2 mulD (eW 3) (eI (48271))) (e2 mulD (eW 6) (eI (69621)))) (e2 mulD (eW 1) (eI (7919)))) (eI (12345))) aN)) (eI (99991))))
    (sSeq (sSet 7 (e2 modD (eC (f1 intD) (aC (e2 addD (e2 mulD (eW 7) (eW 7)) (e2 mulD (eW 6) (eI (101)))) aN)) (eI (999983))))
    (sSeq (sSet 7 (e2 modD (eC (f1 intD) (aC (e2 addD (e2 mulD (eW 7) (eW 7)) (e2 fdivD (eW 7) (eI (127)))) aN)) (eI (9999991))))
    (sApp 5 (e2 modD (eC (f1 intD) (aC (e2 fdivD (eW 7) (eI (11))) aN)) (eI (60)))))))))
    (sRetO 5))))))
def d__law_draws : List D → R D := fun ds => (runF true 8 m__law_draws ds).nox
theorem sc__law_draws : FnScope ["_law_script", "_law_at", "_law_count", "_law_cell_here", "_law_rest", "_law_found", "_law_k", "_law_mixed"] ["_law_script", "_law_at", "_law_count"] (defScope st__law_draws) := ⟨rfl, rfl, rfl, by decide +kernel, rfl, by decide +kernel, by decide +kernel⟩
theorem ok__law_draws {f : Addr} {fd : FuncData} (F : FunD K "_law_draws" "_law_draws" (defArgs st__law_draws) (defBody st__law_draws) (defScope st__law_draws) [] [] f fd) (mgf : mg "_law_draws" = some (.ref f)) (B : Bt mg) (h__law_cell : Callee P w K mg base ⟨K, cl⟩ 1 "_law_cell" 2 false d__law_cell) : Callee P w K mg base ⟨K, cl⟩ 2 "_law_draws" 3 true d__law_draws := by
  have nd : (["_law_script", "_law_at", "_law_count", "_law_cell_here", "_law_rest", "_law_found", "_law_k", "_law_mixed"] : List Str).Nodup := sc__law_draws.nd
  have z := fn_ok (P := P) (w := w) (mg := mg) (base := base) (k := ⟨K, cl⟩) (fr := true) (lv := 1) (as := [3, 4, 4, 5, 6, 1005, 4, 7, 7, 7, 1005]) (s := m__law_draws) F sc__law_draws fun cdv A outer sh H G0 hr => by
    have hu := hr.units
    have hu5 := hr.units5
    exact (b_cons (s_set 3 nd (d_bltn (c_abs) B.abs (d_ab (d_callS (h__law_cell.at hr (by decide)) (d_ac (d_v 0) (d_ac (d_v 1) d_an)) (len_c (len_c len_n))) d_an)))
    (b_cons (s_set 4 nd d_int)
    (b_cons (s_if (d_tc (o_ge) (d_w 3) (d_op (o_pow) d_int d_int)) (b_one (s_set 4 nd (d_op (o_sub) (d_w 3) (d_op (o_pow) d_int d_int)))) b_nil)
    (b_cons (s_own 5 nd (d_lst d_an))
    (b_cons (s_for PassesOwn.never rfl (i_rng1 B.range (d_ab (d_w 2) d_an)) (g_n 6 nd) (b_one (s_if (d_tc (o_gt) (d_w 4) d_int) (b_cons (s_app 5 (d_op (o_mod) (d_btyp (c_int) B.int (d_ab (d_w 4) d_an)) d_int))
    (b_one (s_set 4 nd (d_op (o_fdiv) (d_w 4) d_int)))) (b_cons (s_set 7 nd (d_op (o_mod) (d_btyp (c_int) B.int (d_ab (d_op (o_add rfl) (d_op (o_add rfl) (d_op (o_add rfl) (d_op (o_mul rfl) (d_w 3) d_int) (d_op (o_mul rfl) (d_w 6) d_int)) (d_op (o_mul rfl) (d_w 1) d_int)) d_int) d_an)) d_int))
    (b_cons (s_set 7 nd (d_op (o_mod) (d_btyp (c_int) B.int (d_ab (d_op (o_add rfl) (d_op (o_mul rfl) (d_w 7) (d_w 7)) (d_op (o_mul rfl) (d_w 6) d_int)) d_an)) d_int))
    (b_cons (s_set 7 nd (d_op (o_mod) (d_btyp (c_int) B.int (d_ab (d_op (o_add rfl) (d_op (o_mul rfl) (d_w 7) (d_w 7)) (d_op (o_fdiv) (d_w 7) d_int)) d_an)) d_int))
    (b_one (s_app 5 (d_op (o_mod) (d_btyp (c_int) B.int (d_ab (d_op (o_fdiv) (d_w 7) d_int) d_an)) d_int)))))))))
    (b_one (s_retO 5)))))))
  exact ⟨f, fd, ["_law_script", "_law_at", "_law_count"], rfl, z, mgf, F.kp, F.bindsN fun _ _ _ _ _ _ us hl => match us, hl with | [_, _, _], _ => rfl⟩
def m__law_kind : Exc → FS := fun y =>
    (sSeq (sSet 1 (eL (aC (eC (f2 (isXD xtab y)) (aC (eW 0) (aC (eG (.cls 204)) aN))) (aC (eC (f2 (isXD xtab y)) (aC (eW 0) (aC (eG (.cls 205)) aN))) (aC (eC (f2 (isXD xtab y)) (aC (eW 0) (aC (eG (.cls 206)) aN))) (aC (eC (f2 (isXD xtab y)) (aC (eW 0) (aC (eG (.cls 212)) aN))) (aC (eC (f2 (isXD xtab y)) (aC (eW 0) (aC (eG (.cls 202)) aN))) aN)))))))
    (sRet (e2 addD (eW 1) (eL (aC (eAnd (eC (f2 (isXD xtab y)) (aC (eW 0) (aC (eG (.cls 200)) aN))) (eC (f2 (isXD xtab y)) (aC (eW 0) (aC (eY "ValueError") aN)))) aN)))))
def d__law_kind : Exc → List D → R D := fun y ds => (runF false 2 (m__law_kind y) ds).nox
theorem sc__law_kind : FnScope ["_law_e", "_law_kinds"] ["_law_e"] (defScope st__law_kind) := ⟨rfl, rfl, rfl, by decide +kernel, rfl, by decide +kernel, by decide +kernel⟩
theorem okE__law_kind {f : Addr} {fd : FuncData} (F : FunD K "_law_kind" "_law_kind" (defArgs st__law_kind) (defBody st__law_kind) (defScope st__law_kind) [] [] f fd) (mgf : mg "_law_kind" = some (.ref f)) (B : Bt mg) (h0 : cl xix = none) (hXT : ∀ ci t b, xtab ci t = some b → IsT K ⟨K, cl⟩ ci t b) (g_InvalidTask : Gc mg ⟨K, cl⟩ "InvalidTask" (.cls 204)) (g_InvalidChoice : Gc mg ⟨K, cl⟩ "InvalidChoice" (.cls 205)) (g_InvalidCore : Gc mg ⟨K, cl⟩ "InvalidCore" (.cls 206)) (g_TooLarge : Gc mg ⟨K, cl⟩ "TooLarge" (.cls 212)) (g_InvalidSupply : Gc mg ⟨K, cl⟩ "InvalidSupply" (.cls 202)) (g_BreachError : Gc mg ⟨K, cl⟩ "BreachError" (.cls 200)) : CalleeE P w K mg base ⟨K, cl⟩ 1 "_law_kind" 1 d__law_kind := by
  have nd : (["_law_e", "_law_kinds"] : List Str).Nodup := sc__law_kind.nd
  have z := fn_okE (P := P) (w := w) (mg := mg) (base := base) (k := ⟨K, cl⟩) (lv := 0) (as := [1]) (s := m__law_kind) F sc__law_kind fun cdv A outer sh H G0 p y hr he => by
    have hh := he.held
    have ho := he.hot
    have hu := unitsH hr
    have hu5 := units5H hr
    exact (b_cons (s_set 1 nd (d_z (d_lst (d_ac (d_isX hh rfl hXT B.isinstance (d_ab (d_w 0) (d_ab (d_g (Gc.up h0 g_InvalidTask)) d_an))) (d_ac (d_isX hh rfl hXT B.isinstance (d_ab (d_w 0) (d_ab (d_g (Gc.up h0 g_InvalidChoice)) d_an))) (d_ac (d_isX hh rfl hXT B.isinstance (d_ab (d_w 0) (d_ab (d_g (Gc.up h0 g_InvalidCore)) d_an))) (d_ac (d_isX hh rfl hXT B.isinstance (d_ab (d_w 0) (d_ab (d_g (Gc.up h0 g_TooLarge)) d_an))) (d_ac (d_isX hh rfl hXT B.isinstance (d_ab (d_w 0) (d_ab (d_g (Gc.up h0 g_InvalidSupply)) d_an))) d_an))))))))
    (b_one (s_ret (d_op (o_add rfl) (d_w 1) (d_lst (d_ac (d_vand (d_isX hh rfl hXT B.isinstance (d_ab (d_w 0) (d_ab (d_g (Gc.up h0 g_BreachError)) d_an))) (d_vone (d_isX hh rfl hXT B.isinstance (d_ab (d_w 0) (d_ab (d_ty "ValueError" B.ValueError) d_an))))) d_an))))))
  exact ⟨f, fd, ["_law_e"], rfl, z, mgf, F.kp, F.bindsN fun _ _ _ _ _ _ us hl => match us, hl with | [_], _ => rfl⟩
def m__law_task_refused : FS :=
    (sSeq (sTryAs mt_BreachError 3 (sDrop (eCXK d_Task (aC (eV 0) (aC (eV 1) aN)) (aC (eV 2) aN))) fun y => (sRet (e2 eqD (eCHE y d__law_kind (aC (eV 3) aN)) (eL (aC (eB true) (aC (eB false) (aC (eB false) (aC (eB false) (aC (eB false) (aC (eB true) aN))))))))))
    (sRet (eB false)))
def d__law_task_refused : List D → R D := fun ds => (runF false 4 m__law_task_refused ds).nox
theorem sc__law_task_refused : FnScope ["_law_nodes", "_law_edges", "_law_steady", "_law_e"] ["_law_nodes", "_law_edges", "_law_steady"] (defScope st__law_task_refused) := ⟨rfl, rfl, rfl, by decide +kernel, rfl, by decide +kernel, by decide +kernel⟩
theorem ok__law_task_refused {f : Addr} {fd : FuncData} (F : FunD K "_law_task_refused" "_law_task_refused" (defArgs st__law_task_refused) (defBody st__law_task_refused) (defScope st__law_task_refused) [] [] f fd) (mgf : mg "_law_task_refused" = some (.ref f)) (B : Bt mg) (Y_BreachError : TryC K mg ⟨K, cl⟩ "BreachError" mt_BreachError) (h0 : cl xix = none) (mx_Task : MakerXK P w K mg base ⟨K, cl⟩ 2 "Task" 4 2 ["steady"] d_Task) (hE__law_kind : CalleeE P w K mg base ⟨K, cl⟩ 1 "_law_kind" 1 d__law_kind) : Callee P w K mg base ⟨K, cl⟩ 4 "_law_task_refused" 3 false d__law_task_refused := by
  have nd : (["_law_nodes", "_law_edges", "_law_steady", "_law_e"] : List Str).Nodup := sc__law_task_refused.nd
  have z := fn_ok (P := P) (w := w) (mg := mg) (base := base) (k := ⟨K, cl⟩) (fr := false) (lv := 3) (as := []) (s := m__law_task_refused) F sc__law_task_refused fun cdv A outer sh H G0 hr => by
    have hu := hr.units
    have hu5 := hr.units5
    exact (b_cons (s_tryE Y_BreachError nd takes0 h0 (fun W pn xe H0 G0 tkW pa => (b1_one (s1_drop (d_makerXK (ks := ["steady"]) mx_Task hr (by decide) tkW (d_ac (d_v 0) (d_ac (d_v 1) d_an)) (len_c (len_c len_n)) (d_kc (d_v 2) d_kn) (len_c len_n))))) (fun a oe cls d pn H0 G0 y hh he ho => (b_one (s_ret (d_cmp (o_eq rfl (by exact hu)) (d_callE hE__law_kind (roomS hr) (by decide) he (d_ac (d_v 3) d_an) (len_c len_n)) (d_lst (d_ac d_bl (d_ac d_bl (d_ac d_bl (d_ac d_bl (d_ac d_bl (d_ac d_bl d_an))))))))))))
    (b_one (s_ret d_bl)))
  exact ⟨f, fd, ["_law_nodes", "_law_edges", "_law_steady"], rfl, z, mgf, F.kp, F.bindsN fun _ _ _ _ _ _ us hl => match us, hl with | [_, _, _], _ => rfl⟩
def m__law_choice_refused : FS :=
    (sSeq (sTryAs mt_BreachError 3 (sIf (tB' (e2 eqD (eW 2) (eS ""))) (sDrop (eCXS 1 [] [] d_Choice (aC (eV 0) (aC (eV 1) aN)) aN)) (sDrop (eCXS 1 [] [] d_Choice (aC (eV 0) (aC (eV 1) (aC (eV 2) aN))) aN))) fun y => (sRet (e2 eqD (eCHE y d__law_kind (aC (eV 3) aN)) (eL (aC (eB false) (aC (eB true) (aC (eB false) (aC (eB false) (aC (eB false) (aC (eB true) aN))))))))))
    (sRet (eB false)))
def d__law_choice_refused : List D → R D := fun ds => (runF false 4 m__law_choice_refused ds).nox
theorem sc__law_choice_refused : FnScope ["_law_order", "_law_one", "_law_two", "_law_e"] ["_law_order", "_law_one", "_law_two"] (defScope st__law_choice_refused) := ⟨rfl, rfl, rfl, by decide +kernel, rfl, by decide +kernel, by decide +kernel⟩
theorem ok__law_choice_refused {f : Addr} {fd : FuncData} (F : FunD K "_law_choice_refused" "_law_choice_refused" (defArgs st__law_choice_refused) (defBody st__law_choice_refused) (defScope st__law_choice_refused) [] [] f fd) (mgf : mg "_law_choice_refused" = some (.ref f)) (B : Bt mg) (Y_BreachError : TryC K mg ⟨K, cl⟩ "BreachError" mt_BreachError) (h0 : cl xix = none) (mS_Choice_ : MakerXS P w K mg base ⟨K, cl⟩ 1 "Choice" 5 1 [] [] [] d_Choice) (hE__law_kind : CalleeE P w K mg base ⟨K, cl⟩ 1 "_law_kind" 1 d__law_kind) : Callee P w K mg base ⟨K, cl⟩ 3 "_law_choice_refused" 3 false d__law_choice_refused := by
  have nd : (["_law_order", "_law_one", "_law_two", "_law_e"] : List Str).Nodup := sc__law_choice_refused.nd
  have z := fn_ok (P := P) (w := w) (mg := mg) (base := base) (k := ⟨K, cl⟩) (fr := false) (lv := 2) (as := []) (s := m__law_choice_refused) F sc__law_choice_refused fun cdv A outer sh H G0 hr => by
    have hu := hr.units
    have hu5 := hr.units5
    exact (b_cons (s_tryE Y_BreachError nd takes0 h0 (fun W pn xe H0 G0 tkW pa => (b1_one (s1_if (d_tc (o_eq rfl hu) (d_w 2) d_str) (b1_one (s1_drop (d_makerXS (ks := []) mS_Choice_ hr (by decide) tkW (d_ac (d_v 0) (d_ac (d_v 1) d_an)) d_kn len_n))) (b1_one (s1_drop (d_makerXS (ks := []) mS_Choice_ hr (by decide) tkW (d_ac (d_v 0) (d_ac (d_v 1) (d_ac (d_v 2) d_an))) d_kn len_n)))))) (fun a oe cls d pn H0 G0 y hh he ho => (b_one (s_ret (d_cmp (o_eq rfl (by exact hu)) (d_callE hE__law_kind (roomS hr) (by decide) he (d_ac (d_v 3) d_an) (len_c len_n)) (d_lst (d_ac d_bl (d_ac d_bl (d_ac d_bl (d_ac d_bl (d_ac d_bl (d_ac d_bl d_an))))))))))))
    (b_one (s_ret d_bl)))
  exact ⟨f, fd, ["_law_order", "_law_one", "_law_two"], rfl, z, mgf, F.kp, F.bindsN fun _ _ _ _ _ _ us hl => match us, hl with | [_, _, _], _ => rfl⟩
def m__law_core_refused : FS :=
    (sSeq (sTryAs mt_BreachError 5 (sIf (tB' (e2 eqD (eW 2) (eI (4)))) (sDrop (eCXS 1 [false, true, true] [.non, .str "shut", .str "cut"] d_Core (aC (eV 0) (aC (eV 1) (aC (eV 1) (aC (eV 1) (aC (eV 1) aN))))) (aC (eV 3) (aC (eV 4) aN)))) (sDrop (eCXS 1 [false, true, true] [.non, .str "shut", .str "cut"] d_Core (aC (eV 0) (aC (eV 1) aN)) (aC (eV 3) (aC (eV 4) aN))))) fun y => (sRet (e2 eqD (eCHE y d__law_kind (aC (eV 5) aN)) (eL (aC (eB false) (aC (eB false) (aC (eB true) (aC (eB false) (aC (eB false) (aC (eB true) aN))))))))))
    (sRet (eB false)))
def d__law_core_refused : List D → R D := fun ds => (runF false 6 m__law_core_refused ds).nox
theorem sc__law_core_refused : FnScope ["_law_supply", "_law_task", "_law_count", "_law_door", "_law_guard", "_law_e"] ["_law_supply", "_law_task", "_law_count", "_law_door", "_law_guard"] (defScope st__law_core_refused) := ⟨rfl, rfl, rfl, by decide +kernel, rfl, by decide +kernel, by decide +kernel⟩
theorem ok__law_core_refused {f : Addr} {fd : FuncData} (F : FunD K "_law_core_refused" "_law_core_refused" (defArgs st__law_core_refused) (defBody st__law_core_refused) (defScope st__law_core_refused) [] [] f fd) (mgf : mg "_law_core_refused" = some (.ref f)) (B : Bt mg) (Y_BreachError : TryC K mg ⟨K, cl⟩ "BreachError" mt_BreachError) (h0 : cl xix = none) (mS_Core_011 : MakerXS P w K mg base ⟨K, cl⟩ 3 "Core" 6 1 [false, true, true] ["door", "guard"] [.non, .str "shut", .str "cut"] d_Core) (hE__law_kind : CalleeE P w K mg base ⟨K, cl⟩ 1 "_law_kind" 1 d__law_kind) : Callee P w K mg base ⟨K, cl⟩ 5 "_law_core_refused" 5 false d__law_core_refused := by
  have nd : (["_law_supply", "_law_task", "_law_count", "_law_door", "_law_guard", "_law_e"] : List Str).Nodup := sc__law_core_refused.nd
  have z := fn_ok (P := P) (w := w) (mg := mg) (base := base) (k := ⟨K, cl⟩) (fr := false) (lv := 4) (as := []) (s := m__law_core_refused) F sc__law_core_refused fun cdv A outer sh H G0 hr => by
    have hu := hr.units
    have hu5 := hr.units5
    exact (b_cons (s_tryE Y_BreachError nd takes0 h0 (fun W pn xe H0 G0 tkW pa => (b1_one (s1_if (d_tc (o_eq rfl hu) (d_w 2) d_int) (b1_one (s1_drop (d_makerXS (ks := ["door", "guard"]) mS_Core_011 hr (by decide) tkW (d_ac (d_v 0) (d_ac (d_v 1) (d_ac (d_v 1) (d_ac (d_v 1) (d_ac (d_v 1) d_an))))) (d_kc (d_v 3) (d_kc (d_v 4) d_kn)) (len_c (len_c len_n))))) (b1_one (s1_drop (d_makerXS (ks := ["door", "guard"]) mS_Core_011 hr (by decide) tkW (d_ac (d_v 0) (d_ac (d_v 1) d_an)) (d_kc (d_v 3) (d_kc (d_v 4) d_kn)) (len_c (len_c len_n)))))))) (fun a oe cls d pn H0 G0 y hh he ho => (b_one (s_ret (d_cmp (o_eq rfl (by exact hu)) (d_callE hE__law_kind (roomS hr) (by decide) he (d_ac (d_v 5) d_an) (len_c len_n)) (d_lst (d_ac d_bl (d_ac d_bl (d_ac d_bl (d_ac d_bl (d_ac d_bl (d_ac d_bl d_an))))))))))))
    (b_one (s_ret d_bl)))
  exact ⟨f, fd, ["_law_supply", "_law_task", "_law_count", "_law_door", "_law_guard"], rfl, z, mgf, F.kp, F.bindsN fun _ _ _ _ _ _ us hl => match us, hl with | [_, _, _, _, _], _ => rfl⟩
def m__law_too_large : FS :=
    (sSeq (sTryAs mt_TooLarge 2 (sDrop (eCXS 1 [false, false, false] [.non, .str "shut", .str "cut"] d_Core (aC (eV 0) (aC (eV 1) (aC (eV 1) (aC (eV 1) aN)))) aN)) fun y => (sRet (eAnd (e2 eqD (eCHE y d__law_kind (aC (eV 2) aN)) (eL (aC (eB false) (aC (eB false) (aC (eB false) (aC (eB true) (aC (eB false) (aC (eB true) aN)))))))) (e2 eqD (eXf y 212 0 (eW 2)) (eI (100000))))))
    (sRet (eB false)))
def d__law_too_large : List D → R D := fun ds => (runF false 3 m__law_too_large ds).nox
theorem sc__law_too_large : FnScope ["_law_supply", "_law_task", "_law_e"] ["_law_supply", "_law_task"] (defScope st__law_too_large) := ⟨rfl, rfl, rfl, by decide +kernel, rfl, by decide +kernel, by decide +kernel⟩
theorem ok__law_too_large {f : Addr} {fd : FuncData} (F : FunD K "_law_too_large" "_law_too_large" (defArgs st__law_too_large) (defBody st__law_too_large) (defScope st__law_too_large) [] [] f fd) (mgf : mg "_law_too_large" = some (.ref f)) (B : Bt mg) (Y_TooLarge : TryC K mg ⟨K, cl⟩ "TooLarge" mt_TooLarge) (h0 : cl xix = none) (mS_Core_000 : MakerXS P w K mg base ⟨K, cl⟩ 3 "Core" 6 1 [false, false, false] [] [.non, .str "shut", .str "cut"] d_Core) (hE__law_kind : CalleeE P w K mg base ⟨K, cl⟩ 1 "_law_kind" 1 d__law_kind) (F_TooLarge_bound : XfT K ⟨K, cl⟩ 212 "bound" 0) : Callee P w K mg base ⟨K, cl⟩ 5 "_law_too_large" 2 false d__law_too_large := by
  have nd : (["_law_supply", "_law_task", "_law_e"] : List Str).Nodup := sc__law_too_large.nd
  have z := fn_ok (P := P) (w := w) (mg := mg) (base := base) (k := ⟨K, cl⟩) (fr := false) (lv := 4) (as := []) (s := m__law_too_large) F sc__law_too_large fun cdv A outer sh H G0 hr => by
    have hu := hr.units
    have hu5 := hr.units5
    exact (b_cons (s_tryE Y_TooLarge nd takes0 h0 (fun W pn xe H0 G0 tkW pa => (b1_one (s1_drop (d_makerXS (ks := []) mS_Core_000 hr (by decide) tkW (d_ac (d_v 0) (d_ac (d_v 1) (d_ac (d_v 1) (d_ac (d_v 1) d_an)))) d_kn len_n)))) (fun a oe cls d pn H0 G0 y hh he ho => (b_one (s_ret (d_vand (d_cmp (o_eq rfl (by exact hu)) (d_callE hE__law_kind (roomS hr) (by decide) he (d_ac (d_v 2) d_an) (len_c len_n)) (d_lst (d_ac d_bl (d_ac d_bl (d_ac d_bl (d_ac d_bl (d_ac d_bl (d_ac d_bl d_an)))))))) (d_vone (d_cmp (o_eq rfl (by exact hu)) (d_xf hh F_TooLarge_bound h0 (d_w 2)) d_int)))))))
    (b_one (s_ret d_bl)))
  exact ⟨f, fd, ["_law_supply", "_law_task"], rfl, z, mgf, F.kp, F.bindsN fun _ _ _ _ _ _ us hl => match us, hl with | [_, _], _ => rfl⟩
def m__law_long : FS :=
    (sRet (eCXD [.tup [.int 0]] d_Supply (aC (eV 0) (aC (lcE (fun S => (aC (eW 0) aN) S >>= rng1) (gN 1) tY (eT (aC (eV 1) (aC (eI (1)) (aC (e2 fdivD (eW 1) (eI (2))) aN)))) [1]) aN))))
def d__law_long : List D → R D := fun ds => (runF false 2 m__law_long ds).nox
theorem sc__law_long : FnScope ["_law_size", "_law_state"] ["_law_size"] (defScope st__law_long) := ⟨rfl, rfl, rfl, by decide +kernel, rfl, by decide +kernel, by decide +kernel⟩
theorem ok__law_long {f : Addr} {fd : FuncData} (F : FunD K "_law_long" "_law_long" (defArgs st__law_long) (defBody st__law_long) (defScope st__law_long) [] [] f fd) (mgf : mg "_law_long" = some (.ref f)) (B : Bt mg) (m_Supply : MakerXD P w K mg base ⟨K, cl⟩ 2 "Supply" 3 2 [.tup [.int 0]] d_Supply) : Callee P w K mg base ⟨K, cl⟩ 4 "_law_long" 1 false d__law_long := by
  have nd : (["_law_size", "_law_state"] : List Str).Nodup := sc__law_long.nd
  have z := fn_ok (P := P) (w := w) (mg := mg) (base := base) (k := ⟨K, cl⟩) (fr := false) (lv := 3) (as := []) (s := m__law_long) F sc__law_long fun cdv A outer sh H G0 hr => by
    have hu := hr.units
    have hu5 := hr.units5
    exact (b_one (s_ret (d_z (d_makerXD m_Supply hr (by decide) takes0 (d_ac (d_v 0) (d_ac (d_z (d_lc [("_law_state", 1)] rfl nd (i_rng1 B.range (d_ab (d_w 0) d_an)) (blkOk_by (N := ["_law_size", "_law_state"]) (sc := (defScope st__law_long)) (by decide +kernel)) (fun _ _ _ _ _ => (g_n 1 nd)) (fun _ _ _ _ _ => ts_n) (fun _ _ _ _ _ => (d_tup (d_ac (d_v 1) (d_ac d_int (d_ac (d_op (o_fdiv) (d_w 1) d_int) d_an))))))) d_an)) (len_c (len_c len_n))))))
  exact ⟨f, fd, ["_law_size"], rfl, z, mgf, F.kp, F.bindsN fun _ _ _ _ _ _ us hl => match us, hl with | [_], _ => rfl⟩
def m__law_bad_tasks : FS :=
    (sSeq (sPar [4, 5] (aC (eT (aC (eC (f1 tupD) (aC (eW 0) aN)) (aC (eV 1) aN))) (aC (eT (aC (eT (aC (eS "") (aC (eS "a") (aC (eS "") (aC (eS "") (aC (eS "b") aN)))))) (aC (eI (8)) aN))) aN)))
    (sSeq (sSet 6 (e2 ixA (eL (aC (eS "ba") (aC (eS "aa") (aC (eS "d") (aC (eS "A") (aC (eS " ") (aC (eS "abcd") (aC (eS "acb") (aC (eS "cc") aN))))))))) (e2 modD (eC (f1 intD) (aC (e2 ixA (eW 3) (eI (0))) aN)) (eI (8)))))
    (sSeq (sSet 7 (e2 modD (eC (f1 intD) (aC (e2 ixA (eW 3) (eI (1))) aN)) (eC (f1 lenD) (aC (eW 0) aN))))
    (sRet (eL (aC (eT (aC (eL aN) (aC (eL (aC (eT (aC (eI (0)) (aC (eI (0)) (aC (eV 2) aN)))) aN)) (aC (eB false) aN)))) (aC (eT (aC (eL (aC (eV 4) (aC (eV 4) (aC (eV 4) aN)))) (aC (eL (aC (eT (aC (eI (0)) (aC (eI (0)) (aC (eV 2) aN)))) aN)) (aC (eB false) aN)))) (aC (eT (aC (eL (aC (eT (aC (eT aN) (aC (eV 1) aN))) aN)) (aC (eL (aC (eT (aC (eI (0)) (aC (eI (0)) (aC (eV 2) aN)))) aN)) (aC (eB false) aN)))) (aC (eT (aC (eL (aC (eV 5) aN)) (aC (eL (aC (eT (aC (eI (0)) (aC (eI (0)) (aC (eI (8)) aN)))) aN)) (aC (eB false) aN)))) (aC (eT (aC (eL (aC (eT (aC (eC (f1 tupD) (aC (e2 addD (e2 addD (eSl (eW 0) oN (oS (eW 7))) (eL (aC (eV 6) aN))) (eSl (eW 0) (oS (e2 addD (eW 7) (eI (1)))) oN)) aN)) (aC (eV 1) aN))) aN)) (aC (eL (aC (eT (aC (eI (0)) (aC (eI (0)) (aC (eV 2) aN)))) aN)) (aC (eB false) aN)))) (aC (eT (aC (eL (aC (eT (aC (eC (f1 tupD) (aC (eW 0) aN)) (aC (e2 subD (eC (f1 lenD) (aC (eW 0) aN)) (eI (1))) aN))) aN)) (aC (eL (aC (eT (aC (eI (0)) (aC (eI (0)) (aC (eV 2) aN)))) aN)) (aC (eB false) aN)))) (aC (eT (aC (eL (aC (eT (aC (eC (f1 tupD) (aC (eW 0) aN)) (aC (e2 addD (eI (9)) (e2 ixA (eW 3) (eI (2)))) aN))) aN)) (aC (eL (aC (eT (aC (eI (0)) (aC (eI (0)) (aC (e2 addD (eI (9)) (e2 ixA (eW 3) (eI (2)))) aN)))) aN)) (aC (eB false) aN)))) (aC (eT (aC (eL (aC (eV 4) aN)) (aC (eL (aC (eT (aC (eI (0)) (aC (eI (1)) (aC (eV 2) aN)))) aN)) (aC (eB false) aN)))) (aC (eT (aC (eL (aC (eV 4) aN)) (aC (eL (aC (eT (aC (e1 negD (eI (1))) (aC (eI (0)) (aC (eV 2) aN)))) aN)) (aC (eB false) aN)))) (aC (eT (aC (eL (aC (eV 4) aN)) (aC (eL (aC (eT (aC (eI (0)) (aC (eI (0)) (aC (e2 subD (eW 1) (eI (1))) aN)))) aN)) (aC (eB false) aN)))) (aC (eT (aC (eL (aC (eV 4) aN)) (aC (eL (aC (eT (aC (eI (0)) (aC (eI (0)) (aC (e2 addD (eI (9)) (e2 ixA (eW 3) (eI (3)))) aN)))) aN)) (aC (eB false) aN)))) (aC (eT (aC (eL (aC (eV 4) aN)) (aC (eL (aC (eT (aC (eI (0)) (aC (eI (0)) (aC (eV 1) aN)))) (aC (eT (aC (eI (0)) (aC (eI (0)) (aC (eI (8)) aN)))) aN))) (aC (eB false) aN)))) (aC (eT (aC (eL (aC (eV 4) (aC (eV 4) aN))) (aC (eL (aC (eT (aC (eI (0)) (aC (eI (0)) (aC (eV 2) aN)))) aN)) (aC (eB true) aN)))) (aC (eT (aC (eL (aC (eV 4) aN)) (aC (eL aN) (aC (eB true) aN)))) aN)))))))))))))))))))
def d__law_bad_tasks : List D → R D := fun ds => (runF false 8 m__law_bad_tasks ds).nox
theorem sc__law_bad_tasks : FnScope ["_law_plan", "_law_due", "_law_gap", "_law_d", "_law_good", "_law_five", "_law_bad_entry", "_law_at"] ["_law_plan", "_law_due", "_law_gap", "_law_d"] (defScope st__law_bad_tasks) := ⟨rfl, rfl, rfl, by decide +kernel, rfl, by decide +kernel, by decide +kernel⟩
theorem ok__law_bad_tasks {f : Addr} {fd : FuncData} (F : FunD K "_law_bad_tasks" "_law_bad_tasks" (defArgs st__law_bad_tasks) (defBody st__law_bad_tasks) (defScope st__law_bad_tasks) [] [] f fd) (mgf : mg "_law_bad_tasks" = some (.ref f)) (B : Bt mg)  : Callee P w K mg base ⟨K, cl⟩ 1 "_law_bad_tasks" 4 false d__law_bad_tasks := by
  have nd : (["_law_plan", "_law_due", "_law_gap", "_law_d", "_law_good", "_law_five", "_law_bad_entry", "_law_at"] : List Str).Nodup := sc__law_bad_tasks.nd
  have z := fn_ok (P := P) (w := w) (mg := mg) (base := base) (k := ⟨K, cl⟩) (fr := false) (lv := 0) (as := [4, 5, 6, 7]) (s := m__law_bad_tasks) F sc__law_bad_tasks fun cdv A outer sh H G0 hr => by
    have hu := hr.units
    have hu5 := hr.units5
    exact (b_cons (s_par2 4 5 nd (d_ac (d_tup (d_ac (d_btyp (c_tup rfl) B.tuple (d_ab (d_w 0) d_an)) (d_ac (d_v 1) d_an))) (d_ac (d_tup (d_ac (d_tup (d_ac d_str (d_ac d_str (d_ac d_str (d_ac d_str (d_ac d_str d_an)))))) (d_ac d_int d_an))) d_an)))
    (b_cons (s_set 6 nd (d_ix (o_ixA rfl hu5) (d_lst (d_ac d_str (d_ac d_str (d_ac d_str (d_ac d_str (d_ac d_str (d_ac d_str (d_ac d_str (d_ac d_str d_an))))))))) (d_op (o_mod) (d_btyp (c_int) B.int (d_ab (d_ix (o_ixA rfl hu5) (d_w 3) d_int) d_an)) d_int)))
    (b_cons (s_set 7 nd (d_op (o_mod) (d_btyp (c_int) B.int (d_ab (d_ix (o_ixA rfl hu5) (d_w 3) d_int) d_an)) (d_bltn (c_len rfl) B.len (d_ab (d_w 0) d_an))))
    (b_one (s_ret (d_z (d_lst (d_ac (d_tup (d_ac (d_z (d_lst d_an)) (d_ac (d_z (d_lst (d_ac (d_tup (d_ac d_int (d_ac d_int (d_ac (d_v 2) d_an)))) d_an))) (d_ac d_bl d_an)))) (d_ac (d_tup (d_ac (d_z (d_lst (d_ac (d_v 4) (d_ac (d_v 4) (d_ac (d_v 4) d_an))))) (d_ac (d_z (d_lst (d_ac (d_tup (d_ac d_int (d_ac d_int (d_ac (d_v 2) d_an)))) d_an))) (d_ac d_bl d_an)))) (d_ac (d_tup (d_ac (d_z (d_lst (d_ac (d_tup (d_ac (d_tup d_an) (d_ac (d_v 1) d_an))) d_an))) (d_ac (d_z (d_lst (d_ac (d_tup (d_ac d_int (d_ac d_int (d_ac (d_v 2) d_an)))) d_an))) (d_ac d_bl d_an)))) (d_ac (d_tup (d_ac (d_z (d_lst (d_ac (d_v 5) d_an))) (d_ac (d_z (d_lst (d_ac (d_tup (d_ac d_int (d_ac d_int (d_ac d_int d_an)))) d_an))) (d_ac d_bl d_an)))) (d_ac (d_tup (d_ac (d_z (d_lst (d_ac (d_tup (d_ac (d_btyp (c_tup rfl) B.tuple (d_ab (d_op (o_add rfl) (d_op (o_add rfl) (d_sl rfl (d_w 0) d_on (d_os (d_w 7))) (d_lst (d_ac (d_v 6) d_an))) (d_sl rfl (d_w 0) (d_os (d_op (o_add rfl) (d_w 7) d_int)) d_on)) d_an)) (d_ac (d_v 1) d_an))) d_an))) (d_ac (d_z (d_lst (d_ac (d_tup (d_ac d_int (d_ac d_int (d_ac (d_v 2) d_an)))) d_an))) (d_ac d_bl d_an)))) (d_ac (d_tup (d_ac (d_z (d_lst (d_ac (d_tup (d_ac (d_btyp (c_tup rfl) B.tuple (d_ab (d_w 0) d_an)) (d_ac (d_op (o_sub) (d_bltn (c_len rfl) B.len (d_ab (d_w 0) d_an)) d_int) d_an))) d_an))) (d_ac (d_z (d_lst (d_ac (d_tup (d_ac d_int (d_ac d_int (d_ac (d_v 2) d_an)))) d_an))) (d_ac d_bl d_an)))) (d_ac (d_tup (d_ac (d_z (d_lst (d_ac (d_tup (d_ac (d_btyp (c_tup rfl) B.tuple (d_ab (d_w 0) d_an)) (d_ac (d_op (o_add rfl) d_int (d_ix (o_ixA rfl hu5) (d_w 3) d_int)) d_an))) d_an))) (d_ac (d_z (d_lst (d_ac (d_tup (d_ac d_int (d_ac d_int (d_ac (d_op (o_add rfl) d_int (d_ix (o_ixA rfl hu5) (d_w 3) d_int)) d_an)))) d_an))) (d_ac d_bl d_an)))) (d_ac (d_tup (d_ac (d_z (d_lst (d_ac (d_v 4) d_an))) (d_ac (d_z (d_lst (d_ac (d_tup (d_ac d_int (d_ac d_int (d_ac (d_v 2) d_an)))) d_an))) (d_ac d_bl d_an)))) (d_ac (d_tup (d_ac (d_z (d_lst (d_ac (d_v 4) d_an))) (d_ac (d_z (d_lst (d_ac (d_tup (d_ac (d_un o_neg d_int) (d_ac d_int (d_ac (d_v 2) d_an)))) d_an))) (d_ac d_bl d_an)))) (d_ac (d_tup (d_ac (d_z (d_lst (d_ac (d_v 4) d_an))) (d_ac (d_z (d_lst (d_ac (d_tup (d_ac d_int (d_ac d_int (d_ac (d_op (o_sub) (d_w 1) d_int) d_an)))) d_an))) (d_ac d_bl d_an)))) (d_ac (d_tup (d_ac (d_z (d_lst (d_ac (d_v 4) d_an))) (d_ac (d_z (d_lst (d_ac (d_tup (d_ac d_int (d_ac d_int (d_ac (d_op (o_add rfl) d_int (d_ix (o_ixA rfl hu5) (d_w 3) d_int)) d_an)))) d_an))) (d_ac d_bl d_an)))) (d_ac (d_tup (d_ac (d_z (d_lst (d_ac (d_v 4) d_an))) (d_ac (d_z (d_lst (d_ac (d_tup (d_ac d_int (d_ac d_int (d_ac (d_v 1) d_an)))) (d_ac (d_tup (d_ac d_int (d_ac d_int (d_ac d_int d_an)))) d_an)))) (d_ac d_bl d_an)))) (d_ac (d_tup (d_ac (d_z (d_lst (d_ac (d_v 4) (d_ac (d_v 4) d_an)))) (d_ac (d_z (d_lst (d_ac (d_tup (d_ac d_int (d_ac d_int (d_ac (d_v 2) d_an)))) d_an))) (d_ac d_bl d_an)))) (d_ac (d_tup (d_ac (d_z (d_lst (d_ac (d_v 4) d_an))) (d_ac (d_z (d_lst d_an)) (d_ac d_bl d_an)))) d_an)))))))))))))))))))))
  exact ⟨f, fd, ["_law_plan", "_law_due", "_law_gap", "_law_d"], rfl, z, mgf, F.kp, F.bindsN fun _ _ _ _ _ _ us hl => match us, hl with | [_, _, _, _], _ => rfl⟩
def m_law : FS :=
    (sSeq (sSet 1 (eC d__law_draws (aC (eV 0) (aC (eI (0)) (aC (eI (16)) aN)))))
    (sSeq (sSet 2 (lcE (fun S => (aC (e2 addD (eI (1)) (e2 modD (eC (f1 intD) (aC (e2 ixA (eW 1) (eI (8))) aN)) (eI (4)))) aN) S >>= rng1) (gN 15) tY (e2 ixA (eL (aC (eS "") (aC (eS "a") (aC (eS "b") (aC (eS "c") (aC (eS "ab") (aC (eS "ac") (aC (eS "bc") (aC (eS "abc") aN))))))))) (e2 modD (eC (f1 intD) (aC (e2 ixA (eW 1) (e2 addD (eI (4)) (eW 15))) aN)) (eI (8)))) [15]))
    (sSeq (sSet 3 (eC (f2 min2D) (aC (eI (7)) (aC (e2 addD (eC (f1 lenD) (aC (eW 2) aN)) (e2 modD (eC (f1 intD) (aC (e2 ixA (eW 1) (eI (9))) aN)) (eI (5)))) aN))))
    (sSeq (sSet 4 (eC (f2 min2D) (aC (eI (8)) (aC (e2 addD (eW 3) (e2 modD (eC (f1 intD) (aC (e2 ixA (eW 1) (eI (10))) aN)) (eI (4)))) aN))))
    (sSeq (sSet 5 (eCXD [.bl false] d_Task (aC (eL (aC (eT (aC (eV 2) (aC (eV 3) aN))) aN)) (aC (eL (aC (eT (aC (eI (0)) (aC (eI (0)) (aC (eV 4) aN)))) aN)) aN))))
    (sSeq (sIf (tO (tB' (e2 neD (e1 (fldD 4 0) (eW 5)) (eT (aC (eT (aC (eC (f1 tupD) (aC (eW 2) aN)) (aC (eV 3) aN))) aN)))) (tO (tB' (e2 neD (e1 (fldD 4 1) (eW 5)) (eT (aC (eT (aC (eI (0)) (aC (eI (0)) (aC (eV 4) aN)))) aN)))) (tB' (e2 isntBD (e1 (fldD 4 2) (eW 5)) (eB false))))) (sRet (eB false)) sNil)
    (sSeq (sSet 6 (eCXD [.bl false] d_Task (aC (eL (aC (eT (aC (eT (aC (eS "") (aC (eS "") (aC (eS "") (aC (eS "") aN))))) (aC (eI (8)) aN))) (aC (eT (aC (eT (aC (eS "abc") aN)) (aC (eI (1)) aN))) aN))) (aC (eL (aC (eT (aC (eI (1)) (aC (eI (0)) (aC (eI (8)) aN)))) (aC (eT (aC (eI (0)) (aC (eI (1)) (aC (eI (8)) aN)))) (aC (eT (aC (eI (1)) (aC (eI (1)) (aC (eI (1)) aN)))) (aC (eT (aC (eI (0)) (aC (eI (0)) (aC (eI (8)) aN)))) aN))))) aN))))
    (sSeq (sIf (tO (tB' (e2 neD (e1 (fldD 4 1) (eW 6)) (eT (aC (eT (aC (eI (0)) (aC (eI (0)) (aC (eI (8)) aN)))) (aC (eT (aC (eI (0)) (aC (eI (1)) (aC (eI (8)) aN)))) (aC (eT (aC (eI (1)) (aC (eI (0)) (aC (eI (8)) aN)))) (aC (eT (aC (eI (1)) (aC (eI (1)) (aC (eI (1)) aN)))) aN))))))) (tB' (e2 neD (e1 (fldD 4 1) (eCXD [.bl false] d_Task (aC (eL (aC (eT (aC (eV 2) (aC (eV 3) aN))) aN)) (aC (eL aN) aN)))) (eT aN)))) (sRet (eB false)) sNil)
    (sSeq (sIf (tNo (tT' (eC (f1 allD) (aC (lcE (fun S => (eC d__law_bad_tasks (aC (eV 2) (aC (eV 3) (aC (eV 4) (aC (eV 1) aN))))) S >>= itemsD) (gT 3 (gsC (gN 16) (gsC (gN 17) (gsC (gN 18) gsN)))) tY (eC d__law_task_refused (aC (eV 16) (aC (eV 17) (aC (eV 18) aN)))) [16, 17, 18]) aN)))) (sRet (eB false)) sNil)
    (sSeq (sPar [7, 8] (aC (eCMX 4 d_Task_plain (eG (.cls 4)) (aC (eC (f1 lenD) (aC (eW 2) aN)) (aC (eV 3) (aC (eV 4) aN)))) (aC (eCMX 4 d_Task_serving (eG (.cls 4)) (aC (eC (f1 lenD) (aC (eW 2) aN)) (aC (eV 4) aN))) aN)))
    (sSeq (sIf (tO (tB' (e2 neD (e1 (fldD 4 0) (eW 7)) (eT (aC (eT (aC (e2 mulTS (eT (aC (eS "") aN)) (eC (f1 lenD) (aC (eW 2) aN))) (aC (eV 3) aN))) aN)))) (tO (tB' (e2 neD (e1 (fldD 4 1) (eW 7)) (eT (aC (eT (aC (eI (0)) (aC (eI (0)) (aC (eV 4) aN)))) aN)))) (tO (tT' (e1 (fldD 4 2) (eW 7))) (tT' (eP 4 d_Task_server (eV 7)))))) (sRet (eB false)) sNil)
    (sSeq (sIf (tO (tB' (e2 neD (e1 (fldD 4 0) (eW 8)) (eT (aC (eT (aC (e2 mulTS (eT (aC (eS "") aN)) (eC (f1 lenD) (aC (eW 2) aN))) (aC (eV 4) aN))) aN)))) (tO (tNo (tT' (e1 (fldD 4 2) (eW 8)))) (tNo (tT' (eP 4 d_Task_server (eV 8)))))) (sRet (eB false)) sNil)
    (sSeq (sSet 9 (e2 ixA (eL (aC (eS "first") (aC (eS "last") (aC (eS "dues") aN)))) (e2 modD (eC (f1 intD) (aC (e2 ixA (eW 1) (eI (11))) aN)) (eI (3)))))
    (sSeq (sSet 10 (e2 ixA (eL (aC (eS "lend") (aC (eS "ceil") aN))) (e2 modD (eC (f1 intD) (aC (e2 ixA (eW 1) (eI (12))) aN)) (eI (2)))))
    (sSeq (sIf (tO (tB' (e2 neD (e1 (fldD 5 1) (eCXS 1 [] [] d_Choice (aC (eV 9) (aC (eS "lend") (aC (eS "ceil") aN))) aN)) (eT (aC (eS "ceil") (aC (eS "lend") aN))))) (tO (tB' (e2 neD (e1 (fldD 5 0) (eCXS 1 [] [] d_Choice (aC (eV 9) (aC (eV 10) aN)) aN)) (eW 9))) (tB' (e2 neD (e1 (fldD 5 1) (eCXZ [.str "first"] d_Choice)) (eT aN))))) (sRet (eB false)) sNil)
    (sSeq (sSet 11 (eL (aC (eT (aC (eV 9) (aC (eV 10) (aC (eV 10) aN)))) (aC (eT (aC (e2 addD (eS "due") (e2 mulTS (eS "s") (e2 mulTS (e2 modD (eC (f1 intD) (aC (e2 ixA (eW 1) (eI (13))) aN)) (eI (3))) (eI (2))))) (aC (eV 10) (aC (eS "") aN)))) (aC (eT (aC (eV 9) (aC (e2 addD (eW 10) (eS "s")) (aC (eS "") aN)))) (aC (eT (aC (eV 10) (aC (eV 9) (aC (eS "") aN)))) aN))))))
    (sSeq (sIf (tNo (tT' (eC (f1 allD) (aC (lcE (fun S => (eV 11) S >>= itemsD) (gT 3 (gsC (gN 19) (gsC (gN 20) (gsC (gN 21) gsN)))) tY (eC d__law_choice_refused (aC (eV 19) (aC (eV 20) (aC (eV 21) aN)))) [19, 20, 21]) aN)))) (sRet (eB false)) sNil)
    (sSeq (sPar [12, 13] (aC (eCMX 4 d_Task_plain (eG (.cls 4)) (aC (eI (1)) (aC (eI (2)) (aC (eI (2)) aN)))) (aC (e2 addD (eI (101)) (e2 modD (eC (f1 intD) (aC (e2 ixA (eW 1) (eI (14))) aN)) (eI (8)))) aN)))
    (sSeq (sIf (tO (tB' (e2 neD (e1 (fldD 6 5) (eCXS 1 [false, false, false] [.non, .str "shut", .str "cut"] d_Core (aC (eC d__law_long (aC (eI (100)) aN)) (aC (eV 12) (aC (eV 12) (aC (eV 12) aN)))) aN)) (eI (100000)))) (tNo (tT' (eC d__law_too_large (aC (eC d__law_long (aC (eV 13) aN)) (aC (eV 12) aN)))))) (sRet (eB false)) sNil)
    (sSeq (sSet 14 (eL (aC (eT (aC (eV 5) (aC (eI (4)) (aC (eS "shut") (aC (eS "cut") aN))))) (aC (eT (aC (eV 5) (aC (eI (1)) (aC (e2 ixA (eL (aC (eS "closed") (aC (eS "") (aC (eS "Shut") aN)))) (e2 modD (eC (f1 intD) (aC (e2 ixA (eW 1) (eI (15))) aN)) (eI (3)))) (aC (eS "cut") aN))))) (aC (eT (aC (eV 5) (aC (eI (1)) (aC (eS "open") (aC (eS "drop") aN))))) (aC (eT (aC (eCMX 4 d_Task_plain (eG (.cls 4)) (aC (eI (4)) (aC (eI (8)) (aC (eI (8)) aN)))) (aC (eI (4)) (aC (eS "open") (aC (eS "trust") aN))))) aN))))))
    (sRet (eC (f1 allD) (aC (lcE (fun S => (eV 14) S >>= itemsD) (gT 4 (gsC (gN 22) (gsC (gN 23) (gsC (gN 24) (gsC (gN 25) gsN))))) tY (eC d__law_core_refused (aC (eCM0 3 d_Supply_always (eG (.cls 3))) (aC (eV 22) (aC (eV 23) (aC (eV 24) (aC (eV 25) aN)))))) [22, 23, 24, 25]) aN)))))))))))))))))))))))
def d_law : List D → R D := fun ds => (runF false 26 m_law ds).nox
theorem sc_law : FnScope ["_law_script", "_law_d", "_law_plan", "_law_due", "_law_gap", "_law_made", "_law_last", "_law_plain", "_law_server", "_law_order", "_law_rule", "_law_bad", "_law_ten", "_law_more", "_law_wrong", "_law_i", "_law_nodes", "_law_edges", "_law_steady", "_law_one", "_law_two", "_law_three", "_law_task", "_law_count", "_law_door", "_law_guard"] ["_law_script"] (defScope st_law) := ⟨rfl, rfl, rfl, by decide +kernel, rfl, by decide +kernel, by decide +kernel⟩
theorem ok_law {f : Addr} {fd : FuncData} (F : FunD K "law" "law" (defArgs st_law) (defBody st_law) (defScope st_law) [] [] f fd) (mgf : mg "law" = some (.ref f)) (B : Bt mg) (h__law_draws : Callee P w K mg base ⟨K, cl⟩ 2 "_law_draws" 3 true d__law_draws) (m_Task : MakerXD P w K mg base ⟨K, cl⟩ 2 "Task" 4 2 [.bl false] d_Task) (C_Task : ClsI K ⟨K, cl⟩ 4 (["nodes", "edges", "steady", "caps"] : List Str)) (h__law_bad_tasks : Callee P w K mg base ⟨K, cl⟩ 1 "_law_bad_tasks" 4 false d__law_bad_tasks) (h__law_task_refused : Callee P w K mg base ⟨K, cl⟩ 4 "_law_task_refused" 3 false d__law_task_refused) (h_Task_plain : CmethX P w K mg base ⟨K, cl⟩ 4 4 "plain" 4 false d_Task_plain) (g_Task : Gc mg ⟨K, cl⟩ "Task" (.cls 4)) (h_Task_serving : CmethX P w K mg base ⟨K, cl⟩ 4 4 "serving" 3 false d_Task_serving) (h_Task_server : Prope P w K mg base ⟨K, cl⟩ 1 4 "server" false d_Task_server) (mS_Choice_ : MakerXS P w K mg base ⟨K, cl⟩ 1 "Choice" 5 1 [] [] [] d_Choice) (C_Choice : ClsI K ⟨K, cl⟩ 5 (["order", "rules"] : List Str)) (mZ_Choice : MakerXZ P w K mg base ⟨K, cl⟩ 1 "Choice" 5 [.str "first"] d_Choice) (h__law_choice_refused : Callee P w K mg base ⟨K, cl⟩ 3 "_law_choice_refused" 3 false d__law_choice_refused) (h__law_long : Callee P w K mg base ⟨K, cl⟩ 4 "_law_long" 1 false d__law_long) (mS_Core_000 : MakerXS P w K mg base ⟨K, cl⟩ 3 "Core" 6 1 [false, false, false] [] [.non, .str "shut", .str "cut"] d_Core) (C_Core : ClsI K ⟨K, cl⟩ 6 (["supply", "tasks", "choice", "door", "guard", "weight", "parties"] : List Str)) (h__law_too_large : Callee P w K mg base ⟨K, cl⟩ 5 "_law_too_large" 2 false d__law_too_large) (h__law_core_refused : Callee P w K mg base ⟨K, cl⟩ 5 "_law_core_refused" 5 false d__law_core_refused) (h_Supply_always : CmethX P w K mg base ⟨K, cl⟩ 4 3 "always" 1 false d_Supply_always) (g_Supply : Gc mg ⟨K, cl⟩ "Supply" (.cls 3)) : FnOk P w K mg base CX0 6 f fd ["_law_script"] (SpF ⟨K, cl⟩ false 1 d_law) := by
  have nd : (["_law_script", "_law_d", "_law_plan", "_law_due", "_law_gap", "_law_made", "_law_last", "_law_plain", "_law_server", "_law_order", "_law_rule", "_law_bad", "_law_ten", "_law_more", "_law_wrong", "_law_i", "_law_nodes", "_law_edges", "_law_steady", "_law_one", "_law_two", "_law_three", "_law_task", "_law_count", "_law_door", "_law_guard"] : List Str).Nodup := sc_law.nd
  have z := fn_ok (P := P) (w := w) (mg := mg) (base := base) (k := ⟨K, cl⟩) (fr := false) (lv := 5) (as := [1, 2, 3, 4, 5, 6, 7, 8, 9, 10, 11, 12, 13, 14]) (s := m_law) F sc_law fun cdv A outer sh H G0 hr => by
    have hu := hr.units
    have hu5 := hr.units5
    exact (b_cons (s_set 1 nd (d_z (d_callF (h__law_draws.at hr (by decide)) (d_ac (d_v 0) (d_ac d_int (d_ac d_int d_an))) (len_c (len_c (len_c len_n))))))
    (b_cons (s_lcZ 2 [("_law_i", 15)] rfl nd (i_rng1 B.range (d_ab (d_op (o_add rfl) d_int (d_op (o_mod) (d_btyp (c_int) B.int (d_ab (d_ix (o_ixA rfl hu5) (d_w 1) d_int) d_an)) d_int)) d_an)) (blkOk_by (N := ["_law_script", "_law_d", "_law_plan", "_law_due", "_law_gap", "_law_made", "_law_last", "_law_plain", "_law_server", "_law_order", "_law_rule", "_law_bad", "_law_ten", "_law_more", "_law_wrong", "_law_i", "_law_nodes", "_law_edges", "_law_steady", "_law_one", "_law_two", "_law_three", "_law_task", "_law_count", "_law_door", "_law_guard"]) (sc := (defScope st_law)) (by decide +kernel)) (fun _ _ _ _ _ => (g_n 15 nd)) (fun _ _ _ _ _ => ts_n) (fun _ _ _ _ _ => (d_ix (o_ixA rfl hu5) (d_lst (d_ac d_str (d_ac d_str (d_ac d_str (d_ac d_str (d_ac d_str (d_ac d_str (d_ac d_str (d_ac d_str d_an))))))))) (d_op (o_mod) (d_btyp (c_int) B.int (d_ab (d_ix (o_ixA rfl hu5) (d_w 1) (d_op (o_add rfl) d_int (d_w 15))) d_an)) d_int))))
    (b_cons (s_set 3 nd (d_bltn (c_min2 rfl) B.min (d_ab d_int (d_ab (d_op (o_add rfl) (d_bltn (c_len rfl) B.len (d_ab (d_w 2) d_an)) (d_op (o_mod) (d_btyp (c_int) B.int (d_ab (d_ix (o_ixA rfl hu5) (d_w 1) d_int) d_an)) d_int)) d_an))))
    (b_cons (s_set 4 nd (d_bltn (c_min2 rfl) B.min (d_ab d_int (d_ab (d_op (o_add rfl) (d_w 3) (d_op (o_mod) (d_btyp (c_int) B.int (d_ab (d_ix (o_ixA rfl hu5) (d_w 1) d_int) d_an)) d_int)) d_an))))
    (b_cons (s_set 5 nd (d_z (d_makerXD m_Task hr (by decide) takes0 (d_ac (d_z (d_lst (d_ac (d_tup (d_ac (d_v 2) (d_ac (d_v 3) d_an))) d_an))) (d_ac (d_z (d_lst (d_ac (d_tup (d_ac d_int (d_ac d_int (d_ac (d_v 4) d_an)))) d_an))) d_an)) (len_c (len_c len_n)))))
    (b_cons (s_if (d_pw (d_or (d_tc (o_ne rfl hu) (d_fld 4 0 C_Task rfl (d_w 5)) (d_tup (d_ac (d_tup (d_ac (d_btyp (c_tup rfl) B.tuple (d_ab (d_w 2) d_an)) (d_ac (d_v 3) d_an))) d_an))) (d_or (d_tc (o_ne rfl hu) (d_fld 4 1 C_Task rfl (d_w 5)) (d_tup (d_ac (d_tup (d_ac d_int (d_ac d_int (d_ac (d_v 4) d_an)))) d_an))) (d_or1 (d_tc (o_isntB) (d_fld 4 2 C_Task rfl (d_w 5)) d_bl))))) (b_one (s_ret d_bl)) b_nil)
    (b_cons (s_set 6 nd (d_z (d_makerXD m_Task hr (by decide) takes0 (d_ac (d_z (d_lst (d_ac (d_tup (d_ac (d_tup (d_ac d_str (d_ac d_str (d_ac d_str (d_ac d_str d_an))))) (d_ac d_int d_an))) (d_ac (d_tup (d_ac (d_tup (d_ac d_str d_an)) (d_ac d_int d_an))) d_an)))) (d_ac (d_z (d_lst (d_ac (d_tup (d_ac d_int (d_ac d_int (d_ac d_int d_an)))) (d_ac (d_tup (d_ac d_int (d_ac d_int (d_ac d_int d_an)))) (d_ac (d_tup (d_ac d_int (d_ac d_int (d_ac d_int d_an)))) (d_ac (d_tup (d_ac d_int (d_ac d_int (d_ac d_int d_an)))) d_an)))))) d_an)) (len_c (len_c len_n)))))
    (b_cons (s_if (d_pw (d_or (d_tc (o_ne rfl hu) (d_fld 4 1 C_Task rfl (d_w 6)) (d_tup (d_ac (d_tup (d_ac d_int (d_ac d_int (d_ac d_int d_an)))) (d_ac (d_tup (d_ac d_int (d_ac d_int (d_ac d_int d_an)))) (d_ac (d_tup (d_ac d_int (d_ac d_int (d_ac d_int d_an)))) (d_ac (d_tup (d_ac d_int (d_ac d_int (d_ac d_int d_an)))) d_an)))))) (d_or1 (d_tc (o_ne rfl hu) (d_fld 4 1 C_Task rfl (d_makerXD m_Task hr (by decide) takes0 (d_ac (d_z (d_lst (d_ac (d_tup (d_ac (d_v 2) (d_ac (d_v 3) d_an))) d_an))) (d_ac (d_z (d_lst d_an)) d_an)) (len_c (len_c len_n)))) (d_tup d_an))))) (b_one (s_ret d_bl)) b_nil)
    (b_cons (s_if (d_not (d_tt rfl (d_bltn (c_all rfl) B.all (d_ab (d_lc [("_law_nodes", 16), ("_law_edges", 17), ("_law_steady", 18)] rfl nd (i_seq rfl (d_callS (h__law_bad_tasks.at hr (by decide)) (d_ac (d_v 2) (d_ac (d_v 3) (d_ac (d_v 4) (d_ac (d_v 1) d_an)))) (len_c (len_c (len_c (len_c len_n)))))) (blkOk_by (N := ["_law_script", "_law_d", "_law_plan", "_law_due", "_law_gap", "_law_made", "_law_last", "_law_plain", "_law_server", "_law_order", "_law_rule", "_law_bad", "_law_ten", "_law_more", "_law_wrong", "_law_i", "_law_nodes", "_law_edges", "_law_steady", "_law_one", "_law_two", "_law_three", "_law_task", "_law_count", "_law_door", "_law_guard"]) (sc := (defScope st_law)) (by decide +kernel)) (fun _ _ _ _ _ => (g_t rfl rfl (gs_c (g_n 16 nd) (gs_c (g_n 17 nd) (gs_c (g_n 18 nd) gs_n))))) (fun _ _ _ _ _ => ts_n) (fun _ _ _ _ _ => (d_callS (h__law_task_refused.at hr (by decide)) (d_ac (d_v 16) (d_ac (d_v 17) (d_ac (d_v 18) d_an))) (len_c (len_c (len_c len_n)))))) d_an)))) (b_one (s_ret d_bl)) b_nil)
    (b_cons (s_par2 7 8 nd (d_ac (d_cmethXS 4 h_Task_plain hr (by decide) takes0 (d_g g_Task) (d_ac (d_bltn (c_len rfl) B.len (d_ab (d_w 2) d_an)) (d_ac (d_v 3) (d_ac (d_v 4) d_an))) (len_c (len_c (len_c len_n)))) (d_ac (d_cmethXS 4 h_Task_serving hr (by decide) takes0 (d_g g_Task) (d_ac (d_bltn (c_len rfl) B.len (d_ab (d_w 2) d_an)) (d_ac (d_v 4) d_an)) (len_c (len_c len_n))) d_an)))
    (b_cons (s_if (d_pw (d_or (d_tc (o_ne rfl hu) (d_fld 4 0 C_Task rfl (d_w 7)) (d_tup (d_ac (d_tup (d_ac (d_op (o_mulTS rfl) (d_tup (d_ac d_str d_an)) (d_bltn (c_len rfl) B.len (d_ab (d_w 2) d_an))) (d_ac (d_v 3) d_an))) d_an))) (d_or (d_tc (o_ne rfl hu) (d_fld 4 1 C_Task rfl (d_w 7)) (d_tup (d_ac (d_tup (d_ac d_int (d_ac d_int (d_ac (d_v 4) d_an)))) d_an))) (d_or (d_tt rfl (d_fld 4 2 C_Task rfl (d_w 7))) (d_or1 (d_tt rfl (d_propS 4 h_Task_server hr (by decide) (d_v 7)))))))) (b_one (s_ret d_bl)) b_nil)
    (b_cons (s_if (d_pw (d_or (d_tc (o_ne rfl hu) (d_fld 4 0 C_Task rfl (d_w 8)) (d_tup (d_ac (d_tup (d_ac (d_op (o_mulTS rfl) (d_tup (d_ac d_str d_an)) (d_bltn (c_len rfl) B.len (d_ab (d_w 2) d_an))) (d_ac (d_v 4) d_an))) d_an))) (d_or (d_not (d_tt rfl (d_fld 4 2 C_Task rfl (d_w 8)))) (d_or1 (d_not (d_tt rfl (d_propS 4 h_Task_server hr (by decide) (d_v 8)))))))) (b_one (s_ret d_bl)) b_nil)
    (b_cons (s_set 9 nd (d_ix (o_ixA rfl hu5) (d_lst (d_ac d_str (d_ac d_str (d_ac d_str d_an)))) (d_op (o_mod) (d_btyp (c_int) B.int (d_ab (d_ix (o_ixA rfl hu5) (d_w 1) d_int) d_an)) d_int)))
    (b_cons (s_set 10 nd (d_ix (o_ixA rfl hu5) (d_lst (d_ac d_str (d_ac d_str d_an))) (d_op (o_mod) (d_btyp (c_int) B.int (d_ab (d_ix (o_ixA rfl hu5) (d_w 1) d_int) d_an)) d_int)))
    (b_cons (s_if (d_pw (d_or (d_tc (o_ne rfl hu) (d_fld 5 1 C_Choice rfl (d_makerXS (ks := []) mS_Choice_ hr (by decide) takes0 (d_ac (d_v 9) (d_ac d_str (d_ac d_str d_an))) d_kn len_n)) (d_tup (d_ac d_str (d_ac d_str d_an)))) (d_or (d_tc (o_ne rfl hu) (d_fld 5 0 C_Choice rfl (d_makerXS (ks := []) mS_Choice_ hr (by decide) takes0 (d_ac (d_v 9) (d_ac (d_v 10) d_an)) d_kn len_n)) (d_w 9)) (d_or1 (d_tc (o_ne rfl hu) (d_fld 5 1 C_Choice rfl (d_makerXZ mZ_Choice hr (by decide) takes0)) (d_tup d_an)))))) (b_one (s_ret d_bl)) b_nil)
    (b_cons (s_set 11 nd (d_z (d_lst (d_ac (d_tup (d_ac (d_v 9) (d_ac (d_v 10) (d_ac (d_v 10) d_an)))) (d_ac (d_tup (d_ac (d_op (o_add rfl) d_str (d_op (o_mulTS rfl) d_str (d_op (o_mulTS rfl) (d_op (o_mod) (d_btyp (c_int) B.int (d_ab (d_ix (o_ixA rfl hu5) (d_w 1) d_int) d_an)) d_int) d_int))) (d_ac (d_v 10) (d_ac d_str d_an)))) (d_ac (d_tup (d_ac (d_v 9) (d_ac (d_op (o_add rfl) (d_w 10) d_str) (d_ac d_str d_an)))) (d_ac (d_tup (d_ac (d_v 10) (d_ac (d_v 9) (d_ac d_str d_an)))) d_an)))))))
    (b_cons (s_if (d_not (d_tt rfl (d_bltn (c_all rfl) B.all (d_ab (d_lc [("_law_one", 19), ("_law_two", 20), ("_law_three", 21)] rfl nd (i_seq rfl (d_v 11)) (blkOk_by (N := ["_law_script", "_law_d", "_law_plan", "_law_due", "_law_gap", "_law_made", "_law_last", "_law_plain", "_law_server", "_law_order", "_law_rule", "_law_bad", "_law_ten", "_law_more", "_law_wrong", "_law_i", "_law_nodes", "_law_edges", "_law_steady", "_law_one", "_law_two", "_law_three", "_law_task", "_law_count", "_law_door", "_law_guard"]) (sc := (defScope st_law)) (by decide +kernel)) (fun _ _ _ _ _ => (g_t rfl rfl (gs_c (g_n 19 nd) (gs_c (g_n 20 nd) (gs_c (g_n 21 nd) gs_n))))) (fun _ _ _ _ _ => ts_n) (fun _ _ _ _ _ => (d_callS (h__law_choice_refused.at hr (by decide)) (d_ac (d_v 19) (d_ac (d_v 20) (d_ac (d_v 21) d_an))) (len_c (len_c (len_c len_n)))))) d_an)))) (b_one (s_ret d_bl)) b_nil)
    (b_cons (s_par2 12 13 nd (d_ac (d_cmethXS 4 h_Task_plain hr (by decide) takes0 (d_g g_Task) (d_ac d_int (d_ac d_int (d_ac d_int d_an))) (len_c (len_c (len_c len_n)))) (d_ac (d_op (o_add rfl) d_int (d_op (o_mod) (d_btyp (c_int) B.int (d_ab (d_ix (o_ixA rfl hu5) (d_w 1) d_int) d_an)) d_int)) d_an)))
    (b_cons (s_if (d_pw (d_or (d_tc (o_ne rfl hu) (d_fld 6 5 C_Core rfl (d_makerXS (ks := []) mS_Core_000 hr (by decide) takes0 (d_ac (d_callS (h__law_long.at hr (by decide)) (d_ac d_int d_an) (len_c len_n)) (d_ac (d_v 12) (d_ac (d_v 12) (d_ac (d_v 12) d_an)))) d_kn len_n)) d_int) (d_or1 (d_not (d_tt rfl (d_callS (h__law_too_large.at hr (by decide)) (d_ac (d_callS (h__law_long.at hr (by decide)) (d_ac (d_v 13) d_an) (len_c len_n)) (d_ac (d_v 12) d_an)) (len_c (len_c len_n)))))))) (b_one (s_ret d_bl)) b_nil)
    (b_cons (s_set 14 nd (d_z (d_lst (d_ac (d_tup (d_ac (d_v 5) (d_ac d_int (d_ac d_str (d_ac d_str d_an))))) (d_ac (d_tup (d_ac (d_v 5) (d_ac d_int (d_ac (d_ix (o_ixA rfl hu5) (d_lst (d_ac d_str (d_ac d_str (d_ac d_str d_an)))) (d_op (o_mod) (d_btyp (c_int) B.int (d_ab (d_ix (o_ixA rfl hu5) (d_w 1) d_int) d_an)) d_int)) (d_ac d_str d_an))))) (d_ac (d_tup (d_ac (d_v 5) (d_ac d_int (d_ac d_str (d_ac d_str d_an))))) (d_ac (d_tup (d_ac (d_cmethXS 4 h_Task_plain hr (by decide) takes0 (d_g g_Task) (d_ac d_int (d_ac d_int (d_ac d_int d_an))) (len_c (len_c (len_c len_n)))) (d_ac d_int (d_ac d_str (d_ac d_str d_an))))) d_an)))))))
    (b_one (s_ret (d_bltn (c_all rfl) B.all (d_ab (d_lc [("_law_task", 22), ("_law_count", 23), ("_law_door", 24), ("_law_guard", 25)] rfl nd (i_seq rfl (d_v 14)) (blkOk_by (N := ["_law_script", "_law_d", "_law_plan", "_law_due", "_law_gap", "_law_made", "_law_last", "_law_plain", "_law_server", "_law_order", "_law_rule", "_law_bad", "_law_ten", "_law_more", "_law_wrong", "_law_i", "_law_nodes", "_law_edges", "_law_steady", "_law_one", "_law_two", "_law_three", "_law_task", "_law_count", "_law_door", "_law_guard"]) (sc := (defScope st_law)) (by decide +kernel)) (fun _ _ _ _ _ => (g_t rfl rfl (gs_c (g_n 22 nd) (gs_c (g_n 23 nd) (gs_c (g_n 24 nd) (gs_c (g_n 25 nd) gs_n)))))) (fun _ _ _ _ _ => ts_n) (fun _ _ _ _ _ => (d_callS (h__law_core_refused.at hr (by decide)) (d_ac (d_cmeth0S 3 h_Supply_always hr (by decide) takes0 (d_g g_Supply)) (d_ac (d_v 22) (d_ac (d_v 23) (d_ac (d_v 24) (d_ac (d_v 25) d_an))))) (len_c (len_c (len_c (len_c (len_c len_n)))))))) d_an))))))))))))))))))))))))
  exact z
end
end Pf
set_option Elab.async false
set_option linter.all false
set_option maxRecDepth 100000
namespace Pf
open M PySem L2
def drawn (n : Nat) (d : D) : Prop := ∃ l : List Int, d = .lst (l.map .int) ∧ l.length = n ∧ ∀ x ∈ l, 0 ≤ x ∧ x < 720720
def EN : List Str := ["", "a", "b", "c", "ab", "ac", "bc", "abc"]
def planD (p : List Str) : D := .tup (p.map .str)
structure Nd (p : List Str) (due : Int) : Prop where
  ne : 1 ≤ p.length
  le : p.length ≤ 4
  lo : (p.length : Int) ≤ due
  hi : due ≤ 8
  en : ∀ e ∈ p, e ∈ EN
def nodeD (p : List Str) (due : Int) : D := .tup [planD p, .int due]
def edgeD (u v g : Int) : D := .tup [.int u, .int v, .int g]
theorem drawn.ix {n : Nat} {d : D} (h : drawn n d) {i : Int} (h0 : 0 ≤ i) (h1 : i < n) : Ok (ixD d (.int i)) fun z => ∃ x : Int, z = .int x ∧ 0 ≤ x ∧ x < 720720 := by
  obtain ⟨l, rfl, hl, hm⟩ := h
  rw [k_ixL]
  obtain ⟨a, ha⟩ := atI_lt (xs := l.map D.int) h0 (by rw [List.length_map]; omega)
  obtain ⟨x, hx, rfl⟩ := List.mem_map.mp (atI_mem ha)
  exact ⟨_, ha, x, rfl, hm x hx⟩
theorem mod_b (x : Int) {m : Int} (h : 0 < m) : 0 ≤ x % m ∧ x % m < m := ⟨Int.emod_nonneg _ (by omega), Int.emod_lt_of_pos _ h⟩
theorem drawn.snoc {l : List Int} {n : Nat} {x : Int} (hm : l.length = n ∧ ∀ x ∈ l, 0 ≤ x ∧ x < 720720) (hx : 0 ≤ x ∧ x < 720720) : (l ++ [x]).length = n + 1 ∧ ∀ z ∈ l ++ [x], 0 ≤ z ∧ z < 720720 := by
  refine ⟨by simp [hm.1], fun z hz => ?_⟩
  rcases List.mem_append.mp hz with h | h
  · exact hm.2 z h
  · rw [List.mem_singleton] at h; subst h; exact hx
end Pf
set_option Elab.async false
set_option linter.all false
set_option maxRecDepth 100000
namespace Pf
open M PySem L2
mutual
theorem deq_self : ∀ (n : Nat) (d : D), dok n d = true → deq d d = true
  | _, .non, _ => by simp [deq]
  | _, .bl b, _ => by simp [deq]
  | _, .int b, _ => by simp [deq]
  | _, .str b, _ => by simp [deq]
  | n + 1, .tup xs, h => by simp only [dok] at h; simp only [deq]; exact deqs_self n xs h
  | n + 1, .lst xs, h => by simp only [dok] at h; simp only [deq]; exact deqs_self n xs h
  | 0, .tup xs, h => by simp [dok] at h
  | 0, .lst xs, h => by simp [dok] at h
  | n, .ty _, h => by cases n <;> simp [dok] at h
  | n, .dic _ _, h => by cases n <;> simp [dok] at h
  | n, .dit _ _, h => by cases n <;> simp [dok] at h
  | n, .obj _ _, h => by cases n <;> simp [dok] at h
  | n, .scr _, h => by cases n <;> simp [dok] at h
  | n, .cls _, h => by cases n <;> simp [dok] at h
theorem deqs_self : ∀ (n : Nat) (ds : List D), doks n ds = true → deqs ds ds = true
  | _, [], _ => by simp [deqs]
  | n, d :: ds, h => by
    simp only [doks, Bool.and_eq_true] at h
    simp only [deqs, Bool.and_eq_true]
    exact ⟨deq_self n d h.1, deqs_self n ds h.2⟩
end
theorem k_neS {d : D} (h : dok 60 d = true) {Q : D → Prop} : Ok (neD d d) Q ↔ Q (.bl false) := by
  have e : neD d d = .ok (.bl false) := by unfold neD; rw [h, deq_self 60 d h]; rfl
  rw [e, ok_ok]
theorem doks_map {α : Type} (f : α → D) (n : Nat) : ∀ (xs : List α), (∀ x ∈ xs, dok n (f x) = true) → doks n (xs.map f) = true
  | [], _ => by simp [doks]
  | x :: xs, h => by
    simp only [List.map_cons, doks, Bool.and_eq_true]
    exact ⟨h x (by simp), doks_map f n xs fun y hy => h y (by simp [hy])⟩
def sg (c : Nat) : Str := ⟨#[c]⟩
theorem k_ext {i : Nat} {f : FE} {S : M.Env} {QS : Fl × M.Env → Prop} : Ok (sExt i f S) QS ↔ Ok (ownL i S) fun ds => Ok (f S) fun d => ∃ es, d = .lst es ∧ ds.length + es.length ≤ sizeLine ∧ QS (.nx, S.set i (some ⟨true, .lst (ds ++ es)⟩)) := by
  unfold sExt
  rw [ok_bind]
  apply iff_of_eq
  congr 1
  funext ds
  rw [ok_bind]
  congr 1
  funext d
  refine propext ?_
  cases d with
  | lst es =>
    simp only [ok_if, ok_ok]
    exact ⟨fun h => ⟨es, rfl, h.1, h.2⟩, fun ⟨es', e, h⟩ => by cases e; exact h⟩
  | _ => simp only [ok_fail]; exact ⟨False.elim, fun ⟨_, e, _⟩ => nomatch e⟩
theorem pass_if {t : FT} {s r : FS} {S : M.Env} {QS : Fl × M.Env → Prop} (h : Ok (t S) fun b => b = false) (k : Ok (r S) QS) : Ok (sSeq (sIf t s sNil) r S) QS := by
  refine seq_cut (fun S' => S' = S) ?_ (fun S' e => by rw [e]; exact k)
  rw [k_if]
  refine h.mono fun b hb => ?_
  subst hb
  (try simp only [↓k_guard, k_no, k_I, k_S, k_B, k_N, k_G, k_Y, k_V, k_W, k_O, g0_z, g0_s, gA_z, gA_s, g1_z, g1_s, k_1, k_2, k_n, k_c, k_T, k_L, k_C, k_f1, k_f2, k_App, k_M, k_P, k_3, k_tB, k_tT, k_toB, k_tNo, k_tA, k_tO, k_tY, k_And, k_Or, k_Not, k_eIf, k_nil, k_seq, k_set, k_own, k_drop, k_ret, k_retN, k_retO, k_if, k_fz, fz_z, fz_s, k_gN, k_gsN, k_gsC, k_gT, k_asg, k_for, k_fnil, k_fcons, k_app, oL_z, oL_s, k_par, k_run, k_runN, k_fld, oO_z, k_add, k_addL, k_sub, k_mul, k_div, k_mod, k_pow, k_neg, k_lt, k_le, k_gt, k_ge, k_eqI, k_neI, k_int, k_intB, k_abs, k_lenL, k_lenT, k_lenC, k_tru, k_tupL, k_tupT, k_items_l, k_items_t, k_rng1, k_ixL, k_ixT, k_ixC, k_fldD, ok_nox, ok_ok, ok_bind, List.set_cons_zero, List.set_cons_succ, startS, startN, List.map_cons, List.map_nil, List.cons_append, List.nil_append, List.append_nil, List.length_cons, List.length_nil, List.replicate, Nat.reduceSub, Nat.reduceAdd, Nat.reduceLeDiff, Nat.zero_add, true_and, and_true, false_implies, true_implies, implies_true, forall_const, reduceCtorEq, Bool.not_true, Bool.not_false, Bool.not_eq_true'])
theorem k_aug {i : Nat} {o : D → D → R D} {f : FE} {S : M.Env} {QS : Fl × M.Env → Prop} : Ok (sAugI i o f S) QS ↔ Ok (eV i S) fun x => Ok (f S) fun y => bothI x y = true ∧ Ok (o x y) fun d => QS (.nx, S.set i (some ⟨false, d⟩)) := by
  unfold sAugI; simp only [ok_bind, ok_nox, ok_if, ok_ok]
theorem bothI_i {a b : Int} : bothI (.int a) (.int b) = true := rfl
end Pf
set_option Elab.async false
set_option linter.all false
set_option maxRecDepth 100000
namespace Pf
open M PySem L2 PySem.W PyProof.Rows
theorem srt_map {α : Type} (f : α → D) (xs : List α) : srt (xs.map f) = (xs.mergeSort fun a b => dle (f a) (f b)).map f := by
  unfold srt
  rw [List.map_mergeSort (r := fun a b => dle (f a) (f b)) (s := dle) fun _ _ _ _ => rfl]
theorem k_runT {n : Nat} {s : FS} {ds : List D} {Q : D → Prop} (h : Ok (s (startS n ds)) fun z => ∃ d, z.1 = .rt d ∧ Q d) : Ok (runF true n s ds) Q := by
  unfold runF
  obtain ⟨⟨fl, S'⟩, e, d, he, q⟩ := h
  have he : fl = .rt d := he
  subst he
  rw [e]
  exact ⟨d, rfl, q⟩
theorem k_isL {xs : List D} {Q : D → Prop} : Ok (isiD (.lst xs) (.ty "list")) Q ↔ Q (.bl true) := by
  have e : isiD (.lst xs) (.ty "list") = .ok (.bl true) := by first | rfl | decide
  rw [e, ok_ok]
theorem k_isT {xs : List D} {Q : D → Prop} : Ok (isiD (.tup xs) (.ty "tuple")) Q ↔ Q (.bl true) := by
  have e : isiD (.tup xs) (.ty "tuple") = .ok (.bl true) := by first | rfl | decide
  rw [e, ok_ok]
theorem k_isS {x : Str} {Q : D → Prop} : Ok (isiD (.str x) (.ty "str")) Q ↔ Q (.bl true) := by
  have e : isiD (.str x) (.ty "str") = .ok (.bl true) := by first | rfl | decide
  rw [e, ok_ok]
end Pf
set_option Elab.async false
set_option linter.all false
set_option maxRecDepth 100000
namespace Pf
open M PySem L2 PySem.W PyProof.Rows
theorem ixA_l {xs : List D} {y : D} : ixA (.lst xs) y = ixD (.lst xs) y := rfl
theorem ixA_t {xs : List D} {y : D} : ixA (.tup xs) y = ixD (.tup xs) y := rfl
theorem ixA_c {xs : List Int} {y : D} : ixA (.scr xs) y = ixD (.scr xs) y := rfl
theorem inA_l {xs : List D} {y : D} : inA y (.lst xs) = inD y (.lst xs) := rfl
theorem inA_t {xs : List D} {y : D} : inA y (.tup xs) = inD y (.tup xs) := rfl
theorem inA_s {x : Str} {y : D} : inA y (.str x) = inD y (.str x) := rfl
theorem notInA_l {xs : List D} {y : D} : notInA y (.lst xs) = notInD y (.lst xs) := rfl
theorem notInA_t {xs : List D} {y : D} : notInA y (.tup xs) = notInD y (.tup xs) := rfl
theorem notInA_s {x : Str} {y : D} : notInA y (.str x) = notInD y (.str x) := rfl
theorem any_int (x : Int) : ∀ l : List Int, ((l.map D.int).any fun z => deq z (.int x)) = decide (x ∈ l)
  | [] => by simp
  | y :: l => by
    rw [List.map_cons, List.any_cons, any_int x l]
    have e : deq (.int y) (.int x) = decide (x = y) := by
      simp only [deq]
      by_cases h : x = y
      · subst h; simp
      · rw [decide_eq_false h]; exact beq_eq_false_iff_ne.mpr fun z => h z.symm
    rw [e]
    by_cases h : x = y <;> simp [h]
theorem flat_ints : ∀ l : List Int, (l.map D.int).all flatD = true
  | [] => rfl
  | y :: l => by rw [List.map_cons, List.all_cons, flat_ints l]; rfl
theorem k_inI {x : Int} {l : List Int} {Q : D → Prop} : Ok (inD (.int x) (.lst (l.map .int))) Q ↔ Q (.bl (decide (x ∈ l))) := by
  have e : inD (.int x) (.lst (l.map .int)) = .ok (.bl (decide (x ∈ l))) := by
    simp only [inD, inD', flat_ints, any_int, flatD, Bool.and_self, if_true]
  rw [e, ok_ok]
theorem k_inIT {x : Int} {l : List Int} {Q : D → Prop} : Ok (inD (.int x) (.tup (l.map .int))) Q ↔ Q (.bl (decide (x ∈ l))) := by
  have e : inD (.int x) (.tup (l.map .int)) = .ok (.bl (decide (x ∈ l))) := by
    simp only [inD, inD', flat_ints, any_int, flatD, Bool.and_self, if_true]
  rw [e, ok_ok]
theorem k_ninI {x : Int} {l : List Int} {Q : D → Prop} : Ok (notInD (.int x) (.lst (l.map .int))) Q ↔ Q (.bl (!decide (x ∈ l))) := by
  have e : notInD (.int x) (.lst (l.map .int)) = .ok (.bl (!decide (x ∈ l))) := by
    simp only [notInD, inD', flat_ints, any_int, flatD, Bool.and_self, if_true]
  rw [e, ok_ok]
theorem k_ninIT {x : Int} {l : List Int} {Q : D → Prop} : Ok (notInD (.int x) (.tup (l.map .int))) Q ↔ Q (.bl (!decide (x ∈ l))) := by
  have e : notInD (.int x) (.tup (l.map .int)) = .ok (.bl (!decide (x ∈ l))) := by
    simp only [notInD, inD', flat_ints, any_int, flatD, Bool.and_self, if_true]
  rw [e, ok_ok]
abbrev ile (a b : Int) : Bool := decide (a ≤ b)
theorem dle_int (a b : Int) : dle (.int a) (.int b) = decide (a ≤ b) := by
  unfold dle dlt
  simp only [D.toP, PySem.W.dataLt, PySem.W.keyToks]
  by_cases h : b = a
  · subst h
    rw [lex_self]
    simp [PyProof.Rows.lexLt]
  · rw [lex_diff (O := itemOrd) (by simpa using h)]
    have : itemOrd.blt (.inl b) (.inl a) = decide (b < a) := rfl
    rw [this]
    by_cases h2 : b < a
    · rw [decide_eq_true h2, decide_eq_false (by omega)]; rfl
    · rw [decide_eq_false h2, decide_eq_true (by omega)]; rfl
theorem srt_int (l : List Int) : srt (l.map .int) = (l.mergeSort ile).map .int := by
  rw [srt_map]
  congr 2
  funext a b
  exact dle_int a b
theorem doks_int (n : Nat) (l : List Int) : doks n (l.map .int) = true := doks_map _ _ _ fun x _ => by cases n <;> simp [dok]
theorem srtOk_int (l : List Int) : srtOk (l.map .int) = true := by
  unfold srtOk
  rw [doks_int]
  simp [List.all_eq_true, alikeD, srtItem]
theorem k_srtI {l : List Int} {Q : D → Prop} : Ok (srtAD (.lst (l.map .int))) Q ↔ Q (.lst ((l.mergeSort ile).map .int)) := by
  have e : srtAD (.lst (l.map .int)) = .ok (.lst ((l.mergeSort ile).map .int)) := by simp only [srtAD, srtOk_int, if_true, srt_int]
  rw [e, ok_ok]
theorem k_srtIT {l : List Int} {Q : D → Prop} : Ok (srtAD (.tup (l.map .int))) Q ↔ Q (.lst ((l.mergeSort ile).map .int)) := by
  have e : srtAD (.tup (l.map .int)) = .ok (.lst ((l.mergeSort ile).map .int)) := by simp only [srtAD, srtOk_int, if_true, srt_int]
  rw [e, ok_ok]
abbrev T3 := Int × Int × Int
def tD (e : T3) : D := .tup [.int e.1, .int e.2.1, .int e.2.2]
def tlt (a b : T3) : Prop := a.1 < b.1 ∨ a.1 = b.1 ∧ (a.2.1 < b.2.1 ∨ a.2.1 = b.2.1 ∧ a.2.2 < b.2.2)
instance (a b : T3) : Decidable (tlt a b) := by unfold tlt; infer_instance
def tle (a b : T3) : Bool := !decide (tlt b a)
theorem dle_t (a b : T3) : dle (tD a) (tD b) = tle a b := by
  unfold dle dlt tle
  congr 1
  simp only [tD, D.toP, D.toPs, PySem.W.dataLt, PySem.W.keyToks, PySem.W.keyToksAll, List.cons_append, List.nil_append]
  have I : ∀ (x y : Int), itemOrd.blt (.inl x) (.inl y) = decide (x < y) := fun _ _ => rfl
  obtain ⟨a1, a2, a3⟩ := a
  obtain ⟨b1, b2, b3⟩ := b
  rw [lex_self]
  unfold tlt
  by_cases h1 : b1 = a1
  · subst h1
    rw [lex_self, lex_self]
    by_cases h2 : b2 = a2
    · subst h2
      rw [lex_self, lex_self]
      by_cases h3 : b3 = a3
      · subst h3; rw [lex_self, lex_self, PyProof.Rows.lexLt]; symm; exact decide_eq_false (by dsimp only; omega)
      · rw [lex_diff (O := itemOrd) (by simpa using h3), I]
        exact decide_eq_decide.mpr (by dsimp only; omega)
    · rw [lex_diff (O := itemOrd) (by simpa using h2), I]
      exact decide_eq_decide.mpr (by dsimp only; omega)
  · rw [lex_diff (O := itemOrd) (by simpa using h1), I]
    exact decide_eq_decide.mpr (by dsimp only; omega)
theorem tlt_ne {a b : T3} (h : tlt a b) : a ≠ b := by rintro rfl; unfold tlt at h; omega
theorem tle_tr (a b c : T3) (h1 : tle a b = true) (h2 : tle b c = true) : tle a c = true := by
  simp only [tle, Bool.not_eq_true', decide_eq_false_iff_not] at *
  unfold tlt at *; omega
theorem tle_to (a b : T3) : (tle a b || tle b a) = true := by
  simp only [tle, Bool.or_eq_true, Bool.not_eq_true', decide_eq_false_iff_not]
  unfold tlt; omega
theorem tle_lt {a b : T3} (h : tle a b = true) (hn : a ≠ b) : tlt a b := by
  simp only [tle, Bool.not_eq_true', decide_eq_false_iff_not] at h
  unfold tlt at *
  obtain ⟨a1, a2, a3⟩ := a
  obtain ⟨b1, b2, b3⟩ := b
  simp only [ne_eq, Prod.mk.injEq, not_and] at *
  omega
theorem tst_strict {l : List T3} (h : l.Nodup) : (l.mergeSort tle).Pairwise tlt := by
  have h1 := List.pairwise_mergeSort tle_tr tle_to l
  have h2 : (l.mergeSort tle).Nodup := (List.mergeSort_perm l tle).nodup_iff.mpr h
  exact (h1.and h2).imp fun ⟨a, b⟩ => tle_lt a b
theorem srt_t (l : List T3) : srt (l.map tD) = (l.mergeSort tle).map tD := by
  rw [srt_map]
  congr 2
  funext a b
  exact dle_t a b
theorem doks_t (n : Nat) (l : List T3) : doks (n + 1) (l.map tD) = true := doks_map _ _ _ fun x _ => by cases n <;> simp [tD, dok, doks]
theorem srtOk_t (l : List T3) : srtOk (l.map tD) = true := by
  unfold srtOk
  rw [doks_t]
  simp [List.all_eq_true, tD, alikeD, alikeDs, srtItem]
theorem k_srtT {l : List T3} {Q : D → Prop} : Ok (srtAD (.lst (l.map tD))) Q ↔ Q (.lst ((l.mergeSort tle).map tD)) := by
  have e : srtAD (.lst (l.map tD)) = .ok (.lst ((l.mergeSort tle).map tD)) := by simp only [srtAD, srtOk_t, if_true, srt_t]
  rw [e, ok_ok]
theorem k_gT3 {e : T3} {r : FGs} {S : M.Env} {QE : M.Env → Prop} : Ok (gT 3 r (tD e) S) QE ↔ Ok (r [.int e.1, .int e.2.1, .int e.2.2] S) QE := by
  show Ok (gT 3 r (.tup [.int e.1, .int e.2.1, .int e.2.2]) S) QE ↔ _
  rw [k_gT]; simp
theorem k_tupD {e : T3} {Q : D → Prop} : Ok (tupD (tD e)) Q ↔ Q (tD e) := ok_ok
theorem asI_t : ∀ (l : List T3), l ≠ [] → asI (l.map tD) = none
  | [], h => absurd rfl h
  | e :: l, _ => rfl
theorem asTs_t : ∀ l : List T3, asTs (l.map tD) = some (l.map fun e => [e.1, e.2.1, e.2.2])
  | [] => rfl
  | e :: l => by
    rw [List.map_cons, asTs, asTs_t l]
    rfl
theorem nd_nubG {κ : Type} [DecidableEq κ] {l : List κ} (h : l.Nodup) : (nubG l).length = l.length := (M.nub_len h fun x => Iff.rfl).symm
theorem nd_map {α β : Type} (f : α → β) {l : List α} (h : l.Nodup) (i : ∀ a ∈ l, ∀ b ∈ l, f a = f b → a = b) : (l.map f).Nodup := by
  rw [List.Nodup, List.pairwise_map]
  refine List.Pairwise.imp_of_mem ?_ h
  intro a b ha hb hn e
  exact hn (i a ha b hb e)
theorem lenSet_T {l : List T3} (h : l.Nodup) (hl : l.length ≤ 300) (hn : l ≠ []) : lenSetD (.tup (l.map tD)) = .ok (.int l.length) := by
  simp only [lenSetD, asI_t l hn, asTs_t]
  rw [if_pos (by rw [List.length_map]; exact hl), nd_nubG (nd_map _ h fun a _ b _ e => by
    obtain ⟨a1, a2, a3⟩ := a
    obtain ⟨b1, b2, b3⟩ := b
    simpa using e), List.length_map]
theorem asI_int (l : List Int) : asI (l.map D.int) = some l := by have := asI_mapf (fun i : Int => i) l; simpa using this
theorem lenSet_i {l : List Int} (h : l.Nodup) (hl : l.length ≤ 1000) : lenSetD (.tup (l.map .int)) = .ok (.int l.length) := by
  simp only [lenSetD, asI_int]
  rw [if_pos hl, nd_nubG h]
theorem strict_nd {l : List Int} (h : l.Pairwise (· < ·)) : l.Nodup := h.imp fun h e => by omega
theorem tstrict_nd {l : List T3} (h : l.Pairwise tlt) : l.Nodup := h.imp fun h e => tlt_ne h e
end Pf
set_option Elab.async false
set_option linter.all false
set_option maxRecDepth 100000
namespace Pf
open M PySem L2
section
variable {Q : D → Prop} {QB : Bool → Prop} {QL : List D → Prop} {QS : Fl × M.Env → Prop} {S : M.Env} {f g h : FE} {t : FT} {fa fk : FA} {s r : FS} {i j ci : Nat} {d x y : D}
theorem k_guardX {QS : Fl × M.Env → Prop} {c : Nat} : Ok (sIf t (sExc0 c) sNil S) QS ↔ Ok (t S) fun b => b = false ∧ QS (.nx, S) := by
  rw [k_if]
  apply iff_of_eq
  congr 1
  funext b
  have e : Ok (sExc0 c S) QS ↔ False := ⟨fun ⟨_, e, _⟩ => (nomatch e), False.elim⟩
  cases b <;> simp [k_nil, e]
theorem k_truT {xs : List D} : Ok (truD (.tup xs)) QB ↔ QB (!xs.isEmpty) := ok_ok
theorem k_truL {xs : List D} : Ok (truD (.lst xs)) QB ↔ QB (!xs.isEmpty) := ok_ok
theorem k_truI {n : Int} : Ok (truD (.int n)) QB ↔ QB (n != 0) := ok_ok
def getOr (d y z : D) : R D := match dlook d y with
  | some (some r) => .ok r
  | some none => .ok z
  | none => .fail
theorem k_eGet2 : Ok (eGet2 f g h S) Q ↔ Ok (f S) fun d => isDct d = true ∧ Ok (g S) fun y => Ok (h S) fun z => Ok (getOr d y z) Q := by
  unfold eGet2
  simp only [ok_bind]
  apply iff_of_eq
  congr 1
  funext d
  by_cases hd : isDct d = true
  · rw [if_pos hd]; simp only [hd, true_and, ok_bind]; rfl
  · rw [if_neg hd, ok_fail]; simp [hd]
theorem k_putA : Ok (sPutA i f g S) QS ↔ Ok (ownD i S) fun m => Ok (g S) fun d => Ok (f S) fun y => Ok (putA i S m d y) QS := by
  unfold sPutA; simp only [ok_bind]
theorem oD_z {l : List (Option Sl)} : Ok (ownD 0 (some ⟨true, d⟩ :: l)) Q ↔ Q d := ok_ok
theorem oD_s {a : Option Sl} {l : List (Option Sl)} : Ok (ownD (i + 1) (a :: l)) Q ↔ Ok (ownD i l) Q := Iff.rfl
theorem k_putK {ks : List Key} {ds : List D} {n : Int} : Ok (putA i S (.dic ks ds) d (.int n)) QS ↔ (ks.Nodup ∧ ks.length < sizeLine) ∧ QS (.nx, S.set i (some ⟨true, .dic (putL ks ds (.inl n) d).1 (putL ks ds (.inl n) d).2⟩)) := by
  show Ok (if _ then _ else _) QS ↔ _; rw [ok_if, ok_ok]
theorem k_putS {ks : List Key} {ds : List D} {n : Str} : Ok (putA i S (.dic ks ds) d (.str n)) QS ↔ (ks.Nodup ∧ ks.length < sizeLine) ∧ QS (.nx, S.set i (some ⟨true, .dic (putL ks ds (.inr n) d).1 (putL ks ds (.inr n) d).2⟩)) := by
  show Ok (if _ then _ else _) QS ↔ _; rw [ok_if, ok_ok]
theorem keyT_2 {a b : Int} : keyT (.tup [.int a, .int b]) = some [.inl a, .inl b] := by
  show (if 1 < 2 ∧ 2 < 4 ∧ ([.int a, .int b] : List D).all isStrD = false then keysD [.int a, .int b] else none) = _
  rw [if_pos (by refine ⟨?_, ?_, rfl⟩ <;> decide)]; rfl
theorem k_putT2 {ks : List (List Key)} {ds : List D} {a b : Int} : Ok (putA i S (.dit ks ds) d (.tup [.int a, .int b])) QS ↔ (ks.Nodup ∧ ks.length < sizeLine) ∧ QS (.nx, S.set i (some ⟨true, .dit (putL ks ds [.inl a, .inl b] d).1 (putL ks ds [.inl a, .inl b] d).2⟩)) := by
  unfold putA
  simp only [keyT_2]
  rw [ok_if, ok_ok]
theorem k_addT {a b : List D} : Ok (addD (.tup a) (.tup b)) Q ↔ a.length + b.length ≤ sizeLine ∧ Q (.tup (a ++ b)) := by show Ok (if _ then _ else _) Q ↔ _; rw [ok_if, ok_ok]
theorem k_addLL {a b : List D} : Ok (addD (.lst a) (.lst b)) Q ↔ a.length + b.length ≤ sizeLine ∧ Q (.lst (a ++ b)) := by show Ok (if _ then _ else _) Q ↔ _; rw [ok_if, ok_ok]
theorem k_CX {o : List D → R D} : Ok (eCX o fa S) Q ↔ Ok (fa S) fun xs => Ok (o xs) Q := by unfold eCX; simp only [ok_bind]
theorem k_CXK {o : List D → R D} : Ok (eCXK o fa fk S) Q ↔ Ok (fa S) fun xs => Ok (fk S) fun ys => Ok (o (xs ++ ys)) Q := by unfold eCXK; simp only [ok_bind]
theorem k_MX {den : List D → R D} : Ok (eMX ci den f fa S) Q ↔ Ok (f S) fun o => o.isObj ci = true ∧ Ok (fa S) fun ds => Ok (den (o :: ds)) Q := by unfold eMX; simp only [ok_bind, ok_if]
theorem k_lstL {xs : List D} : Ok (lstD (.lst xs)) Q ↔ Q (.lst xs) := ok_ok
theorem k_lstT {xs : List D} : Ok (lstD (.tup xs)) Q ↔ Q (.lst xs) := ok_ok
theorem k_boolL {xs : List D} : Ok (boolD (.lst xs)) Q ↔ Q (.bl (!xs.isEmpty)) := ok_ok
theorem k_boolT {xs : List D} : Ok (boolD (.tup xs)) Q ↔ Q (.bl (!xs.isEmpty)) := ok_ok
theorem k_lstE {out : List D} : Ok (lstE out) Q ↔ out.length ≤ sizeLine ∧ Q (.lst out) := by unfold lstE; rw [ok_if, ok_ok]
theorem k_LM {den : List D → R (List D)} : Ok (eLM ci den f fa S) Q ↔ Ok (f S) fun o => o.isObj ci = true ∧ Ok (fa S) fun ds => Ok (den (o :: ds)) fun out => Ok (lstE out) Q := by
  unfold eLM; simp only [ok_bind, ok_if, ok_nox]
theorem k_hasB {n b : Bool} : Ok (hasB n (.bl b)) Q ↔ Q (.bl (b != n)) := ok_ok
theorem k_eHas {den : List D → R D} {n : Bool} : Ok (eHas ci den n f g S) Q ↔ Ok (f S) fun x => Ok (g S) fun o => o.isObj ci = true ∧ Ok (den [o, x]) fun d => Ok (hasB n d) Q := by
  unfold eHas; simp only [ok_bind, ok_if, ok_nox]
theorem k_parO : Ok (sParO i j f g S) QS ↔ Ok (f S) fun d => Ok (g S) fun e => QS (.nx, (S.set i (some ⟨true, d⟩)).set j (some ⟨true, e⟩)) := by unfold sParO; simp only [ok_bind, ok_ok]
end
def seqD (t : Bool) (xs : List D) : D := if t then .tup xs else .lst xs
theorem k_itemsQ {t : Bool} {xs : List D} {QL : List D → Prop} : Ok (itemsD (seqD t xs)) QL ↔ QL xs := by cases t <;> exact ok_ok
theorem k_lenQ {t : Bool} {xs : List D} {Q : D → Prop} : Ok (lenD (seqD t xs)) Q ↔ Q (.int xs.length) := by cases t <;> exact ok_ok
theorem k_ixQ {t : Bool} {xs : List D} {n : Int} {Q : D → Prop} : Ok (ixA (seqD t xs) (.int n)) Q ↔ ∃ d, L2.atI xs n = some d ∧ Q d := by
  cases t
  · exact k_ixL
  · exact k_ixT
theorem k_srtQ {t : Bool} {l : List Int} {Q : D → Prop} : Ok (srtAD (seqD t (l.map .int))) Q ↔ Q (.lst ((l.mergeSort ile).map .int)) := by
  cases t
  · exact k_srtI
  · exact k_srtIT
theorem atI_last {α : Type} {xs : List α} (h : xs ≠ []) : ∃ a, L2.atI xs (-1) = some a ∧ a ∈ xs := by
  have hl : 0 < xs.length := List.length_pos_iff.mpr h
  have e : ∃ a, L2.atI xs (-1) = some a := by
    unfold L2.atI ixN
    rw [if_neg (by decide), if_pos (by omega)]
    exact ⟨xs[(-1 + (xs.length : Int)).toNat]'(by omega), List.getElem?_eq_getElem _⟩
  obtain ⟨a, e⟩ := e
  exact ⟨a, e, atI_mem e⟩
theorem k_Sl {f : FE} {l h : FO} {S : M.Env} {Q : D → Prop} : Ok (eSl f l h S) Q ↔ Ok (f S) fun x => Ok (l S) fun lo => Ok (h S) fun hi => Ok (slD x lo hi) Q := by
  unfold eSl; simp only [ok_bind, ok_nox]
theorem k_oN {S : M.Env} {Q : Option Int → Prop} : Ok (oN S) Q ↔ Q none := ok_ok
theorem k_oS {f : FE} {S : M.Env} {Q : Option Int → Prop} : Ok (oS f S) Q ↔ Ok (f S) fun d => Ok (toI d) Q := by unfold oS; rw [ok_bind]
theorem k_toI {i : Int} {Q : Option Int → Prop} : Ok (toI (.int i)) Q ↔ Q (some i) := ok_ok
theorem k_slL {xs : List D} {lo hi : Option Int} {Q : D → Prop} : Ok (slD (.lst xs) lo hi) Q ↔ Q (.lst (M.cutL xs lo hi)) := ok_ok
theorem k_slT {xs : List D} {lo hi : Option Int} {Q : D → Prop} : Ok (slD (.tup xs) lo hi) Q ↔ Q (.tup (M.cutL xs lo hi)) := ok_ok
theorem cut_map {α β : Type} (f : α → β) (xs : List α) (lo hi : Option Int) : M.cutL (xs.map f) lo hi = (M.cutL xs lo hi).map f := by
  unfold M.cutL
  rw [List.length_map, List.map_take, List.map_drop]
theorem cut_take {α : Type} {xs : List α} {j : Int} (h : 0 ≤ j) : M.cutL xs none (some j) = xs.take j.toNat := by
  unfold M.cutL
  obtain ⟨k, rfl⟩ : ∃ k : Nat, j = k := ⟨j.toNat, by omega⟩
  rw [HT.sIx_none, List.drop_zero, Nat.sub_zero, HT.sIx_nat, Int.toNat_natCast]
  by_cases hl : k ≤ xs.length
  · rw [Nat.min_eq_left hl]
  · rw [Nat.min_eq_right (by omega), List.take_length, List.take_of_length_le (by omega)]
theorem cut_drop {α : Type} {xs : List α} {j : Int} (h : 0 ≤ j) : M.cutL xs (some j) none = xs.drop j.toNat := by
  unfold M.cutL
  obtain ⟨k, rfl⟩ : ∃ k : Nat, j = k := ⟨j.toNat, by omega⟩
  rw [HT.sIx_none, HT.sIx_nat, Int.toNat_natCast]
  by_cases hl : k ≤ xs.length
  · rw [Nat.min_eq_left hl, List.take_of_length_le (by rw [List.length_drop]; omega)]
  · rw [Nat.min_eq_right (by omega), Nat.sub_self, List.take_zero, List.drop_eq_nil_of_le (by omega)]
theorem take_mapD {α β : Type} (f : α → β) (xs : List α) (n : Nat) : (xs.map f).take n = (xs.take n).map f := List.map_take.symm
theorem drop_mapD {α β : Type} (f : α → β) (xs : List α) (n : Nat) : (xs.map f).drop n = (xs.drop n).map f := List.map_drop.symm
theorem dec_self {α : Type} [DecidableEq α] (a : α) : decide (a = a) = true := decide_eq_true rfl
theorem sz0 : (0 ≤ sizeLine) = True := eq_true (Nat.le_trans (by omega) size_ge)
theorem sz1 : (1 ≤ sizeLine) = True := eq_true (Nat.le_trans (by omega) size_ge)
theorem sz2 : (2 ≤ sizeLine) = True := eq_true (Nat.le_trans (by omega) size_ge)
theorem sz3 : (3 ≤ sizeLine) = True := eq_true (Nat.le_trans (by omega) size_ge)
theorem sz4 : (4 ≤ sizeLine) = True := eq_true (Nat.le_trans (by omega) size_ge)
theorem sz5 : (5 ≤ sizeLine) = True := eq_true (Nat.le_trans (by omega) size_ge)
theorem sz6 : (6 ≤ sizeLine) = True := eq_true (Nat.le_trans (by omega) size_ge)
theorem sz7 : (7 ≤ sizeLine) = True := eq_true (Nat.le_trans (by omega) size_ge)
theorem sz8 : (8 ≤ sizeLine) = True := eq_true (Nat.le_trans (by omega) size_ge)
theorem sz9 : (9 ≤ sizeLine) = True := eq_true (Nat.le_trans (by omega) size_ge)
end Pf
set_option Elab.async false
set_option linter.all false
set_option maxRecDepth 100000
set_option maxHeartbeats 0
namespace Pf
open PySem L2 M
theorem facts {P : Program} {w : World} {K : PySem.W.Frag} {h : Heap} {mg : Str → Option Value} {f : Addr} (hP0 : ((P.main.file : Str) == "/claim/cut.py") = true) (hT0 : (P.main.scope.names.lookup ("super" : Str)).isSome = false) (X : K.In h) (Gn : h.Ns mainGlobals mg) (hfa : mg ("law" : Str) = some (.ref f)) (cz : SaysV fv fn w K) :
    ∃ fd : FuncData, (∀ (s : Shared) (v : Value), BindsTo s fd ⟨[v], []⟩ [("_law_script", v)]) ∧ ∀ base : Heap, K.In base → base.Ns mainGlobals mg → FnOk P w K mg base CX0 6 f fd ["_law_script"] (SpF ⟨K, clK K⟩ false 1 d_law) := by
  have cv := cz
  have cz := cv.z
  have c := cz.y
  have B : Bt mg := ⟨He.free_ok X Gn (c.fact 15 (f := .free "ValueError") rfl), He.free_ok X Gn (c.fact 16 (f := .free "abs") rfl), He.free_ok X Gn (c.fact 17 (f := .free "all") rfl), He.free_ok X Gn (c.fact 18 (f := .free "any") rfl), He.free_ok X Gn (c.fact 19 (f := .free "enumerate") rfl), He.free_ok X Gn (c.fact 20 (f := .free "int") rfl), He.free_ok X Gn (c.fact 21 (f := .free "isinstance") rfl), He.free_ok X Gn (c.fact 22 (f := .free "len") rfl), He.free_ok X Gn (c.fact 23 (f := .free "list") rfl), He.free_ok X Gn (c.fact 24 (f := .free "max") rfl), He.free_ok X Gn (c.fact 25 (f := .free "min") rfl), He.free_ok X Gn (c.fact 26 (f := .free "range") rfl), He.free_ok X Gn (c.fact 27 (f := .free "set") rfl), He.free_ok X Gn (c.fact 28 (f := .free "sorted") rfl), He.free_ok X Gn (c.fact 29 (f := .free "sum") rfl), He.free_ok X Gn (c.fact 30 (f := .free "tuple") rfl)⟩
  have q_Task : mg "Task" = some (.ref (He.ga K "Task")) := He.glo_ok X Gn (c.fact 31 (f := .glo "Task") rfl)
  have k_Task : clK K 4 = some (He.ga K "Task", (["nodes", "edges", "steady", "caps"] : List Str)) := rfl
  have cc_Task : Cls K (He.ga K "Task") := He.cls_ok (c.fact 32 (f := .cls "Task") rfl)
  have mk_Task : Mk K (He.ga K "Task") (He.ma K (He.ga K "Task") "__init__") := He.mkr_ok (c.fact 33 (f := .mkr "Task") rfl)
  have C_Task : ClsI K ⟨K, clK K⟩ 4 (["nodes", "edges", "steady", "caps"] : List Str) := ⟨⟨_, k_Task, cc_Task, fun z hz => by
    simp only [List.mem_cons, List.not_mem_nil, or_false] at hz
    rcases hz with rfl | rfl | rfl | rfl
    · exact He.noat_ok (c.fact 34 (f := .noat "Task" "nodes") rfl)
    · exact He.noat_ok (c.fact 35 (f := .noat "Task" "edges") rfl)
    · exact He.noat_ok (c.fact 36 (f := .noat "Task" "steady") rfl)
    · exact He.noat_ok (c.fact 37 (f := .noat "Task" "caps") rfl)⟩, by decide +kernel, by decide⟩
  have g_Task : Gc mg ⟨K, clK K⟩ "Task" (.cls 4) := gcls_ok q_Task k_Task
  have q_Choice : mg "Choice" = some (.ref (He.ga K "Choice")) := He.glo_ok X Gn (c.fact 38 (f := .glo "Choice") rfl)
  have k_Choice : clK K 5 = some (He.ga K "Choice", (["order", "rules"] : List Str)) := rfl
  have cc_Choice : Cls K (He.ga K "Choice") := He.cls_ok (c.fact 39 (f := .cls "Choice") rfl)
  have mk_Choice : Mk K (He.ga K "Choice") (He.ma K (He.ga K "Choice") "__init__") := He.mkr_ok (c.fact 40 (f := .mkr "Choice") rfl)
  have C_Choice : ClsI K ⟨K, clK K⟩ 5 (["order", "rules"] : List Str) := ⟨⟨_, k_Choice, cc_Choice, fun z hz => by
    simp only [List.mem_cons, List.not_mem_nil, or_false] at hz
    rcases hz with rfl | rfl
    · exact He.noat_ok (c.fact 41 (f := .noat "Choice" "order") rfl)
    · exact He.noat_ok (c.fact 42 (f := .noat "Choice" "rules") rfl)⟩, by decide +kernel, by decide⟩
  have g_Choice : Gc mg ⟨K, clK K⟩ "Choice" (.cls 5) := gcls_ok q_Choice k_Choice
  have q_Supply : mg "Supply" = some (.ref (He.ga K "Supply")) := He.glo_ok X Gn (c.fact 43 (f := .glo "Supply") rfl)
  have k_Supply : clK K 3 = some (He.ga K "Supply", (["size", "steps", "starts", "moves"] : List Str)) := rfl
  have cc_Supply : Cls K (He.ga K "Supply") := He.cls_ok (c.fact 44 (f := .cls "Supply") rfl)
  have mk_Supply : Mk K (He.ga K "Supply") (He.ma K (He.ga K "Supply") "__init__") := He.mkr_ok (c.fact 45 (f := .mkr "Supply") rfl)
  have C_Supply : ClsI K ⟨K, clK K⟩ 3 (["size", "steps", "starts", "moves"] : List Str) := ⟨⟨_, k_Supply, cc_Supply, fun z hz => by
    simp only [List.mem_cons, List.not_mem_nil, or_false] at hz
    rcases hz with rfl | rfl | rfl | rfl
    · exact He.noat_ok (c.fact 46 (f := .noat "Supply" "size") rfl)
    · exact He.noat_ok (c.fact 47 (f := .noat "Supply" "steps") rfl)
    · exact He.noat_ok (c.fact 48 (f := .noat "Supply" "starts") rfl)
    · exact He.noat_ok (c.fact 49 (f := .noat "Supply" "moves") rfl)⟩, by decide +kernel, by decide⟩
  have g_Supply : Gc mg ⟨K, clK K⟩ "Supply" (.cls 3) := gcls_ok q_Supply k_Supply
  have q_Core : mg "Core" = some (.ref (He.ga K "Core")) := He.glo_ok X Gn (c.fact 50 (f := .glo "Core") rfl)
  have k_Core : clK K 6 = some (He.ga K "Core", (["supply", "tasks", "choice", "door", "guard", "weight", "parties"] : List Str)) := rfl
  have cc_Core : Cls K (He.ga K "Core") := He.cls_ok (c.fact 51 (f := .cls "Core") rfl)
  have mk_Core : Mk K (He.ga K "Core") (He.ma K (He.ga K "Core") "__init__") := He.mkr_ok (c.fact 52 (f := .mkr "Core") rfl)
  have C_Core : ClsI K ⟨K, clK K⟩ 6 (["supply", "tasks", "choice", "door", "guard", "weight", "parties"] : List Str) := ⟨⟨_, k_Core, cc_Core, fun z hz => by
    simp only [List.mem_cons, List.not_mem_nil, or_false] at hz
    rcases hz with rfl | rfl | rfl | rfl | rfl | rfl | rfl
    · exact He.noat_ok (c.fact 53 (f := .noat "Core" "supply") rfl)
    · exact He.noat_ok (c.fact 54 (f := .noat "Core" "tasks") rfl)
    · exact He.noat_ok (c.fact 55 (f := .noat "Core" "choice") rfl)
    · exact He.noat_ok (c.fact 56 (f := .noat "Core" "door") rfl)
    · exact He.noat_ok (c.fact 57 (f := .noat "Core" "guard") rfl)
    · exact He.noat_ok (c.fact 58 (f := .noat "Core" "weight") rfl)
    · exact He.noat_ok (c.fact 59 (f := .noat "Core" "parties") rfl)⟩, by decide +kernel, by decide⟩
  have g_Core : Gc mg ⟨K, clK K⟩ "Core" (.cls 6) := gcls_ok q_Core k_Core
  have q_InvalidTask : mg "InvalidTask" = some (.ref (He.ga K "InvalidTask")) := He.glo_ok X Gn (c.fact 61 (f := .glo "InvalidTask") rfl)
  have k_InvalidTask : clK K 204 = some (He.ga K "InvalidTask", ([] : List Str)) := rfl
  have g_InvalidTask : Gc mg ⟨K, clK K⟩ "InvalidTask" (.cls 204) := gcls_ok q_InvalidTask k_InvalidTask
  have q_InvalidChoice : mg "InvalidChoice" = some (.ref (He.ga K "InvalidChoice")) := He.glo_ok X Gn (c.fact 62 (f := .glo "InvalidChoice") rfl)
  have k_InvalidChoice : clK K 205 = some (He.ga K "InvalidChoice", ([] : List Str)) := rfl
  have g_InvalidChoice : Gc mg ⟨K, clK K⟩ "InvalidChoice" (.cls 205) := gcls_ok q_InvalidChoice k_InvalidChoice
  have q_InvalidSupply : mg "InvalidSupply" = some (.ref (He.ga K "InvalidSupply")) := He.glo_ok X Gn (c.fact 63 (f := .glo "InvalidSupply") rfl)
  have k_InvalidSupply : clK K 202 = some (He.ga K "InvalidSupply", ([] : List Str)) := rfl
  have g_InvalidSupply : Gc mg ⟨K, clK K⟩ "InvalidSupply" (.cls 202) := gcls_ok q_InvalidSupply k_InvalidSupply
  have q_InvalidCore : mg "InvalidCore" = some (.ref (He.ga K "InvalidCore")) := He.glo_ok X Gn (c.fact 64 (f := .glo "InvalidCore") rfl)
  have k_InvalidCore : clK K 206 = some (He.ga K "InvalidCore", ([] : List Str)) := rfl
  have g_InvalidCore : Gc mg ⟨K, clK K⟩ "InvalidCore" (.cls 206) := gcls_ok q_InvalidCore k_InvalidCore
  have q_TooLarge : mg "TooLarge" = some (.ref (He.ga K "TooLarge")) := He.glo_ok X Gn (c.fact 65 (f := .glo "TooLarge") rfl)
  have k_TooLarge : clK K 212 = some (He.ga K "TooLarge", (["bound"] : List Str)) := rfl
  have g_TooLarge : Gc mg ⟨K, clK K⟩ "TooLarge" (.cls 212) := gcls_ok q_TooLarge k_TooLarge
  have q_BreachError : mg "BreachError" = some (.ref (He.ga K "BreachError")) := He.glo_ok X Gn (c.fact 66 (f := .glo "BreachError") rfl)
  have k_BreachError : clK K 200 = some (He.ga K "BreachError", ([] : List Str)) := rfl
  have g_BreachError : Gc mg ⟨K, clK K⟩ "BreachError" (.cls 200) := gcls_ok q_BreachError k_BreachError
  have R_InvalidTask : RaO K mg ⟨K, clK K⟩ "InvalidTask" 204 := raO_ok (c.fact 67 (f := .exc "InvalidTask") rfl) q_InvalidTask k_InvalidTask
  have R_InvalidChoice : RaO K mg ⟨K, clK K⟩ "InvalidChoice" 205 := raO_ok (c.fact 70 (f := .exc "InvalidChoice") rfl) q_InvalidChoice k_InvalidChoice
  have R_InvalidSupply : RaO K mg ⟨K, clK K⟩ "InvalidSupply" 202 := raO_ok (c.fact 73 (f := .exc "InvalidSupply") rfl) q_InvalidSupply k_InvalidSupply
  have R_InvalidCore : RaO K mg ⟨K, clK K⟩ "InvalidCore" 206 := raO_ok (c.fact 76 (f := .exc "InvalidCore") rfl) q_InvalidCore k_InvalidCore
  have sk_TooLarge := cv.sx 0 (s := sx_TooLarge) rfl
  obtain ⟨sT_TooLarge, sk1_TooLarge, sk2_TooLarge, sk3_TooLarge⟩ := sup_ok sk_TooLarge.1 sk_TooLarge.2 hP0 hT0 ⟨_, _, _, _, _, _, _, _, _, rfl, rfl, ⟨_, _, _, _, rfl⟩, trivial⟩ (by decide +kernel) (by decide) rfl rfl (fun _ _ _ _ _ _ _ us hus => match us, hus with | [_, _], _ => BindsTo.of_eq rfl) rfl rfl (by decide +kernel) rfl rfl rfl (by decide +kernel)
  have R_TooLarge : RaI P K mg ⟨K, clK K⟩ "TooLarge" 212 ["bound"] := ⟨_, _, k_TooLarge, by decide, by decide, sT_TooLarge, q_TooLarge, sk1_TooLarge, sk2_TooLarge, sk3_TooLarge⟩
  have Y_BreachError : TryC K mg ⟨K, clK K⟩ "BreachError" mt_BreachError := tryC_ok q_BreachError fun p hp => by
    simp only [List.mem_cons, List.not_mem_nil, or_false] at hp
    rcases hp with rfl | rfl | rfl | rfl | rfl
    · exact ⟨_, _, k_InvalidTask, He.exm_ok (c.fact 68 (f := .exm "InvalidTask" "BreachError" true) rfl)⟩
    · exact ⟨_, _, k_InvalidChoice, He.exm_ok (c.fact 71 (f := .exm "InvalidChoice" "BreachError" true) rfl)⟩
    · exact ⟨_, _, k_InvalidSupply, He.exm_ok (c.fact 74 (f := .exm "InvalidSupply" "BreachError" true) rfl)⟩
    · exact ⟨_, _, k_InvalidCore, He.exm_ok (c.fact 77 (f := .exm "InvalidCore" "BreachError" true) rfl)⟩
    · exact ⟨_, _, k_TooLarge, He.exm_ok (c.fact 79 (f := .exm "TooLarge" "BreachError" true) rfl)⟩
  have Y_TooLarge : TryC K mg ⟨K, clK K⟩ "TooLarge" mt_TooLarge := tryC_ok q_TooLarge fun p hp => by
    simp only [List.mem_cons, List.not_mem_nil, or_false] at hp
    rcases hp with rfl | rfl | rfl | rfl | rfl
    · exact ⟨_, _, k_InvalidTask, He.exm_ok (c.fact 69 (f := .exm "InvalidTask" "TooLarge" false) rfl)⟩
    · exact ⟨_, _, k_InvalidChoice, He.exm_ok (c.fact 72 (f := .exm "InvalidChoice" "TooLarge" false) rfl)⟩
    · exact ⟨_, _, k_InvalidSupply, He.exm_ok (c.fact 75 (f := .exm "InvalidSupply" "TooLarge" false) rfl)⟩
    · exact ⟨_, _, k_InvalidCore, He.exm_ok (c.fact 78 (f := .exm "InvalidCore" "TooLarge" false) rfl)⟩
    · exact ⟨_, _, k_TooLarge, He.exm_ok (c.fact 80 (f := .exm "TooLarge" "TooLarge" true) rfl)⟩
  have h0 : clK K xix = none := by rfl
  have F_TooLarge_bound : XfT K ⟨K, clK K⟩ 212 "bound" 0 := fld_ok (cv.xf 44 (f := .fld "TooLarge" "bound") rfl) k_TooLarge
  have hXT : ∀ ci t b, xtab ci t = some b → IsT K ⟨K, clK K⟩ ci t b := xtab_ok fun p hp => by
    simp only [List.mem_cons, List.not_mem_nil, or_false] at hp
    rcases hp with rfl | rfl | rfl | rfl | rfl | rfl | rfl | rfl | rfl | rfl | rfl | rfl | rfl | rfl | rfl | rfl | rfl | rfl | rfl | rfl | rfl | rfl | rfl | rfl | rfl | rfl | rfl | rfl | rfl | rfl | rfl | rfl | rfl | rfl | rfl
    · exact isT_ok (cv.xf 1 (f := .isT "InvalidTask" "InvalidTask" true) rfl) (cv.xf 0 (f := .ecc "InvalidTask") rfl) k_InvalidTask k_InvalidTask
    · exact isT_ok (cv.xf 2 (f := .isT "InvalidTask" "InvalidChoice" false) rfl) (cv.xf 0 (f := .ecc "InvalidTask") rfl) k_InvalidTask k_InvalidChoice
    · exact isT_ok (cv.xf 3 (f := .isT "InvalidTask" "InvalidCore" false) rfl) (cv.xf 0 (f := .ecc "InvalidTask") rfl) k_InvalidTask k_InvalidCore
    · exact isT_ok (cv.xf 4 (f := .isT "InvalidTask" "TooLarge" false) rfl) (cv.xf 0 (f := .ecc "InvalidTask") rfl) k_InvalidTask k_TooLarge
    · exact isT_ok (cv.xf 5 (f := .isT "InvalidTask" "InvalidSupply" false) rfl) (cv.xf 0 (f := .ecc "InvalidTask") rfl) k_InvalidTask k_InvalidSupply
    · exact isT_ok (cv.xf 6 (f := .isT "InvalidTask" "BreachError" true) rfl) (cv.xf 0 (f := .ecc "InvalidTask") rfl) k_InvalidTask k_BreachError
    · exact isTy_ok (cv.xf 7 (f := .isTy "InvalidTask" "ValueError" true) rfl) (cv.xf 0 (f := .ecc "InvalidTask") rfl) k_InvalidTask
    · exact isT_ok (cv.xf 9 (f := .isT "InvalidChoice" "InvalidTask" false) rfl) (cv.xf 8 (f := .ecc "InvalidChoice") rfl) k_InvalidChoice k_InvalidTask
    · exact isT_ok (cv.xf 10 (f := .isT "InvalidChoice" "InvalidChoice" true) rfl) (cv.xf 8 (f := .ecc "InvalidChoice") rfl) k_InvalidChoice k_InvalidChoice
    · exact isT_ok (cv.xf 11 (f := .isT "InvalidChoice" "InvalidCore" false) rfl) (cv.xf 8 (f := .ecc "InvalidChoice") rfl) k_InvalidChoice k_InvalidCore
    · exact isT_ok (cv.xf 12 (f := .isT "InvalidChoice" "TooLarge" false) rfl) (cv.xf 8 (f := .ecc "InvalidChoice") rfl) k_InvalidChoice k_TooLarge
    · exact isT_ok (cv.xf 13 (f := .isT "InvalidChoice" "InvalidSupply" false) rfl) (cv.xf 8 (f := .ecc "InvalidChoice") rfl) k_InvalidChoice k_InvalidSupply
    · exact isT_ok (cv.xf 14 (f := .isT "InvalidChoice" "BreachError" true) rfl) (cv.xf 8 (f := .ecc "InvalidChoice") rfl) k_InvalidChoice k_BreachError
    · exact isTy_ok (cv.xf 15 (f := .isTy "InvalidChoice" "ValueError" true) rfl) (cv.xf 8 (f := .ecc "InvalidChoice") rfl) k_InvalidChoice
    · exact isT_ok (cv.xf 17 (f := .isT "InvalidSupply" "InvalidTask" false) rfl) (cv.xf 16 (f := .ecc "InvalidSupply") rfl) k_InvalidSupply k_InvalidTask
    · exact isT_ok (cv.xf 18 (f := .isT "InvalidSupply" "InvalidChoice" false) rfl) (cv.xf 16 (f := .ecc "InvalidSupply") rfl) k_InvalidSupply k_InvalidChoice
    · exact isT_ok (cv.xf 19 (f := .isT "InvalidSupply" "InvalidCore" false) rfl) (cv.xf 16 (f := .ecc "InvalidSupply") rfl) k_InvalidSupply k_InvalidCore
    · exact isT_ok (cv.xf 20 (f := .isT "InvalidSupply" "TooLarge" false) rfl) (cv.xf 16 (f := .ecc "InvalidSupply") rfl) k_InvalidSupply k_TooLarge
    · exact isT_ok (cv.xf 21 (f := .isT "InvalidSupply" "InvalidSupply" true) rfl) (cv.xf 16 (f := .ecc "InvalidSupply") rfl) k_InvalidSupply k_InvalidSupply
    · exact isT_ok (cv.xf 22 (f := .isT "InvalidSupply" "BreachError" true) rfl) (cv.xf 16 (f := .ecc "InvalidSupply") rfl) k_InvalidSupply k_BreachError
    · exact isTy_ok (cv.xf 23 (f := .isTy "InvalidSupply" "ValueError" true) rfl) (cv.xf 16 (f := .ecc "InvalidSupply") rfl) k_InvalidSupply
    · exact isT_ok (cv.xf 25 (f := .isT "InvalidCore" "InvalidTask" false) rfl) (cv.xf 24 (f := .ecc "InvalidCore") rfl) k_InvalidCore k_InvalidTask
    · exact isT_ok (cv.xf 26 (f := .isT "InvalidCore" "InvalidChoice" false) rfl) (cv.xf 24 (f := .ecc "InvalidCore") rfl) k_InvalidCore k_InvalidChoice
    · exact isT_ok (cv.xf 27 (f := .isT "InvalidCore" "InvalidCore" true) rfl) (cv.xf 24 (f := .ecc "InvalidCore") rfl) k_InvalidCore k_InvalidCore
    · exact isT_ok (cv.xf 28 (f := .isT "InvalidCore" "TooLarge" false) rfl) (cv.xf 24 (f := .ecc "InvalidCore") rfl) k_InvalidCore k_TooLarge
    · exact isT_ok (cv.xf 29 (f := .isT "InvalidCore" "InvalidSupply" false) rfl) (cv.xf 24 (f := .ecc "InvalidCore") rfl) k_InvalidCore k_InvalidSupply
    · exact isT_ok (cv.xf 30 (f := .isT "InvalidCore" "BreachError" true) rfl) (cv.xf 24 (f := .ecc "InvalidCore") rfl) k_InvalidCore k_BreachError
    · exact isTy_ok (cv.xf 31 (f := .isTy "InvalidCore" "ValueError" true) rfl) (cv.xf 24 (f := .ecc "InvalidCore") rfl) k_InvalidCore
    · exact isT_ok (cv.xf 33 (f := .isT "TooLarge" "InvalidTask" false) rfl) (cv.xf 32 (f := .ecc "TooLarge") rfl) k_TooLarge k_InvalidTask
    · exact isT_ok (cv.xf 34 (f := .isT "TooLarge" "InvalidChoice" false) rfl) (cv.xf 32 (f := .ecc "TooLarge") rfl) k_TooLarge k_InvalidChoice
    · exact isT_ok (cv.xf 35 (f := .isT "TooLarge" "InvalidCore" false) rfl) (cv.xf 32 (f := .ecc "TooLarge") rfl) k_TooLarge k_InvalidCore
    · exact isT_ok (cv.xf 36 (f := .isT "TooLarge" "TooLarge" true) rfl) (cv.xf 32 (f := .ecc "TooLarge") rfl) k_TooLarge k_TooLarge
    · exact isT_ok (cv.xf 37 (f := .isT "TooLarge" "InvalidSupply" false) rfl) (cv.xf 32 (f := .ecc "TooLarge") rfl) k_TooLarge k_InvalidSupply
    · exact isT_ok (cv.xf 38 (f := .isT "TooLarge" "BreachError" true) rfl) (cv.xf 32 (f := .ecc "TooLarge") rfl) k_TooLarge k_BreachError
    · exact isTy_ok (cv.xf 39 (f := .isTy "TooLarge" "ValueError" true) rfl) (cv.xf 32 (f := .ecc "TooLarge") rfl) k_TooLarge
  have hd_Task : ∀ Gd, RDs ⟨K, clK K⟩ Gd [.bl false] [.bl false] := fun Gd => (.cons (.bl _) .nil)
  obtain ⟨cr_Task_plain, cm_Task_plain⟩ := cme_ok (cv.xf 40 (f := .cme "Task" "plain") rfl)
  obtain ⟨cr_Task_serving, cm_Task_serving⟩ := cme_ok (cv.xf 41 (f := .cme "Task" "serving") rfl)
  have hd_Supply : ∀ Gd, RDs ⟨K, clK K⟩ Gd [.tup [.int 0]] [.ref (kwAt (.met "Supply" "__init__") "starts" K)] := fun Gd => (.cons (dfl_ok (cv.xf 42 (f := .dfl (.met "Supply" "__init__") "starts" (.tup [.int 0])) rfl) Gd) .nil)
  obtain ⟨cr_Supply_always, cm_Supply_always⟩ := cme_ok (cv.xf 43 (f := .cme "Supply" "always") rfl)
  have hd_Core : ∀ Gd, RDs ⟨K, clK K⟩ Gd [.non, .str "shut", .str "cut"] [.non, .str "shut", .str "cut"] := fun Gd => (.cons .non (.cons (.str _) (.cons (.str _) .nil)))
  have g_MOST_NODES : Gc mg ⟨K, clK K⟩ "MOST_NODES" gv_MOST_NODES := gB_ok X Gn (c.gc 0 (f := ("MOST_NODES", gv_MOST_NODES)) rfl)
  have g_LONGEST_PLAN : Gc mg ⟨K, clK K⟩ "LONGEST_PLAN" gv_LONGEST_PLAN := gB_ok X Gn (c.gc 1 (f := ("LONGEST_PLAN", gv_LONGEST_PLAN)) rfl)
  have g_ENTRIES : Gc mg ⟨K, clK K⟩ "ENTRIES" gv_ENTRIES := gB_ok X Gn (c.gc 2 (f := ("ENTRIES", gv_ENTRIES)) rfl)
  have g_LONGEST_TIME : Gc mg ⟨K, clK K⟩ "LONGEST_TIME" gv_LONGEST_TIME := gB_ok X Gn (c.gc 3 (f := ("LONGEST_TIME", gv_LONGEST_TIME)) rfl)
  have g_ORDERS : Gc mg ⟨K, clK K⟩ "ORDERS" gv_ORDERS := gB_ok X Gn (c.gc 4 (f := ("ORDERS", gv_ORDERS)) rfl)
  have g_RULES : Gc mg ⟨K, clK K⟩ "RULES" gv_RULES := gB_ok X Gn (c.gc 5 (f := ("RULES", gv_RULES)) rfl)
  have g_MOST_STATES : Gc mg ⟨K, clK K⟩ "MOST_STATES" gv_MOST_STATES := gB_ok X Gn (c.gc 6 (f := ("MOST_STATES", gv_MOST_STATES)) rfl)
  have g_MOST_TASKS : Gc mg ⟨K, clK K⟩ "MOST_TASKS" gv_MOST_TASKS := gB_ok X Gn (c.gc 7 (f := ("MOST_TASKS", gv_MOST_TASKS)) rfl)
  have g_DOORS : Gc mg ⟨K, clK K⟩ "DOORS" gv_DOORS := gB_ok X Gn (c.gc 8 (f := ("DOORS", gv_DOORS)) rfl)
  have g_GUARDS : Gc mg ⟨K, clK K⟩ "GUARDS" gv_GUARDS := gB_ok X Gn (c.gc 9 (f := ("GUARDS", gv_GUARDS)) rfl)
  have g_MOST_WEIGHT : Gc mg ⟨K, clK K⟩ "MOST_WEIGHT" gv_MOST_WEIGHT := gB_ok X Gn (c.gc 10 (f := ("MOST_WEIGHT", gv_MOST_WEIGHT)) rfl)
  obtain ⟨fd_check_nodes, F_check_nodes⟩ := c.def_ 0 (d := dd_check_nodes) rfl
  obtain ⟨fd_check_edges, F_check_edges⟩ := c.def_ 1 (d := dd_check_edges) rfl
  obtain ⟨fd_Task, F_Task⟩ := c.def_ 2 (d := dd_Task) rfl
  obtain ⟨fd_Task_plain, F_Task_plain⟩ := c.def_ 3 (d := dd_Task_plain) rfl
  obtain ⟨fd_Task_serving, F_Task_serving⟩ := c.def_ 4 (d := dd_Task_serving) rfl
  obtain ⟨fd_Task_server, F_Task_server⟩ := c.def_ 5 (d := dd_Task_server) rfl
  obtain ⟨fd_Task_cap, F_Task_cap⟩ := c.def_ 6 (d := dd_Task_cap) rfl
  obtain ⟨fd_Choice, F_Choice⟩ := c.def_ 7 (d := dd_Choice) rfl
  obtain ⟨fd_check_supply, F_check_supply⟩ := c.def_ 8 (d := dd_check_supply) rfl
  obtain ⟨fd_moves_of, F_moves_of⟩ := c.def_ 9 (d := dd_moves_of) rfl
  obtain ⟨fd_Supply, F_Supply⟩ := c.def_ 10 (d := dd_Supply) rfl
  obtain ⟨fd_Supply_always, F_Supply_always⟩ := c.def_ 11 (d := dd_Supply_always) rfl
  obtain ⟨fd_weight_of, F_weight_of⟩ := c.def_ 12 (d := dd_weight_of) rfl
  obtain ⟨fd_Core, F_Core⟩ := c.def_ 13 (d := dd_Core) rfl
  obtain ⟨fd__law_cell, F__law_cell⟩ := c.def_ 14 (d := dd__law_cell) rfl
  obtain ⟨fd__law_draws, F__law_draws⟩ := c.def_ 15 (d := dd__law_draws) rfl
  obtain ⟨fd__law_kind, F__law_kind⟩ := c.def_ 16 (d := dd__law_kind) rfl
  obtain ⟨fd__law_task_refused, F__law_task_refused⟩ := c.def_ 17 (d := dd__law_task_refused) rfl
  obtain ⟨fd__law_choice_refused, F__law_choice_refused⟩ := c.def_ 18 (d := dd__law_choice_refused) rfl
  obtain ⟨fd__law_core_refused, F__law_core_refused⟩ := c.def_ 19 (d := dd__law_core_refused) rfl
  obtain ⟨fd__law_too_large, F__law_too_large⟩ := c.def_ 20 (d := dd__law_too_large) rfl
  obtain ⟨fd__law_long, F__law_long⟩ := c.def_ 21 (d := dd__law_long) rfl
  obtain ⟨fd__law_bad_tasks, F__law_bad_tasks⟩ := c.def_ 22 (d := dd__law_bad_tasks) rfl
  obtain ⟨fd_law, F_law⟩ := c.def_ 23 (d := dd_law) rfl
  have e := hfa.symm.trans (He.glo_ok X Gn (c.fact 14 (f := .glo "law") rfl))
  cases e
  have b := FunD.bindsA (ps := ["_law_script"]) F_law fun _ _ _ _ _ _ us hl => match us, hl with | [_], _ => rfl
  refine ⟨fd_law, fun s v => b s [v] rfl, fun base _ _ => ?_⟩
  have h_check_nodes : CalleeX P w K mg base ⟨K, clK K⟩ 1 "check_nodes" 1 false d_check_nodes := ok_check_nodes F_check_nodes (He.glo_ok X Gn (c.fact 0 (f := .glo "check_nodes") rfl)) B g_MOST_NODES R_InvalidTask g_LONGEST_PLAN g_ENTRIES g_LONGEST_TIME
  have h_check_edges : CalleeX P w K mg base ⟨K, clK K⟩ 1 "check_edges" 2 false d_check_edges := ok_check_edges F_check_edges (He.glo_ok X Gn (c.fact 1 (f := .glo "check_edges") rfl)) B R_InvalidTask g_LONGEST_TIME
  have mx_Task : MakerXK P w K mg base ⟨K, clK K⟩ 2 "Task" 4 2 ["steady"] d_Task := okk_Task hd_Task F_Task k_Task mk_Task q_Task B C_Task h_check_nodes h_check_edges R_InvalidTask
  have m_Task : MakerXD P w K mg base ⟨K, clK K⟩ 2 "Task" 4 2 [.bl false] d_Task := ok_Task hd_Task F_Task k_Task mk_Task q_Task B C_Task h_check_nodes h_check_edges R_InvalidTask
  have h_Task_plain : CmethX P w K mg base ⟨K, clK K⟩ 4 4 "plain" 4 false d_Task_plain := ok_Task_plain F_Task_plain k_Task cr_Task_plain cm_Task_plain B m_Task
  have h_Task_serving : CmethX P w K mg base ⟨K, clK K⟩ 4 4 "serving" 3 false d_Task_serving := ok_Task_serving F_Task_serving k_Task cr_Task_serving cm_Task_serving B mx_Task
  have h_Task_server : Prope P w K mg base ⟨K, clK K⟩ 1 4 "server" false d_Task_server := ok_Task_server F_Task_server k_Task cc_Task (proB_ok (c.pro 0 (f := ("Task", "server")) rfl)) B C_Task
  have h_Task_cap : Method P w K mg base ⟨K, clK K⟩ 1 4 "cap" 2 false d_Task_cap := ok_Task_cap F_Task_cap k_Task cc_Task (He.meth_ok (c.fact 60 (f := .meth "Task" "cap") rfl)) B C_Task
  have mS_Choice_ : MakerXS P w K mg base ⟨K, clK K⟩ 1 "Choice" 5 1 [] [] [] d_Choice := okS_Choice_ (fun _ => .nil) F_Choice k_Choice mk_Choice q_Choice B g_ORDERS R_InvalidChoice g_RULES C_Choice
  have mZ_Choice : MakerXZ P w K mg base ⟨K, clK K⟩ 1 "Choice" 5 [.str "first"] d_Choice := okZ_Choice F_Choice k_Choice mk_Choice q_Choice B g_ORDERS R_InvalidChoice g_RULES C_Choice
  have h_check_supply : CalleeX P w K mg base ⟨K, clK K⟩ 1 "check_supply" 3 false d_check_supply := ok_check_supply F_check_supply (He.glo_ok X Gn (c.fact 2 (f := .glo "check_supply") rfl)) B g_MOST_STATES R_InvalidSupply
  have h_moves_of : Callee P w K mg base ⟨K, clK K⟩ 1 "moves_of" 1 true d_moves_of := ok_moves_of F_moves_of (He.glo_ok X Gn (c.fact 3 (f := .glo "moves_of") rfl)) B 
  have mx_Supply : MakerXK P w K mg base ⟨K, clK K⟩ 2 "Supply" 3 2 ["starts"] d_Supply := okk_Supply hd_Supply F_Supply k_Supply mk_Supply q_Supply B C_Supply h_check_supply h_moves_of
  have m_Supply : MakerXD P w K mg base ⟨K, clK K⟩ 2 "Supply" 3 2 [.tup [.int 0]] d_Supply := ok_Supply hd_Supply F_Supply k_Supply mk_Supply q_Supply B C_Supply h_check_supply h_moves_of
  have h_Supply_always : CmethX P w K mg base ⟨K, clK K⟩ 4 3 "always" 1 false d_Supply_always := ok_Supply_always F_Supply_always k_Supply cr_Supply_always cm_Supply_always B m_Supply
  have h_weight_of : Callee P w K mg base ⟨K, clK K⟩ 2 "weight_of" 2 false d_weight_of := ok_weight_of F_weight_of (He.glo_ok X Gn (c.fact 4 (f := .glo "weight_of") rfl)) B C_Supply C_Task h_Task_cap
  have mS_Core_011 : MakerXS P w K mg base ⟨K, clK K⟩ 3 "Core" 6 1 [false, true, true] ["door", "guard"] [.non, .str "shut", .str "cut"] d_Core := okS_Core_011 hd_Core F_Core k_Core mk_Core q_Core B g_MOST_TASKS g_DOORS g_GUARDS R_InvalidCore C_Core mZ_Choice h_weight_of g_MOST_WEIGHT R_TooLarge
  have mS_Core_000 : MakerXS P w K mg base ⟨K, clK K⟩ 3 "Core" 6 1 [false, false, false] [] [.non, .str "shut", .str "cut"] d_Core := okS_Core_000 hd_Core F_Core k_Core mk_Core q_Core B g_MOST_TASKS g_DOORS g_GUARDS R_InvalidCore C_Core mZ_Choice h_weight_of g_MOST_WEIGHT R_TooLarge
  have h__law_cell : Callee P w K mg base ⟨K, clK K⟩ 1 "_law_cell" 2 false d__law_cell := ok__law_cell F__law_cell (He.glo_ok X Gn (c.fact 5 (f := .glo "_law_cell") rfl)) B 
  have h__law_draws : Callee P w K mg base ⟨K, clK K⟩ 2 "_law_draws" 3 true d__law_draws := ok__law_draws F__law_draws (He.glo_ok X Gn (c.fact 6 (f := .glo "_law_draws") rfl)) B h__law_cell
  have hE__law_kind : CalleeE P w K mg base ⟨K, clK K⟩ 1 "_law_kind" 1 d__law_kind := okE__law_kind F__law_kind (He.glo_ok X Gn (c.fact 7 (f := .glo "_law_kind") rfl)) B h0 hXT g_InvalidTask g_InvalidChoice g_InvalidCore g_TooLarge g_InvalidSupply g_BreachError
  have h__law_task_refused : Callee P w K mg base ⟨K, clK K⟩ 4 "_law_task_refused" 3 false d__law_task_refused := ok__law_task_refused F__law_task_refused (He.glo_ok X Gn (c.fact 8 (f := .glo "_law_task_refused") rfl)) B Y_BreachError h0 mx_Task hE__law_kind
  have h__law_choice_refused : Callee P w K mg base ⟨K, clK K⟩ 3 "_law_choice_refused" 3 false d__law_choice_refused := ok__law_choice_refused F__law_choice_refused (He.glo_ok X Gn (c.fact 9 (f := .glo "_law_choice_refused") rfl)) B Y_BreachError h0 mS_Choice_ hE__law_kind
  have h__law_core_refused : Callee P w K mg base ⟨K, clK K⟩ 5 "_law_core_refused" 5 false d__law_core_refused := ok__law_core_refused F__law_core_refused (He.glo_ok X Gn (c.fact 10 (f := .glo "_law_core_refused") rfl)) B Y_BreachError h0 mS_Core_011 hE__law_kind
  have h__law_too_large : Callee P w K mg base ⟨K, clK K⟩ 5 "_law_too_large" 2 false d__law_too_large := ok__law_too_large F__law_too_large (He.glo_ok X Gn (c.fact 11 (f := .glo "_law_too_large") rfl)) B Y_TooLarge h0 mS_Core_000 hE__law_kind F_TooLarge_bound
  have h__law_long : Callee P w K mg base ⟨K, clK K⟩ 4 "_law_long" 1 false d__law_long := ok__law_long F__law_long (He.glo_ok X Gn (c.fact 12 (f := .glo "_law_long") rfl)) B m_Supply
  have h__law_bad_tasks : Callee P w K mg base ⟨K, clK K⟩ 1 "_law_bad_tasks" 4 false d__law_bad_tasks := ok__law_bad_tasks F__law_bad_tasks (He.glo_ok X Gn (c.fact 13 (f := .glo "_law_bad_tasks") rfl)) B 
  exact ok_law F_law (He.glo_ok X Gn (c.fact 14 (f := .glo "law") rfl)) B h__law_draws m_Task C_Task h__law_bad_tasks h__law_task_refused h_Task_plain g_Task h_Task_serving h_Task_server mS_Choice_ C_Choice mZ_Choice h__law_choice_refused h__law_long mS_Core_000 C_Core h__law_too_large h__law_core_refused h_Supply_always g_Supply
end Pf
namespace Pf
open M PySem L2
local macro_rules
  | `(tactic| simp? only [$ls,*]) => `(tactic| (try simp only [↓k_guard, k_no, k_I, k_S, k_B, k_N, k_G, k_Y, k_V, k_W, k_O, g0_z, g0_s, gA_z, gA_s, g1_z, g1_s, k_1, k_2, k_n, k_c, k_T, k_L, k_C, k_f1, k_f2, k_App, k_M, k_P, k_3, k_tB, k_tT, k_toB, k_tNo, k_tA, k_tO, k_tY, k_And, k_Or, k_Not, k_eIf, k_nil, k_seq, k_set, k_own, k_drop, k_ret, k_retN, k_retO, k_if, k_fz, fz_z, fz_s, k_gN, k_gsN, k_gsC, k_gT, k_asg, k_for, k_fnil, k_fcons, k_app, oL_z, oL_s, k_par, k_run, k_runN, k_fld, oO_z, k_add, k_addL, k_sub, k_mul, k_div, k_mod, k_pow, k_neg, k_lt, k_le, k_gt, k_ge, k_eqI, k_neI, k_int, k_intB, k_abs, k_lenL, k_lenT, k_lenC, k_tru, k_tupL, k_tupT, k_items_l, k_items_t, k_rng1, k_ixL, k_ixT, k_ixC, k_fldD, ok_nox, ok_ok, ok_bind, List.set_cons_zero, List.set_cons_succ, startS, startN, List.map_cons, List.map_nil, List.cons_append, List.nil_append, List.append_nil, List.length_cons, List.length_nil, List.replicate, Nat.reduceSub, Nat.reduceAdd, Nat.reduceLeDiff, Nat.zero_add, true_and, and_true, false_implies, true_implies, implies_true, forall_const, reduceCtorEq, Bool.not_true, Bool.not_false, Bool.not_eq_true', ↓k_guardX, k_truT, k_truL, k_truI, k_eGet2, k_putA, oD_z, oD_s, k_putK, k_putS, k_putT2, k_addT, k_addLL, k_CX, k_CXK, k_MX, k_lstL, k_lstT, k_boolL, k_boolT, k_LM, k_lstE, k_hasB, k_eHas, k_itemsQ, k_lenQ, k_ixQ, k_srtQ, k_parO, k_aug, bothI_i, k_ext, ixA_l, ixA_t, ixA_c, inA_l, inA_t, inA_s, notInA_l, notInA_t, notInA_s, k_inI, k_inIT, k_ninI, k_ninIT, k_srtI, k_srtIT, k_isL, k_isT, k_isS, List.getElem?_cons_zero, List.getElem?_cons_succ, Option.some.injEq, exists_eq_left', k_Sl, k_oN, k_oS, k_toI, k_slL, k_slT, cut_map, take_mapD, drop_mapD, dec_self, decide_true, decide_false, wipeS, List.length_map, List.set_nil, sz0, sz1, sz2, sz3, sz4, sz5, sz6, sz7, sz8, sz9, $ls,*]))
local macro_rules
  | `(tactic| dsimp? only [$ls,*]) => `(tactic| (try simp only [↓k_guard, k_no, k_I, k_S, k_B, k_N, k_G, k_Y, k_V, k_W, k_O, g0_z, g0_s, gA_z, gA_s, g1_z, g1_s, k_1, k_2, k_n, k_c, k_T, k_L, k_C, k_f1, k_f2, k_App, k_M, k_P, k_3, k_tB, k_tT, k_toB, k_tNo, k_tA, k_tO, k_tY, k_And, k_Or, k_Not, k_eIf, k_nil, k_seq, k_set, k_own, k_drop, k_ret, k_retN, k_retO, k_if, k_fz, fz_z, fz_s, k_gN, k_gsN, k_gsC, k_gT, k_asg, k_for, k_fnil, k_fcons, k_app, oL_z, oL_s, k_par, k_run, k_runN, k_fld, oO_z, k_add, k_addL, k_sub, k_mul, k_div, k_mod, k_pow, k_neg, k_lt, k_le, k_gt, k_ge, k_eqI, k_neI, k_int, k_intB, k_abs, k_lenL, k_lenT, k_lenC, k_tru, k_tupL, k_tupT, k_items_l, k_items_t, k_rng1, k_ixL, k_ixT, k_ixC, k_fldD, ok_nox, ok_ok, ok_bind, List.set_cons_zero, List.set_cons_succ, startS, startN, List.map_cons, List.map_nil, List.cons_append, List.nil_append, List.append_nil, List.length_cons, List.length_nil, List.replicate, Nat.reduceSub, Nat.reduceAdd, Nat.reduceLeDiff, Nat.zero_add, true_and, and_true, false_implies, true_implies, implies_true, forall_const, reduceCtorEq, Bool.not_true, Bool.not_false, Bool.not_eq_true', $ls,*]))
set_option Elab.async false
set_option linter.all false
set_option maxRecDepth 100000
open M PySem L2
section
variable {s r : FS} {S : M.Env} {x : Exc} {t : FT} {f : FE} {fi : FI} {ga : FG} {fa fk : FA}
theorem x_seq1 (h : s S = .exc x) : sSeq s r S = .exc x := by unfold sSeq; rw [h]; rfl
theorem x_seq2 (h : Ok (s S) fun z => z.1 = .nx ∧ r z.2 = .exc x) : sSeq s r S = .exc x := by
  obtain ⟨z, e, h1, h2⟩ := h
  obtain ⟨fl, S1⟩ := z
  unfold sSeq
  rw [e]
  dsimp only at h1 h2
  subst h1
  exact h2
theorem x_if1 (h : Ok (t S) fun b => b = true) (h2 : s S = .exc x) : sIf t s r S = .exc x := by
  obtain ⟨b, e, rfl⟩ := h
  unfold sIf; rw [e]; exact h2
theorem x_for1 (h : Ok (fi S) fun ds => ∃ d q, ds = d :: q ∧ Ok (ga d S) fun S1 => s S1 = .exc x) : sFor fi ga s S = .exc x := by
  obtain ⟨ds, e, d, q, rfl, S1, e1, h2⟩ := h
  unfold sFor
  rw [e, R.ok_bind]
  show ((ga d S).nox >>= _) = _
  rw [e1]
  show (s S1 >>= _) = _
  rw [h2]; rfl
theorem x_runF {fr : Bool} {n : Nat} {ds : List D} (h : s (startS n ds) = .exc x) : runF fr n s ds = .exc x := by unfold runF; rw [h]; rfl
theorem x_drop (h : f S = .exc x) : sDrop f S = .exc x := by unfold sDrop; rw [h]; rfl
theorem x_CX {o : List D → R D} (h : Ok (fa S) fun xs => o xs = .exc x) : eCX o fa S = .exc x := by
  obtain ⟨xs, e, h⟩ := h
  unfold eCX; rw [e]; exact h
theorem x_CXK {o : List D → R D} (h : Ok (fa S) fun xs => Ok (fk S) fun ys => o (xs ++ ys) = .exc x) : eCXK o fa fk S = .exc x := by
  obtain ⟨xs, e, ys, e2, h⟩ := h
  unfold eCXK; rw [e, R.ok_bind, e2]; exact h
theorem x_CXS {n : Nat} {mask : List Bool} {dd : List D} {o : List D → R D} (h : Ok (fa S) fun as => Ok (fk S) fun bs => (n ≤ as.length ∧ as.length ≤ sizeLine) ∧ o (as.take n ++ mergeK mask dd bs ++ [.tup (as.drop n)]) = .exc x) : eCXS n mask dd o fa fk S = .exc x := by
  obtain ⟨as, e, bs, e2, h1, h2⟩ := h
  unfold eCXS; rw [e, R.ok_bind, e2, R.ok_bind, if_pos h1]; exact h2
theorem x_if {c : Nat} (h : Ok (t S) fun b => b = true) : sIf t (sExc0 c) sNil S = .exc ⟨c, []⟩ := x_if1 h rfl
end
theorem x_runN {n ci : Nat} {s : FS} {ds : List D} {x : Exc} (h : s (startN n ci ds) = .exc x) : M.runN n ci s ds = .exc x := by unfold M.runN; rw [h]; rfl
set_option Elab.async false
set_option linter.all false
set_option maxRecDepth 100000
open M PySem L2
abbrev Node := List Str × Int
abbrev Edge := Int × Int × Int
def ndD (n : Node) : D := nodeD n.1 n.2
def edD (e : Edge) : D := edgeD e.1 e.2.1 e.2.2
def elt (a b : Edge) : Prop := a.1 < b.1 ∨ a.1 = b.1 ∧ a.2.1 < b.2.1
structure TaskV (ns : List Node) (es : List Edge) (st : Bool) : Prop where
  n1 : 1 ≤ ns.length
  n2 : ns.length ≤ 2
  nd : ∀ n ∈ ns, Nd n.1 n.2
  ed : ∀ e ∈ es, 0 ≤ e.1 ∧ e.1 < ns.length ∧ 0 ≤ e.2.1 ∧ e.2.1 < ns.length ∧ e.2.2 ≤ 8 ∧ ∃ n, L2.atI ns e.1 = some n ∧ n.2 ≤ e.2.2
  so : es.Pairwise elt
  le : es.length ≤ 4
  st : st = true → ns.length = 1 ∧ es.length = 1
def taskO (ns : List Node) (es : List Edge) (st : Bool) (caps : D) : D := .obj 4 [.tup (ns.map ndD), .tup (es.map edD), .bl st, caps]
theorem strOk_en : ∀ e ∈ EN, PyData.strOk e = true := by decide +kernel
theorem k_gv1 : gv_MOST_NODES = .int 2 := rfl
theorem k_gv2 : gv_LONGEST_PLAN = .int 4 := rfl
theorem k_gv3 : gv_LONGEST_TIME = .int 8 := rfl
theorem notin_en {e : Str} (h : e ∈ EN) : notInA (.str e) gv_ENTRIES = .ok (.bl false) := by
  simp only [EN, List.mem_cons, List.not_mem_nil, or_false] at h
  rcases h with rfl | rfl | rfl | rfl | rfl | rfl | rfl | rfl <;> kernel_rfl
theorem k_gnd {n : Node} {r : FGs} {S : M.Env} {QE : M.Env → Prop} : Ok (gT 2 r (ndD n) S) QE ↔ Ok (r [planD n.1, .int n.2] S) QE := by
  show Ok (gT 2 r (.tup [planD n.1, .int n.2]) S) QE ↔ _
  rw [k_gT]; simp
theorem k_ged {n : Edge} {r : FGs} {S : M.Env} {QE : M.Env → Prop} : Ok (gT 3 r (edD n) S) QE ↔ Ok (r [.int n.1, .int n.2.1, .int n.2.2] S) QE := by
  show Ok (gT 3 r (.tup [.int n.1, .int n.2.1, .int n.2.2]) S) QE ↔ _
  rw [k_gT]; simp
theorem k_lenP {p : List Str} {Q : D → Prop} : Ok (lenD (planD p)) Q ↔ Q (.int p.length) := by
  show Ok (lenD (.tup (p.map .str))) Q ↔ _
  rw [k_lenT, List.length_map]
theorem k_itP {p : List Str} {Q : List D → Prop} : Ok (itemsD (planD p)) Q ↔ Q (p.map .str) := ok_ok
theorem p_check_nodes {ns : List Node} (h1 : 1 ≤ ns.length) (h2 : ns.length ≤ 2) (nd : ∀ n ∈ ns, Nd n.1 n.2) : Ok (d_check_nodes [.tup (ns.map ndD)]) fun d => d = .non := by
  have hs := size_ge
  unfold d_check_nodes m_check_nodes
  rw [k_run]
  have c1 : decide (1 ≤ (ns.length : Int)) = true := decide_eq_true (by omega)
  have c2 : decide ((ns.length : Int) ≤ 2) = true := decide_eq_true (by omega)
  simp? only [k_gv1, List.length_map, c1, c2]
  refine for_typed ndD (fun _ S => ∃ a b, S = [(some (Sl.mk false (.tup (ns.map ndD)))), a, b, none]) ns _ ⟨none, none, rfl⟩ ?_ ?_
  · rintro done x rest S e ⟨a, b, rfl⟩
    obtain ⟨ne, le, lo, hi, en⟩ := nd x (by rw [e]; simp)
    have c3 : decide (1 ≤ (x.1.length : Int)) = true := decide_eq_true (by omega)
    have c4 : decide ((x.1.length : Int) ≤ 4) = true := decide_eq_true (by omega)
    have c5 : decide ((x.1.length : Int) ≤ x.2) = true := decide_eq_true (by omega)
    have c6 : decide (x.2 ≤ 8) = true := decide_eq_true (by omega)
    simp? only [k_gnd, k_gv2, k_gv3, k_lenP, c3, c4, c5, c6]
    refine k_lcM D.str (fun _ => .bl false) x.1 (by simp? only [k_itP]) (by omega) ?_ ?_
    · intro e he
      simp? only [wipeS]
      rw [notin_en (en e he), ok_ok]
    · simp? only [k_any]
      exact ⟨by simp, _, _, rfl⟩
  · rintro S ⟨a, b, rfl⟩
    trivial
theorem nub_len : ∀ (ks acc : List (List Int)), ks.Nodup → (∀ k ∈ ks, k ∉ acc) → (ks.foldl nubT acc).length = acc.length + ks.length
  | [], acc, _, _ => by simp
  | k :: ks, acc, h, d => by
    rw [List.nodup_cons] at h
    have hk : k ∉ acc := d k (List.mem_cons_self ..)
    rw [List.foldl_cons, nubT, if_neg hk, nub_len ks (k :: acc) h.2 fun x hx hm => by
      rcases List.mem_cons.mp hm with rfl | hm
      · exact h.1 hx
      · exact d x (List.mem_cons_of_mem _ hx) hm]
    simp only [List.length_cons]; omega
theorem asTs_map {α : Type} (f : α → List Int) : ∀ xs : List α, asTs (xs.map fun x => .tup ((f x).map .int)) = some (xs.map f)
  | [] => rfl
  | x :: xs => by
    simp only [List.map_cons, asTs, asTs_map f xs]
    have : asT (.tup ((f x).map .int)) = some (f x) := by
      simp only [asT]
      have := asI_mapf (fun i : Int => i) (f x)
      simpa using this
    simp [this]
theorem k_ixnd {n : Node} {Q : D → Prop} : Ok (ixD (ndD n) (.int 1)) Q ↔ Q (.int n.2) := ok_ok
theorem ixA_nd {n : Node} {y : D} : ixA (ndD n) y = ixD (ndD n) y := rfl
theorem elt_ne {a b : Edge} (h : elt a b) : [a.1, a.2.1] ≠ [b.1, b.2.1] := by
  intro e
  simp only [List.cons.injEq, and_true] at e
  rcases h with h | h <;> omega
theorem p_check_edges {ns : List Node} {es : List Edge} {st : Bool} (v : TaskV ns es st) : Ok (d_check_edges [.tup (ns.map ndD), .tup (es.map edD)]) fun d => d = .non := by
  have hs := size_ge
  have hle := v.le
  unfold d_check_edges m_check_edges
  rw [k_run]
  refine Ok.mono (P := fun z => z.1 = .nx) ?_ fun z h => by rw [h]
  refine seq_cut (fun S => ∃ a b c, S = [(some (Sl.mk false (.tup (ns.map ndD)))), (some (Sl.mk false (.tup (es.map edD)))), a, b, c]) ?_ ?_
  · simp? only []
    refine for_typed edD (fun _ S => ∃ a b c, S = [(some (Sl.mk false (.tup (ns.map ndD)))), (some (Sl.mk false (.tup (es.map edD)))), a, b, c]) es _ ⟨none, none, none, rfl⟩ ?_ ?_
    · rintro done x rest S e ⟨a, b, c, rfl⟩
      obtain ⟨u0, u1, v0, v1, g8, n, hn, hg⟩ := v.ed x (by rw [e]; simp)
      have c1 : decide (0 ≤ x.1) = true := decide_eq_true u0
      have c2 : decide (x.1 < (ns.length : Int)) = true := decide_eq_true u1
      have c3 : decide (0 ≤ x.2.1) = true := decide_eq_true v0
      have c4 : decide (x.2.1 < (ns.length : Int)) = true := decide_eq_true v1
      have c5 : decide (n.2 ≤ x.2.2) = true := decide_eq_true hg
      have c6 : decide (x.2.2 ≤ 8) = true := decide_eq_true g8
      simp? only [k_ged, List.length_map, c1, c2, c3, c4, k_gv3]
      refine ⟨ndD n, by rw [atI_map, hn]; rfl, ?_⟩
      simp? only [ixA_nd, k_ixnd, c5, c6]
      exact ⟨_, _, _, rfl⟩
    · rintro S h
      exact ⟨rfl, h⟩
  · rintro S ⟨a, b, c, rfl⟩
    simp? only [List.length_map]
    have L : lenSc (fun S => (eV 1) S >>= itemsD) (gT 3 (gsC (gN 2) (gsC (gN 3) (gsC (gN 4) gsN)))) tY (eT (aC (eV 2) (aC (eV 3) aN))) [2, 3, 4] [(some (Sl.mk false (.tup (ns.map ndD)))), (some (Sl.mk false (.tup (es.map edD)))), a, b, c] = .ok (.int es.length) := by
      have e1 : lcF (gT 3 (gsC (gN 2) (gsC (gN 3) (gsC (gN 4) gsN)))) tY (eT (aC (eV 2) (aC (eV 3) aN))) (wipeS [(some (Sl.mk false (.tup (ns.map ndD)))), (some (Sl.mk false (.tup (es.map edD)))), a, b, c] [2, 3, 4]) (es.map edD) = .ok (es.map fun e => .tup ([e.1, e.2.1].map .int)) := by
        have := lc_typed (ga := gT 3 (gsC (gN 2) (gsC (gN 3) (gsC (gN 4) gsN)))) (t := tY) (fe := eT (aC (eV 2) (aC (eV 3) aN))) (S := wipeS [(some (Sl.mk false (.tup (ns.map ndD)))), (some (Sl.mk false (.tup (es.map edD)))), a, b, c] [2, 3, 4]) edD (fun _ => true) (fun e => .tup ([e.1, e.2.1].map .int)) es (fun x hx => by
          simp? only [k_ged, wipeS])
        rwa [filter_true fun _ _ => rfl] at this
      unfold lenSc
      show (if (es.map edD).length < 60 then _ else _) = _
      rw [if_pos (by rw [List.length_map]; omega), e1, R.ok_bind, asTs_map]
      show R.ok (D.int (nub (es.map fun e => [e.1, e.2.1])).length) = _
      unfold nub
      rw [nub_len _ [] ?_ (by simp)]
      · simp
      · rw [List.Nodup, List.pairwise_map]
        exact v.so.imp fun h => elt_ne h
    rw [L, ok_ok]
    simp? only []
    simp
set_option Elab.async false
set_option linter.all false
set_option maxRecDepth 100000
open M PySem L2
theorem dlt_ed {a b : Edge} (h : elt a b) : dlt (edD b) (edD a) = false := by
  unfold dlt edD edgeD
  simp only [D.toP, D.toPs, PySem.W.dataLt, PySem.W.keyToks, PySem.W.keyToksAll, List.cons_append, List.nil_append]
  rw [PyProof.Rows.lex_self]
  rcases h with h | ⟨h1, h2⟩
  · rw [PyProof.Rows.lex_diff (by intro e; injection e; omega)]
    exact decide_eq_false (by omega)
  · rw [h1, PyProof.Rows.lex_self, PyProof.Rows.lex_self, PyProof.Rows.lex_diff (by intro e; injection e; omega)]
    exact decide_eq_false (by omega)
theorem srt_ed {es : List Edge} (h : es.Pairwise elt) : srt (es.map edD) = es.map edD := by
  unfold srt
  refine List.mergeSort_of_pairwise ?_
  rw [List.pairwise_map]
  exact h.imp fun h => by unfold dle; rw [dlt_ed h]; rfl
theorem doks_ed : ∀ (es : List Edge), doks 59 (es.map edD) = true
  | [] => by simp [doks]
  | e :: es => by simp [doks, dok, edD, edgeD, doks_ed es]
theorem srtOk_ed (es : List Edge) : srtOk (es.map edD) = true := by
  unfold srtOk
  rw [doks_ed]
  simp [List.all_eq_true, edD, edgeD, alikeD, alikeDs, srtItem]
theorem k_srt {es : List Edge} (h : es.Pairwise elt) {Q : D → Prop} : Ok (srtAD (.lst (es.map edD))) Q ↔ Q (.lst (es.map edD)) := by
  have e : srtAD (.lst (es.map edD)) = .ok (.lst (es.map edD)) := by
    simp only [srtAD, srtOk_ed, if_true, srt_ed h]
  rw [e, ok_ok]
def enumP (n : Nat) : List Node → List (Nat × Node)
  | [] => []
  | x :: xs => (n, x) :: enumP (n + 1) xs
theorem enum_ns : ∀ (n : Nat) (ns : List Node), enumAt n (ns.map ndD) = (enumP n ns).map fun q => .tup [.int q.1, ndD q.2]
  | n, [] => rfl
  | n, x :: xs => by simp only [List.map_cons, enumAt, enumP, enum_ns (n + 1) xs]
theorem enumP_len : ∀ (n : Nat) (ns : List Node), (enumP n ns).length = ns.length
  | n, [] => rfl
  | n, x :: xs => by simp only [enumP, List.length_cons, enumP_len (n + 1) xs]
def capOf (es : List Edge) (q : Nat × Node) : Int := maxL (q.2.2 :: (es.filter fun e => decide (e.1 = (q.1 : Int))).map (·.2.2))
def capsOf (ns : List Node) (es : List Edge) : List Int := (enumP 0 ns).map (capOf es)
def ndR (q : Bool × Node) : D := .tup [seqD q.1 (q.2.1.map .str), .int q.2.2]
theorem k_tupQ {t : Bool} {xs : List D} {Q : D → Prop} : Ok (tupD (seqD t xs)) Q ↔ Q (.tup xs) := by cases t <;> exact ok_ok
theorem p_Task {rs : List (Bool × Node)} {ns : List Node} {raw es : List Edge} {st : Bool} (hrs : rs.map (·.2) = ns) (hraw : srtAD (.lst (raw.map edD)) = .ok (.lst (es.map edD))) (hrl : raw.length ≤ 4) (v : TaskV ns es st) : Ok (d_Task [.lst (rs.map ndR), .lst (raw.map edD), .bl st]) fun d => d = taskO ns es st (.tup ((capsOf ns es).map .int)) := by
  have hs := size_ge
  have hle := v.le
  have hn2 := v.n2
  unfold d_Task m_Task
  rw [k_runN]
  refine Ok.mono (P := fun z => z.1 = .nx ∧ ∃ S, z.2 = (some (Sl.mk true (taskO ns es st (.tup ((capsOf ns es).map .int))))) :: S) ?_ fun z ⟨h, S, hz⟩ => by rw [h, hz]; rfl
  refine seq_cut (fun S => S = [(some (Sl.mk true (.obj 4 [.tup (ns.map ndD)]))), (some (Sl.mk false (.lst (rs.map ndR)))), (some (Sl.mk false (.lst (raw.map edD)))), (some (Sl.mk false (.bl st))), none, none, none, none, none, none, none]) ?_ ?_
  · simp? only []
    have hrn : rs.length = ns.length := by rw [← hrs, List.length_map]
    refine k_lcM ndR (fun q => ndD q.2) rs (by simp? only []) (by omega) ?_ ?_
    · intro x hx
      show Ok (gT 2 (gsC (gN 4) (gsC (gN 5) gsN)) (.tup [seqD x.1 (x.2.1.map .str), .int x.2.2]) _) _
      simp? only [k_gT, wipeS, planD, k_tupQ]
      first | trivial | rfl | exact ⟨by omega, rfl⟩ | skip
    · simp? only []
      have e : rs.map (fun q => ndD q.2) = ns.map ndD := by rw [← hrs, List.map_map]; rfl
      rw [e]
  rintro S rfl
  refine seq_cut (fun S => S = [(some (Sl.mk true (.obj 4 [.tup (ns.map ndD), .tup (es.map edD)]))), (some (Sl.mk false (.lst (rs.map ndR)))), (some (Sl.mk false (.lst (raw.map edD)))), (some (Sl.mk false (.bl st))), none, none, none, none, none, none, none]) ?_ ?_
  · simp? only []
    refine k_lcM edD edD raw (by simp? only []) (by omega) ?_ ?_
    · intro x hx
      simp? only [wipeS]
      exact ok_ok.mpr rfl
    · simp? only [hraw]
  rintro S rfl
  refine seq_cut (fun S => S = [(some (Sl.mk true (.obj 4 [.tup (ns.map ndD), .tup (es.map edD), .bl st]))), (some (Sl.mk false (.lst (rs.map ndR)))), (some (Sl.mk false (.lst (raw.map edD)))), (some (Sl.mk false (.bl st))), none, none, none, none, none, none, none]) (by simp? only []) ?_
  rintro S rfl
  refine seq_cut (fun S => S = [(some (Sl.mk true (.obj 4 [.tup (ns.map ndD), .tup (es.map edD), .bl st]))), (some (Sl.mk false (.lst (rs.map ndR)))), (some (Sl.mk false (.lst (raw.map edD)))), (some (Sl.mk false (.bl st))), none, none, none, none, none, none, none]) ?_ ?_
  · simp? only []
    refine (p_check_nodes v.n1 v.n2 v.nd).mono fun d h => trivial
  rintro S rfl
  refine seq_cut (fun S => S = [(some (Sl.mk true (.obj 4 [.tup (ns.map ndD), .tup (es.map edD), .bl st]))), (some (Sl.mk false (.lst (rs.map ndR)))), (some (Sl.mk false (.lst (raw.map edD)))), (some (Sl.mk false (.bl st))), none, none, none, none, none, none, none]) ?_ ?_
  · simp? only []
    refine (p_check_edges v).mono fun d h => trivial
  rintro S rfl
  refine seq_cut (fun S => S = [(some (Sl.mk true (.obj 4 [.tup (ns.map ndD), .tup (es.map edD), .bl st]))), (some (Sl.mk false (.lst (rs.map ndR)))), (some (Sl.mk false (.lst (raw.map edD)))), (some (Sl.mk false (.bl st))), none, none, none, none, none, none, none]) ?_ ?_
  · simp? only []
    refine fun h => ?_
    obtain ⟨q1, q2⟩ := v.st h
    simp [q1, q2]
  rintro S rfl
  simp? only []
  refine k_lcM (fun q : Nat × Node => .tup [.int q.1, ndD q.2]) (fun q => .int (capOf es q)) (enumP 0 ns) ?_ (by rw [enumP_len]; omega) ?_ ?_
  · simp? only []
    refine ⟨_, rfl, ?_⟩
    exact enum_ns 0 ns
  · intro q hq
    simp? only [wipeS, k_gnd]
    refine k_lcT edD (fun e => decide (e.1 = (q.1 : Int))) (fun e => .int e.2.2) es ?_ (by omega) ?_ ?_
    · simp? only []
    · intro x hx
      simp? only [k_ged, wipeS]
    · simp? only [List.length_map]
      have hf : (es.filter fun e => decide (e.1 = (q.1 : Int))).length ≤ es.length := List.length_filter_le ..
      refine ⟨by omega, ?_⟩
      rw [k_maxc]
      rfl
  · simp? only []
    unfold taskO capsOf
    rw [List.map_map]
    exact ⟨_, rfl⟩
set_option Elab.async false
set_option linter.all false
set_option maxRecDepth 100000
open M PySem L2
abbrev e204 : Exc := ⟨204, []⟩
def BE : List Str := ["ba", "aa", "d", "A", " ", "abcd", "acb", "cc"]
theorem nin_be {e : Str} (h : e ∈ BE) : notInA (.str e) gv_ENTRIES = .ok (.bl true) := by
  simp only [BE, List.mem_cons, List.not_mem_nil, or_false] at h
  rcases h with rfl | rfl | rfl | rfl | rfl | rfl | rfl | rfl <;> kernel_rfl
def cnB : FS := (sSeq (sIf (tNo (tB' (e3 leD leD (eI (1)) (eC (f1 lenD) (aC (eW 1) aN)) (eG gv_LONGEST_PLAN)))) (sExc0 204) sNil)
    (sSeq (sIf (tT' (eC (f1 anyD) (aC (lcE (fun S => (eV 1) S >>= itemsD) (gN 3) tY (e2 notInA (eW 3) (eG gv_ENTRIES)) [3]) aN))) (sExc0 204) sNil)
    (sIf (tNo (tB' (e3 leD leD (eC (f1 lenD) (aC (eW 1) aN)) (eW 2) (eG gv_LONGEST_TIME)))) (sExc0 204) sNil)))
theorem cn_eq : m_check_nodes = sSeq (sIf (tNo (tB' (e3 leD leD (eI (1)) (eC (f1 lenD) (aC (eW 0) aN)) (eG gv_MOST_NODES)))) (sExc0 204) sNil) (sFor (fun S => (eV 0) S >>= itemsD) (gT 2 (gsC (gN 1) (gsC (gN 2) gsN))) cnB) := rfl
section
variable {a b c : Option Sl} {xs : List Str} {due : Int}
theorem cnB_len (h : decide (1 ≤ (xs.length : Int)) = false ∨ decide ((xs.length : Int) ≤ 4) = false) : cnB [a, (some (Sl.mk false (planD xs))), (some (Sl.mk false (.int due))), c] = .exc e204 := by
  refine x_seq1 (x_if ?_)
  simp? only [k_gv2, k_lenP]
  rcases h with h | h <;> simp [h]
theorem cnB_bad (h1 : 1 ≤ xs.length) (h2 : xs.length ≤ 4) (f : Str → Bool) (hf : ∀ e ∈ xs, notInA (.str e) gv_ENTRIES = .ok (.bl (f e))) (hb : xs.any f = true) : cnB [a, (some (Sl.mk false (planD xs))), (some (Sl.mk false (.int due))), c] = .exc e204 := by
  have hs := size_ge
  have c3 : decide (1 ≤ (xs.length : Int)) = true := decide_eq_true (by omega)
  have c4 : decide ((xs.length : Int) ≤ 4) = true := decide_eq_true (by omega)
  refine x_seq2 ?_
  simp? only [k_gv2, k_lenP, c3, c4]
  refine x_seq1 (x_if ?_)
  simp? only []
  refine k_lcM D.str (fun e => .bl (f e)) xs (by simp? only [k_itP]) (by omega) ?_ ?_
  · intro e he
    simp? only [wipeS]
    rw [hf e he, ok_ok]
  · simp? only [k_any]
    exact hb
theorem cnB_due (h1 : 1 ≤ xs.length) (h2 : xs.length ≤ 4) (hf : ∀ e ∈ xs, e ∈ EN) (h : decide ((xs.length : Int) ≤ due) = false ∨ decide (due ≤ 8) = false) : cnB [a, (some (Sl.mk false (planD xs))), (some (Sl.mk false (.int due))), c] = .exc e204 := by
  have hs := size_ge
  have c3 : decide (1 ≤ (xs.length : Int)) = true := decide_eq_true (by omega)
  have c4 : decide ((xs.length : Int) ≤ 4) = true := decide_eq_true (by omega)
  refine x_seq2 ?_
  simp? only [k_gv2, k_lenP, c3, c4]
  refine x_seq2 ?_
  simp? only []
  refine k_lcM D.str (fun _ => .bl false) xs (by simp? only [k_itP]) (by omega) ?_ ?_
  · intro e he
    simp? only [wipeS]
    rw [notin_en (hf e he), ok_ok]
  · simp? only [k_any]
    refine ⟨by simp, x_if ?_⟩
    simp? only [k_gv3, k_lenP]
    rcases h with h | h <;> simp [h]
end
theorem cn_x {n : Node} {ns : List Node} (hl : ns.length ≤ 1) (h : ∀ a c, cnB [a, (some (Sl.mk false (planD n.1))), (some (Sl.mk false (.int n.2))), c] = .exc e204) : d_check_nodes [.tup ((n :: ns).map ndD)] = .exc e204 := by
  have hs := size_ge
  refine x_runF ?_
  rw [cn_eq]
  refine x_seq2 ?_
  have c1 : decide (1 ≤ ((ns.length + 1 : Nat) : Int)) = true := decide_eq_true (by omega)
  have c2 : decide (((ns.length + 1 : Nat) : Int) ≤ 2) = true := decide_eq_true (by omega)
  simp? only [k_gv1, List.length_map, c1, c2]
  refine x_for1 ?_
  simp? only []
  refine ⟨_, _, rfl, ?_⟩
  simp? only [k_gnd]
  exact h _ _
theorem cn_0 : d_check_nodes [.tup (([] : List Node).map ndD)] = .exc e204 := rfl
theorem cn_3 {a b c : D} : d_check_nodes [.tup [a, b, c]] = .exc e204 := rfl
theorem task_x {rs : List (Bool × Node)} {ns : List Node} {raw es : List Edge} {st : Bool} {x : Exc} (hrs : rs.map (·.2) = ns) (hraw : srtAD (.lst (raw.map edD)) = .ok (.lst (es.map edD))) (hrl : raw.length ≤ 4) (hnl : rs.length ≤ 4)
    (h : d_check_nodes [.tup (ns.map ndD)] = .exc x ∨ (d_check_nodes [.tup (ns.map ndD)] = .ok .non ∧ (d_check_edges [.tup (ns.map ndD), .tup (es.map edD)] = .exc x ∨ (d_check_edges [.tup (ns.map ndD), .tup (es.map edD)] = .ok .non ∧ x = e204 ∧ st = true ∧ (ns.length ≠ 1 ∨ es.length ≠ 1))))) :
    d_Task [.lst (rs.map ndR), .lst (raw.map edD), .bl st] = .exc x := by
  have hs := size_ge
  refine x_runN ?_
  unfold m_Task
  have A : ∀ {r : FS} {S : M.Env}, r [(some (Sl.mk true (.obj 4 [.tup (ns.map ndD)]))), (some (Sl.mk false (.lst (rs.map ndR)))), (some (Sl.mk false (.lst (raw.map edD)))), (some (Sl.mk false (.bl st))), none, none, none, none, none, none, none] = .exc x → S = M.startN 11 4 [.lst (rs.map ndR), .lst (raw.map edD), .bl st] → sSeq (sFldN 4 0 0 (eC (f1 tupD) (aC (lcE (fun S => (eV 1) S >>= itemsD) (gT 2 (gsC (gN 4) (gsC (gN 5) gsN))) tY (eT (aC (eC (f1 tupD) (aC (eW 4) aN)) (aC (eV 5) aN))) [4, 5]) aN))) r S = .exc x := by
    rintro r S hr rfl
    refine x_seq2 ?_
    refine Ok.mono (P := fun z => z = (.nx, [(some (Sl.mk true (.obj 4 [.tup (ns.map ndD)]))), (some (Sl.mk false (.lst (rs.map ndR)))), (some (Sl.mk false (.lst (raw.map edD)))), (some (Sl.mk false (.bl st))), none, none, none, none, none, none, none])) ?_ (by rintro z rfl; exact ⟨rfl, hr⟩)
    simp? only []
    refine k_lcM ndR (fun q => ndD q.2) rs (by simp? only []) (by omega) ?_ ?_
    · intro x hx
      show Ok (gT 2 (gsC (gN 4) (gsC (gN 5) gsN)) (.tup [seqD x.1 (x.2.1.map .str), .int x.2.2]) _) _
      simp? only [k_gT, wipeS, planD, k_tupQ]
      first | trivial | rfl | exact ⟨by omega, rfl⟩ | skip
    · simp? only []
      have e : rs.map (fun q => ndD q.2) = ns.map ndD := by rw [← hrs, List.map_map]; rfl
      rw [e]
      first | rfl | trivial | skip
  refine A ?_ rfl
  refine x_seq2 ?_
  refine Ok.mono (P := fun z => z = (.nx, [(some (Sl.mk true (.obj 4 [.tup (ns.map ndD), .tup (es.map edD)]))), (some (Sl.mk false (.lst (rs.map ndR)))), (some (Sl.mk false (.lst (raw.map edD)))), (some (Sl.mk false (.bl st))), none, none, none, none, none, none, none])) ?_ ?_
  · simp? only []
    refine k_lcM edD edD raw (by simp? only []) (by omega) ?_ ?_
    · intro x hx
      simp? only [wipeS]
      exact ok_ok.mpr rfl
    · simp? only [hraw]
      first | rfl | trivial | skip
  rintro z rfl
  refine ⟨rfl, ?_⟩
  refine x_seq2 ?_
  simp? only []
  rcases h with h | ⟨h1, h⟩
  · refine x_seq1 (x_drop (x_CX ?_))
    simp? only []
    exact h
  refine x_seq2 ?_
  simp? only [h1]
  rcases h with h | ⟨h2, rfl, rfl, h3⟩
  · refine x_seq1 (x_drop (x_CX ?_))
    simp? only []
    exact h
  refine x_seq2 ?_
  simp? only [h2]
  refine x_seq1 (x_if ?_)
  simp? only [List.length_map]
  rcases h3 with h3 | h3 <;> simp [h3] <;> omega
set_option Elab.async false
set_option linter.all false
set_option maxRecDepth 100000
open M PySem L2
theorem ce_eq : m_check_edges = sSeq (sFor (fun S => (eV 1) S >>= itemsD) (gT 3 (gsC (gN 2) (gsC (gN 3) (gsC (gN 4) gsN)))) (sSeq (sIf (tO (tNo (tB' (e3 leD ltD (eI (0)) (eW 2) (eC (f1 lenD) (aC (eW 0) aN))))) (tNo (tB' (e3 leD ltD (eI (0)) (eW 3) (eC (f1 lenD) (aC (eW 0) aN)))))) (sExc0 204) sNil)
    (sIf (tNo (tB' (e3 leD leD (e2 ixA (e2 ixA (eW 0) (eW 2)) (eI (1))) (eW 4) (eG gv_LONGEST_TIME)))) (sExc0 204) sNil)))
    (sIf (tB' (e2 ltD (lenSc (fun S => (eV 1) S >>= itemsD) (gT 3 (gsC (gN 2) (gsC (gN 3) (gsC (gN 4) gsN)))) tY (eT (aC (eV 2) (aC (eV 3) aN))) [2, 3, 4]) (eC (f1 lenD) (aC (eW 1) aN)))) (sExc0 204) sNil) := rfl
theorem ce_node {n : Node} {g : Int} : d_check_edges [.tup [ndD n], .tup [edD (0, 1, g)]] = .exc e204 := rfl
theorem ce_neg {n : Node} {g : Int} : d_check_edges [.tup [ndD n], .tup [edD (-1, 0, g)]] = .exc e204 := rfl
theorem z00 : decide ((0 : Int) ≤ 0) = true := rfl
theorem z01 : decide ((0 : Int) < ((1 : Nat) : Int)) = true := rfl
theorem ce_gap {n : Node} {g : Int} (h : decide (n.2 ≤ g) = false ∨ decide (g ≤ 8) = false) : d_check_edges [.tup [ndD n], .tup [edD (0, 0, g)]] = .exc e204 := by
  refine x_runF ?_
  rw [ce_eq]
  refine x_seq1 (x_for1 ?_)
  simp? only []
  refine ⟨_, _, rfl, ?_⟩
  simp? only [k_ged]
  refine x_seq2 ?_
  simp? only [z00, z01]
  refine x_if ?_
  simp? only [k_gv3]
  refine ⟨ndD n, rfl, ?_⟩
  simp? only [ixA_nd, k_ixnd]
  rcases h with h | h <;> simp [h]
theorem ce_two {n : Node} (h : n.2 ≤ 8) : d_check_edges [.tup [ndD n], .tup [edD (0, 0, n.2), edD (0, 0, 8)]] = .exc e204 := by
  have c1 : decide (n.2 ≤ n.2) = true := decide_eq_true (Int.le_refl _)
  have c2 : decide (n.2 ≤ 8) = true := decide_eq_true h
  have c3 : decide ((8 : Int) ≤ 8) = true := rfl
  refine x_runF ?_
  rw [ce_eq]
  refine x_seq2 ?_
  refine Ok.mono (P := fun z => z.1 = .nx ∧ ∃ a b c, z.2 = [(some (Sl.mk false (.tup [ndD n]))), (some (Sl.mk false (.tup [edD (0, 0, n.2), edD (0, 0, 8)]))), a, b, c]) ?_ ?_
  · simp? only [k_ged, z00, z01, k_gv3]
    refine ⟨ndD n, rfl, ?_⟩
    simp? only [ixA_nd, k_ixnd, c1, c2, k_ged, z00, z01, k_gv3]
    refine ⟨ndD n, rfl, ?_⟩
    simp? only [ixA_nd, k_ixnd, c2, c3]
    first | exact ⟨_, _, _, rfl⟩ | skip
  · rintro ⟨fl, S⟩ ⟨h1, a, b, c, h2⟩
    dsimp only at h1 h2
    subst h1 h2
    refine ⟨rfl, x_if ?_⟩
    refine ⟨true, rfl, rfl⟩
set_option Elab.async false
set_option linter.all false
set_option maxRecDepth 100000
open M PySem L2
theorem try_x {mt : Nat → Option Bool} {i : Nat} {s : FS} {hnd : Exc → FS} {S : M.Env} {x : Exc} {r : R (Fl × M.Env)} (h0 : noOwn S = true) (h1 : s S = .exc x) (h2 : mt x.c = some true) (h3 : hndF (hnd x) (S.set i (some ⟨false, .cls xix⟩)) = .ok r') (h4 : r = .ok r') : sTryAs mt i s hnd S = r := by
  unfold sTryAs
  rw [if_pos h0, h1]
  dsimp only
  rw [h2, h4]
  exact h3
theorem p_refused {a b c : D} (ha : noOwn [(some (Sl.mk false (a))), (some (Sl.mk false (b))), (some (Sl.mk false (c))), none] = true) (h : d_Task [a, b, c] = .exc e204) : d__law_task_refused [a, b, c] = .ok (.bl true) := by
  unfold d__law_task_refused m__law_task_refused M.runF
  have e := try_x (mt := mt_BreachError) (i := 3) (s := sDrop (eCXK d_Task (aC (eV 0) (aC (eV 1) aN)) (aC (eV 2) aN))) (hnd := fun y => sRet (e2 eqD (eCHE y d__law_kind (aC (eV 3) aN)) (eL (aC (eB true) (aC (eB false) (aC (eB false) (aC (eB false) (aC (eB false) (aC (eB true) aN))))))))) (S := [(some (Sl.mk false (a))), (some (Sl.mk false (b))), (some (Sl.mk false (c))), none]) ha (x_drop (x_CXK (by simp? only []; exact h))) rfl (r' := (.rt (.bl true), [(some (Sl.mk false (a))), (some (Sl.mk false (b))), (some (Sl.mk false (c))), (some (Sl.mk false (.cls xix)))])) (by kernel_rfl) rfl
  show (endF false (sSeq _ _ [(some (Sl.mk false (a))), (some (Sl.mk false (b))), (some (Sl.mk false (c))), none])).nox = _
  unfold sSeq
  rw [e]
  rfl
def tk5 (ns : List Node) (es : List Edge) (st : Bool) : D := .tup [.lst (ns.map ndD), .lst (es.map edD), .bl st]
def bads (xs : List Str) (due gap : Int) (be : Str) (at_ : Nat) (d2 d3 : Int) : List (List Node × List Edge × Bool) :=
  [([], [(0, 0, gap)], false), ([(xs, due), (xs, due), (xs, due)], [(0, 0, gap)], false), ([([], due)], [(0, 0, gap)], false), ([(["", "a", "", "", "b"], 8)], [(0, 0, 8)], false),
   ([(xs.take at_ ++ [be] ++ xs.drop (at_ + 1), due)], [(0, 0, gap)], false), ([(xs, xs.length - 1)], [(0, 0, gap)], false), ([(xs, 9 + d2)], [(0, 0, 9 + d2)], false),
   ([(xs, due)], [(0, 1, gap)], false), ([(xs, due)], [(-1, 0, gap)], false), ([(xs, due)], [(0, 0, due - 1)], false), ([(xs, due)], [(0, 0, 9 + d3)], false),
   ([(xs, due)], [(0, 0, due), (0, 0, 8)], false), ([(xs, due), (xs, due)], [(0, 0, gap)], true), ([(xs, due)], [], true)]
theorem srt1 {e : Edge} : srtAD (.lst (([e] : List Edge).map edD)) = .ok (.lst (([e] : List Edge).map edD)) := by
  have := (k_srt (es := [e]) (by simp) (Q := fun d => d = .lst (([e] : List Edge).map edD))).mpr rfl
  obtain ⟨d, h, rfl⟩ := this
  exact h
theorem srt0 : srtAD (.lst (([] : List Edge).map edD)) = .ok (.lst (([] : List Edge).map edD)) := by
  have := (k_srt (es := []) (by simp) (Q := fun d => d = .lst (([] : List Edge).map edD))).mpr rfl
  obtain ⟨d, h, rfl⟩ := this
  exact h
theorem dle_e {a b : Int} (h : a ≤ b) : dle (edD (0, 0, a)) (edD (0, 0, b)) = true := by
  show dle (tD (0, 0, a)) (tD (0, 0, b)) = true
  rw [dle_t]
  unfold tle
  have hn : ¬ tlt (0, 0, b) (0, 0, a) := by unfold tlt; dsimp only; omega
  rw [decide_eq_false hn]; rfl
theorem srt2 {a b : Int} (h : a ≤ b) : srtAD (.lst (([(0, 0, a), (0, 0, b)] : List Edge).map edD)) = .ok (.lst (([(0, 0, a), (0, 0, b)] : List Edge).map edD)) := by
  have h0 := srtOk_ed ([(0, 0, a), (0, 0, b)] : List Edge)
  show (if srtOk (([(0, 0, a), (0, 0, b)] : List Edge).map edD) = true then R.ok (D.lst (srt (([(0, 0, a), (0, 0, b)] : List Edge).map edD))) else R.fail) = _
  rw [if_pos h0]
  have e : srt ([edD (0, 0, a), edD (0, 0, b)]) = [edD (0, 0, a), edD (0, 0, b)] := List.mergeSort_of_pairwise (by simp [dle_e h])
  exact congrArg (fun z => R.ok (D.lst z)) e
theorem bads_x {xs : List Str} {due gap d2 d3 : Int} {be : Str} {at_ : Nat} (n1 : 1 ≤ xs.length) (n2 : xs.length ≤ 4) (en : ∀ e ∈ xs, e ∈ EN) (hb : be ∈ BE) (ha : at_ < xs.length) (u1 : (xs.length : Int) ≤ due) (u2 : due ≤ 7) (g1 : due ≤ gap) (g2 : gap ≤ 8) (h2 : 0 ≤ d2) (h3 : 0 ≤ d3) :
    ∀ q ∈ bads xs due gap be at_ d2 d3, d_Task [.lst (q.1.map ndD), .lst (q.2.1.map edD), .bl q.2.2] = .exc e204 := by
  have mk : ∀ {ns : List Node} {es : List Edge} {st : Bool}, srtAD (.lst (es.map edD)) = .ok (.lst (es.map edD)) → es.length ≤ 4 → ns.length ≤ 4 → (d_check_nodes [.tup (ns.map ndD)] = .exc e204 ∨ (d_check_nodes [.tup (ns.map ndD)] = .ok .non ∧ (d_check_edges [.tup (ns.map ndD), .tup (es.map edD)] = .exc e204 ∨ (d_check_edges [.tup (ns.map ndD), .tup (es.map edD)] = .ok .non ∧ e204 = e204 ∧ st = true ∧ (ns.length ≠ 1 ∨ es.length ≠ 1))))) →
      d_Task [.lst (ns.map ndD), .lst (es.map edD), .bl st] = .exc e204 := by
    intro ns es st h1 h2 h3 h
    have := task_x (rs := ns.map (Prod.mk true)) (ns := ns) (raw := es) (es := es) (st := st) (x := e204) (by rw [List.map_map]; exact List.map_id _) h1 h2 (by rw [List.length_map]; exact h3) h
    rw [List.map_map] at this
    exact this
  have good : Nd xs due := ⟨n1, n2, u1, by omega, en⟩
  have cg : d_check_nodes [.tup (([(xs, due)] : List Node).map ndD)] = .ok .non := by
    obtain ⟨d, e, rfl⟩ := p_check_nodes (ns := [(xs, due)]) (by simp) (by simp) (by intro n hn; rw [List.mem_singleton] at hn; subst hn; exact good)
    exact e
  have cg2 : d_check_nodes [.tup (([(xs, due), (xs, due)] : List Node).map ndD)] = .ok .non := by
    obtain ⟨d, e, rfl⟩ := p_check_nodes (ns := [(xs, due), (xs, due)]) (by simp) (by simp) (by intro n hn; simp only [List.mem_cons, List.not_mem_nil, or_false, or_self] at hn; subst hn; exact good)
    exact e
  intro q hq
  simp only [bads, List.mem_cons, List.not_mem_nil, or_false] at hq
  rcases hq with rfl | rfl | rfl | rfl | rfl | rfl | rfl | rfl | rfl | rfl | rfl | rfl | rfl | rfl
  · exact mk srt1 (by simp) (by simp) (.inl cn_0)
  · exact mk srt1 (by simp) (by simp) (.inl cn_3)
  · exact mk srt1 (by simp) (by simp) (.inl (cn_x (by simp) fun a c => cnB_len (.inl rfl)))
  · exact mk srt1 (by simp) (by simp) (.inl (cn_x (by simp) fun a c => cnB_len (.inr rfl)))
  · have hl : (xs.take at_ ++ [be] ++ xs.drop (at_ + 1)).length = xs.length := by simp; omega
    refine mk srt1 (by simp) (by simp) (.inl (cn_x (by simp) fun a c => cnB_bad (by dsimp only; omega) (by dsimp only; omega) (fun e => decide (e ∈ BE)) ?_ ?_))
    · intro e he
      by_cases hx : e ∈ BE
      · rw [nin_be hx, decide_eq_true hx]
      · have : e ∈ EN := by
          simp only [List.append_assoc, List.mem_append, List.mem_singleton] at he
          rcases he with he | he | he
          · exact en e (List.mem_of_mem_take he)
          · exact absurd (he ▸ hb) hx
          · exact en e (List.mem_of_mem_drop he)
        rw [notin_en this, decide_eq_false hx]
    · simp [hb]
  · exact mk srt1 (by simp) (by simp) (.inl (cn_x (by simp) fun a c => cnB_due n1 n2 en (.inl (decide_eq_false (by dsimp only; omega)))))
  · exact mk srt1 (by simp) (by simp) (.inl (cn_x (by simp) fun a c => cnB_due n1 n2 en (.inr (decide_eq_false (by dsimp only; omega)))))
  · exact mk srt1 (by simp) (by simp) (.inr ⟨cg, .inl ce_node⟩)
  · exact mk srt1 (by simp) (by simp) (.inr ⟨cg, .inl ce_neg⟩)
  · exact mk srt1 (by simp) (by simp) (.inr ⟨cg, .inl (ce_gap (.inl (decide_eq_false (by dsimp only; omega))))⟩)
  · exact mk srt1 (by simp) (by simp) (.inr ⟨cg, .inl (ce_gap (.inr (decide_eq_false (by omega))))⟩)
  · exact mk (srt2 (by omega)) (by simp) (by simp) (.inr ⟨cg, .inl (ce_two (n := (xs, due)) (by dsimp only; omega))⟩)
  · refine mk srt1 (by simp) (by simp) (.inr ⟨cg2, .inr ⟨?_, rfl, rfl, .inl (by simp)⟩⟩)
    have v : TaskV [(xs, due), (xs, due)] [(0, 0, gap)] false := ⟨by simp, by simp, by intro n hn; simp only [List.mem_cons, List.not_mem_nil, or_false, or_self] at hn; subst hn; exact good, by
      intro e he; rw [List.mem_singleton] at he; subst he
      exact ⟨Int.le_refl _, by simp, Int.le_refl _, by simp, g2, _, rfl, g1⟩, by simp, by simp, by intro h; cases h⟩
    obtain ⟨d, e, rfl⟩ := p_check_edges v
    exact e
  · refine mk srt0 (by simp) (by simp) (.inr ⟨cg, .inr ⟨?_, rfl, rfl, .inr (by simp)⟩⟩)
    have v : TaskV [(xs, due)] [] false := ⟨by simp, by simp, by intro n hn; rw [List.mem_singleton] at hn; subst hn; exact good, fun e he => (nomatch he), by simp, by simp, by intro h; cases h⟩
    obtain ⟨d, e, rfl⟩ := p_check_edges v
    exact e
set_option Elab.async false
set_option linter.all false
set_option maxRecDepth 100000
open M PySem L2
def nxt (steps : List T3) (s b : Int) : List Int := (steps.filter fun e => decide (e.1 = s ∧ e.2.1 = b)).map (·.2.2)
def getTu (o : Option D) : List D := match o with | some (.tup xs) => xs | _ => []
def mvStep (z : List (List Key) × List D) (e : T3) : List (List Key) × List D :=
  putL z.1 z.2 [.inl e.1, .inl e.2.1] (.tup (getTu (getL z.1 z.2 [.inl e.1, .inl e.2.1]) ++ [.int e.2.2]))
def mvs (steps : List T3) : List (List Key) × List D := steps.foldl mvStep ([], [])
def mvD (steps : List T3) : D := .dit (mvs steps).1 (mvs steps).2
def supO (size : Int) (steps : List T3) (starts : List Int) : D := .obj 3 [.int size, .tup (steps.map tD), .tup (starts.map .int), mvD steps]
theorem mvs_snoc (xs : List T3) (e : T3) : mvs (xs ++ [e]) = mvStep (mvs xs) e := by unfold mvs; rw [List.foldl_append]; rfl
theorem nxt_snoc (xs : List T3) (e : T3) (s b : Int) : nxt (xs ++ [e]) s b = nxt xs s b ++ (if e.1 = s ∧ e.2.1 = b then [e.2.2] else []) := by
  unfold nxt
  rw [List.filter_append, List.map_append]
  by_cases h : e.1 = s ∧ e.2.1 = b <;> simp [h]
theorem getL_put {κ : Type} [DecidableEq κ] {q q' : κ} {d : D} : ∀ {ks : List κ} {ds : List D}, ks.length = ds.length → getL (putL ks ds q d).1 (putL ks ds q d).2 q' = if q = q' then some d else getL ks ds q'
  | [], [], _ => by
    show getL [q] [d] q' = _
    simp only [getL]
  | [], _ :: _, h => by simp at h
  | _ :: _, [], h => by simp at h
  | x :: ks, y :: ds, h => by
    have ih := getL_put (q := q) (q' := q') (d := d) (ks := ks) (ds := ds) (by simpa using h)
    unfold putL at ih ⊢
    rw [List.idxOf?_cons]
    by_cases hx : x = q
    · subst hx
      simp only [beq_self_eq_true, if_true]
      show getL (x :: ks) (d :: ds) q' = _
      simp only [getL]
      by_cases h2 : x = q' <;> simp [h2]
    · have hb : (x == q) = false := beq_eq_false_iff_ne.mpr hx
      rw [hb]
      simp only [Bool.false_eq_true, if_false]
      cases hi : ks.idxOf? q with
      | some i =>
        rw [hi] at ih
        simp only [Option.map_some]
        show getL (x :: ks) (y :: ds.set i d) q' = _
        simp only [getL]
        dsimp only at ih
        rw [ih]
        by_cases h2 : x = q'
        · subst h2; rw [if_pos rfl, if_neg (fun z => hx z.symm), if_pos rfl]
        · rw [if_neg h2, if_neg h2]
      | none =>
        rw [hi] at ih
        simp only [Option.map_none]
        show getL (x :: (ks ++ [q])) (y :: (ds ++ [d])) q' = _
        simp only [getL]
        dsimp only at ih
        rw [ih]
        by_cases h2 : x = q'
        · subst h2; rw [if_pos rfl, if_neg (fun z => hx z.symm), if_pos rfl]
        · rw [if_neg h2, if_neg h2]
theorem mvs_len : ∀ xs : List T3, (mvs xs).1.length = (mvs xs).2.length := rev_ind rfl fun xs e ih => by rw [mvs_snoc]; exact putL_len ih
theorem mvs_nd : ∀ xs : List T3, (mvs xs).1.Nodup := rev_ind List.nodup_nil fun xs e ih => by rw [mvs_snoc]; exact putL_nodup ih
theorem mvs_le : ∀ xs : List T3, (mvs xs).1.length ≤ xs.length := rev_ind (Nat.le_refl _) fun xs e ih => by
  rw [mvs_snoc]
  have := putL_le (ks := (mvs xs).1) (ds := (mvs xs).2) (q := [Sum.inl e.1, Sum.inl e.2.1]) (d := .tup (getTu (getL (mvs xs).1 (mvs xs).2 [.inl e.1, .inl e.2.1]) ++ [.int e.2.2]))
  rw [List.length_append]
  unfold mvStep
  simp only [List.length_cons, List.length_nil]
  omega
theorem get_mvs (s b : Int) : ∀ xs : List T3, getL (mvs xs).1 (mvs xs).2 [.inl s, .inl b] = if nxt xs s b = [] then none else some (.tup ((nxt xs s b).map .int)) :=
  rev_ind rfl fun xs e ih => by
    rw [mvs_snoc, nxt_snoc]
    unfold mvStep
    rw [getL_put (mvs_len xs)]
    by_cases h : e.1 = s ∧ e.2.1 = b
    · obtain ⟨rfl, rfl⟩ := h
      have hne : nxt xs e.1 e.2.1 ++ [e.2.2] ≠ [] := by simp
      rw [if_pos rfl, ih]
      simp only [and_self, if_true]
      rw [if_neg hne]
      by_cases h2 : nxt xs e.1 e.2.1 = []
      · rw [if_pos h2, h2]; rfl
      · rw [if_neg h2, List.map_append]; rfl
    · rw [if_neg, if_neg h, List.append_nil, ih]
      intro z
      apply h
      simpa using z
theorem getOr_mv {steps : List T3} {s b : Int} : getOr (mvD steps) (.tup [.int s, .int b]) (.tup []) = .ok (.tup ((nxt steps s b).map .int)) := by
  unfold getOr mvD dlook
  simp only [keyT_2, Option.map_some]
  rw [get_mvs]
  by_cases h : nxt steps s b = []
  · rw [if_pos h, h]; rfl
  · rw [if_neg h]
theorem mv_isD {steps : List T3} : isDct (mvD steps) = true := rfl
theorem p_moves {steps : List T3} (hl : steps.length ≤ 5000) : d_moves_of [.tup (steps.map tD)] = .ok (mvD steps) := by
  have hs := size_ge
  refine Ok.eq ?_
  unfold d_moves_of m_moves_of
  rw [ok_nox]
  refine k_runT ?_
  simp? only []
  refine for_typed tD (fun done S => ∃ a b c, S = [(some (Sl.mk false (.tup (steps.map tD)))), (some (Sl.mk true (mvD done))), a, b, c]) steps _ ⟨none, none, none, rfl⟩ ?_ ?_
  · rintro done x rest S e ⟨a, b, c, rfl⟩
    have hd : done.length < steps.length := by rw [e, List.length_append, List.length_cons]; omega
    simp? only [k_gT3, mv_isD, getOr_mv]
    have hn : (nxt done x.1 x.2.1).length ≤ done.length := by unfold nxt; rw [List.length_map]; exact List.length_filter_le ..
    refine ⟨by omega, ?_⟩
    unfold mvD
    simp? only []
    refine ⟨⟨mvs_nd done, Nat.lt_of_le_of_lt (mvs_le done) (by omega)⟩, (some (Sl.mk false (.int x.1))), (some (Sl.mk false (.int x.2.1))), (some (Sl.mk false (.int x.2.2))), ?_⟩
    rw [mvs_snoc]
    unfold mvStep
    rw [get_mvs]
    by_cases h2 : nxt done x.1 x.2.1 = []
    · rw [if_pos h2, h2]; rfl
    · rw [if_neg h2]; rfl
  · rintro S ⟨a, b, c, rfl⟩
    simp? only []
    exact ⟨_, rfl, rfl⟩
structure SupB (size : Int) (steps : List T3) (starts : List Int) : Prop where
  s1 : 1 ≤ size
  s2 : size ≤ 110
  st0 : starts ≠ []
  stS : starts.Pairwise (· < ·)
  stB : ∀ s ∈ starts, 0 ≤ s ∧ s < size
  tS : steps.Pairwise tlt
  tB : ∀ e ∈ steps, (0 ≤ e.1 ∧ e.1 < size) ∧ (e.2.1 = 0 ∨ e.2.1 = 1) ∧ (0 ≤ e.2.2 ∧ e.2.2 < size)
  tL : steps.length ≤ 300
  tA : ∀ s, 0 ≤ s → s < size → ∃ e ∈ steps, e.1 = s
structure SupV (size : Int) (steps : List T3) (starts : List Int) : Prop where
  s1 : 1 ≤ size
  s2 : size ≤ 40
  st0 : starts ≠ []
  stS : starts.Pairwise (· < ·)
  stB : ∀ s ∈ starts, 0 ≤ s ∧ s < size
  tS : steps.Pairwise tlt
  tB : ∀ e ∈ steps, (0 ≤ e.1 ∧ e.1 < size) ∧ (e.2.1 = 0 ∨ e.2.1 = 1) ∧ (0 ≤ e.2.2 ∧ e.2.2 < size)
  tL : steps.length < 60
  tA : ∀ s, 0 ≤ s → s < size → ∃ e ∈ steps, e.1 = s
theorem nin01 {b : Int} (h : b = 0 ∨ b = 1) : notInD (.int b) (.tup [.int 0, .int 1]) = .ok (.bl false) := by rcases h with rfl | rfl <;> rfl
theorem strict_le {l : List Int} {n : Int} (h : l.Pairwise (· < ·)) (hb : ∀ s ∈ l, 0 ≤ s ∧ s < n) : (l.length : Int) ≤ max n 0 := by
  have : l.length ≤ ((List.range n.toNat).map fun (i : Nat) => (i : Int)).length := nd_len_le (strict_nd h) fun x hx => by
    have := hb x hx
    refine List.mem_map.mpr ⟨x.toNat, List.mem_range.mpr (by omega), by omega⟩
  rw [List.length_map, List.length_range] at this
  omega
theorem keys_int : ∀ l : List Int, keysD (l.map .int) = some (l.map .inl)
  | [] => rfl
  | x :: l => by rw [List.map_cons, keysD, keys_int l]; rfl
theorem p_checkB {size : Int} {steps : List T3} {starts : List Int} (V : SupB size steps starts) : d_check_supply [.int size, .tup (steps.map tD), .tup (starts.map .int)] = .ok .non := by
  have hs := size_ge
  obtain ⟨s1, s2, st0, stS, stB, tS, tB, tL, tA⟩ := V
  have hne : steps ≠ [] := by
    obtain ⟨e, he, _⟩ := tA 0 (by omega) (by omega)
    exact List.ne_nil_of_mem he
  have hl := strict_le stS stB
  have c1 : decide (1 ≤ size) = true := decide_eq_true s1
  have c2 : decide (size ≤ 5000) = true := decide_eq_true (by omega)
  have e1 := lenSet_i (strict_nd stS) (by omega)
  have e2 := lenSet_T (tstrict_nd tS) tL hne
  have c3 : decide ((starts.length : Int) < starts.length) = false := decide_eq_false (by omega)
  have c4 : decide ((steps.length : Int) < steps.length) = false := decide_eq_false (by omega)
  obtain ⟨x0, h0⟩ := atI_lt (xs := starts) (i := 0) (by omega) (by have := List.length_pos_iff.mpr st0; omega)
  obtain ⟨x1, h1, m1⟩ := atI_last st0
  have b0 := stB x0 (atI_mem h0)
  have b1 := stB x1 m1
  have c5 : decide (x0 < 0) = false := decide_eq_false (by omega)
  have c6 : decide (size ≤ x1) = false := decide_eq_false (by omega)
  have he : ((starts.map D.int).isEmpty) = false := by cases starts with | nil => exact absurd rfl st0 | cons a b => rfl
  have a0 : L2.atI (starts.map D.int) 0 = some (.int x0) := by rw [atI_map, h0]; rfl
  have a1 : L2.atI (starts.map D.int) (-1) = some (.int x1) := by rw [atI_map, h1]; rfl
  refine Ok.eq ?_
  unfold d_check_supply m_check_supply
  rw [k_run]
  simp? only [gv_MOST_STATES, c1, c2, e1, e2, c3, c4, he, a0, a1, c5, c6]
  refine for_typed tD (fun _ S => ∃ a b c, S = [(some (Sl.mk false (.int size))), (some (Sl.mk false (.tup (steps.map tD)))), (some (Sl.mk false (.tup (starts.map .int)))), a, b, c]) steps _ ⟨none, none, none, rfl⟩ ?_ ?_
  · rintro done x rest S e ⟨a, b, c, rfl⟩
    obtain ⟨⟨u0, u1⟩, hb, v0, v1⟩ := tB x (by rw [e]; simp)
    have d1 : decide (0 ≤ x.1) = true := decide_eq_true u0
    have d2 : decide (x.1 < size) = true := decide_eq_true u1
    have d3 : decide (0 ≤ x.2.2) = true := decide_eq_true v0
    have d4 : decide (x.2.2 < size) = true := decide_eq_true v1
    simp? only [k_gT3, d1, d2, d3, d4, nin01 hb]
    exact ⟨_, _, _, rfl⟩
  · rintro S ⟨a, b, c, rfl⟩
    have hn : size.toNat ≤ (nubG (steps.map fun e => (Sum.inl e.1 : Key))).length := by
      have nd : ((List.range size.toNat).map fun (i : Nat) => (Sum.inl (i : Int) : Key)).Nodup := nd_map _ List.nodup_range fun a _ b _ h => by
        injection h with h; omega
      have := nd_len_le nd (b := nubG (steps.map fun e => (Sum.inl e.1 : Key))) fun x hx => by
        obtain ⟨i, hi, rfl⟩ := List.mem_map.mp hx
        have hi := List.mem_range.mp hi
        obtain ⟨e, he, h⟩ := tA i (by omega) (by omega)
        exact (nubG_mem _ _).mpr (List.mem_map.mpr ⟨e, he, by rw [h]⟩)
      simpa using this
    have c7 : decide (((nubG (steps.map fun e => (Sum.inl e.1 : Key))).length : Int) < size) = false := decide_eq_false (by omega)
    have L : lenScK (fun S => (eV 1) S >>= itemsD) (gT 3 (gsC (gN 3) (gsC (gN 4) (gsC (gN 5) gsN)))) tY (eV 3) [3, 4, 5] [(some (Sl.mk false (.int size))), (some (Sl.mk false (.tup (steps.map tD)))), (some (Sl.mk false (.tup (starts.map .int)))), a, b, c] = .ok (.int (nubG (steps.map fun e => (Sum.inl e.1 : Key))).length) := by
      have z1 := lc_typed (ga := gT 3 (gsC (gN 3) (gsC (gN 4) (gsC (gN 5) gsN)))) (t := tY) (fe := eV 3) (S := wipeS [(some (Sl.mk false (.int size))), (some (Sl.mk false (.tup (steps.map tD)))), (some (Sl.mk false (.tup (starts.map .int)))), a, b, c] [3, 4, 5]) tD (fun _ => true) (fun e => .int e.1) steps (fun x hx => by simp? only [k_gT3])
      rw [filter_true fun _ _ => rfl] at z1
      unfold lenScK
      show (if (steps.map tD).length < 900 then _ else _) = _
      rw [if_pos (by rw [List.length_map]; omega), z1, R.ok_bind]
      have : (steps.map fun e => D.int e.1) = (steps.map (·.1)).map .int := by rw [List.map_map]; rfl
      rw [this, keys_int, List.map_map]
      rfl
    simp? only [L, c7]
theorem p_SupplyB {size : Int} {raw : List T3} {begun : List Int} {t1 t2 : Bool} (V : SupB size (raw.mergeSort tle) (begun.mergeSort ile)) : d_Supply [.int size, seqD t1 (raw.map tD), seqD t2 (begun.map .int)] = .ok (supO size (raw.mergeSort tle) (begun.mergeSort ile)) := by
  have hs := size_ge
  have hl := V.tL
  rw [List.length_mergeSort] at hl
  refine Ok.eq ?_
  unfold d_Supply m_Supply
  rw [k_runN]
  have pc := p_checkB V
  have pm := p_moves (steps := raw.mergeSort tle) (by rw [List.length_mergeSort]; omega)
  simp? only []
  refine k_lcM tD tD raw ?_ (by omega) ?_ ?_
  · simp? only []
  · intro x hx
    simp? only [k_tupD]
  · simp? only [k_srtT, pc, pm]
    rfl
set_option Elab.async false
set_option linter.all false
set_option maxRecDepth 100000
open M PySem L2
def chO (w : Str) (r : D) : D := .obj 5 [.str w, r]
def ordW (w : Str) : Prop := w = "first" ∨ w = "last" ∨ w = "dues"
def rlW (rs : List D) : Prop := rs = [] ∨ rs = [.str "lend"] ∨ rs = [.str "ceil"] ∨ rs = [.str "lend", .str "ceil"]
theorem srt_rl {rs : List D} (h : rlW rs) : srtAD (.tup rs) = .ok (.lst (srt rs)) := by
  have e : srtOk rs = true := by rcases h with rfl | rfl | rfl | rfl <;> kernel_rfl
  simp only [srtAD, e, if_true]
theorem p_choice {w : Str} {rs : List D} (hw : ordW w) (hr : rlW rs) : d_Choice [.str w, .tup rs] = .ok (chO w (.tup (srt rs))) := by
  apply Ok.eq
  unfold d_Choice m_Choice
  rw [k_runN]
  refine pass_if ⟨false, ?_, rfl⟩ ?_
  · rcases hw with rfl | rfl | rfl <;> kernel_rfl
  refine pass_if ⟨false, ?_, rfl⟩ ?_
  · rcases hr with rfl | rfl | rfl | rfl <;> kernel_rfl
  simp? only [srt_rl hr]
  all_goals rfl
theorem srt_swap {x y : D} (h : dle x y = false) : srt [x, y] = [y, x] := by
  unfold srt
  rw [List.mergeSort]
  simp [List.MergeSort.Internal.splitInTwo, h]
theorem srt_lc : srt [.str "lend", .str "ceil"] = [.str "ceil", .str "lend"] := srt_swap (by kernel_rfl)
theorem srt_n1 (x : D) : srt [x] = [x] := by simp [srt]
theorem srt_n0 : srt [] = [] := by simp [srt]
theorem p_ch0 : d_Choice [.str "first", .tup []] = .ok (chO "first" (.tup [])) := by rw [p_choice (.inl rfl) (.inl rfl), srt_n0]
theorem ch_refused {w r : Str} (hw : ordW w) (hr : r = "lend" ∨ r = "ceil") : d__law_choice_refused [.str w, .str r, .str r] = .ok (.bl true) ∧ d__law_choice_refused [.str "due", .str r, .str ""] = .ok (.bl true) ∧ d__law_choice_refused [.str "duess", .str r, .str ""] = .ok (.bl true) ∧ d__law_choice_refused [.str "duessss", .str r, .str ""] = .ok (.bl true) ∧ d__law_choice_refused [.str r, .str w, .str ""] = .ok (.bl true) := by
  rcases hw with rfl | rfl | rfl <;> rcases hr with rfl | rfl <;> (refine ⟨?_, ?_, ?_, ?_, ?_⟩ <;> kernel_rfl)
theorem ch_rules {w : Str} (hw : ordW w) : d__law_choice_refused [.str w, .str "lends", .str ""] = .ok (.bl true) ∧ d__law_choice_refused [.str w, .str "ceils", .str ""] = .ok (.bl true) := by
  rcases hw with rfl | rfl | rfl <;> (refine ⟨?_, ?_⟩ <;> kernel_rfl)
theorem core_ref1 {su t : D} : d__law_core_refused [su, t, .int 4, .str "shut", .str "cut"] = .ok (.bl true) := by kernel_rfl
theorem core_ref2 {su t : D} : d__law_core_refused [su, t, .int 1, .str "closed", .str "cut"] = .ok (.bl true) ∧ d__law_core_refused [su, t, .int 1, .str "", .str "cut"] = .ok (.bl true) ∧ d__law_core_refused [su, t, .int 1, .str "Shut", .str "cut"] = .ok (.bl true) := by refine ⟨?_, ?_, ?_⟩ <;> kernel_rfl
theorem core_ref3 {su t : D} : d__law_core_refused [su, t, .int 1, .str "open", .str "drop"] = .ok (.bl true) := by kernel_rfl
theorem core_ref4 {su t : D} : d__law_core_refused [su, t, .int 4, .str "open", .str "trust"] = .ok (.bl true) := by kernel_rfl
def ten : D := .obj 4 [.tup [.tup [.tup [.str ""], .int 2]], .tup [.tup [.int 0, .int 0, .int 2]], .bl false, .tup [.int 2]]
theorem w_ten (n : Nat) (h : n ≤ 8) {a b c : D} : d_weight_of [.obj 3 [.int (100 + n : Nat), a, b, c], .tup [ten, ten, ten]] = .ok (.int ((100 + n : Nat) * 1000 : Nat)) := by
  have : n = 0 ∨ n = 1 ∨ n = 2 ∨ n = 3 ∨ n = 4 ∨ n = 5 ∨ n = 6 ∨ n = 7 ∨ n = 8 := by omega
  rcases this with rfl | rfl | rfl | rfl | rfl | rfl | rfl | rfl | rfl <;> kernel_rfl
set_option Elab.async false
set_option linter.all false
set_option maxRecDepth 100000
open M PySem L2
theorem k_CXZ {dd : List D} {o : List D → R D} {S : M.Env} {Q : D → Prop} : Ok (eCXZ dd o S) Q ↔ Ok (o (dd ++ [.tup []])) Q := Iff.rfl
def suN (n : Nat) (a b c : D) : D := .obj 3 [.int (100 + n : Nat), a, b, c]
abbrev coreS (su : D) (fs : List D) (o6 : Option Sl) : M.Env := [(some (Sl.mk true (.obj 6 fs))), (some (Sl.mk false (su))), (some (Sl.mk false (.non))), (some (Sl.mk false (.str "shut"))), (some (Sl.mk false (.str "cut"))), (some (Sl.mk false (.tup [ten, ten, ten]))), o6, none]
def coreB : FS := (sSeq (sIf (tB' (e2 gtD (e1 (fldD 6 5) (eW 0)) (eG gv_MOST_WEIGHT))) (sExcI 212 1 (aC (eG gv_MOST_WEIGHT) aN)) sNil)
    (sSeq (sSet 6 (eLstRg (rg1 (eC (f1 lenD) (aC (eW 5) aN)))))
    (sFldN 6 0 6 (eC (f1 tupD) (aC (e2 addD (e2 addD (e2 addD (eL (aC (eS "choice") aN)) (lcE (fun S => (eV 6) S >>= itemsD) (gN 7) tY (eFs (fsC (eS "gaps") (fsC (eFmt (eV 7)) fsN))) [7])) (lcE (fun S => (eV 6) S >>= itemsD) (gN 7) tY (eFs (fsC (eS "needs") (fsC (eFmt (eV 7)) fsN))) [7])) (eL (aC (eS "supply") aN))) aN)))))
theorem core_to {n : Nat} (hn : n ≤ 8) {a b c : D} {r : R D} (h : endN (coreB (coreS (suN n a b c) [suN n a b c, .tup [ten, ten, ten], chO "first" (.tup []), .str "shut", .str "cut", .int ((100 + n : Nat) * 1000 : Nat)] none)) = r) :
    d_Core [suN n a b c, .non, .str "shut", .str "cut", .tup [ten, ten, ten]] = r := by
  have st : ∀ {s r : FS} {S S1 : M.Env}, s S = .ok (.nx, S1) → sSeq s r S = r S1 := fun {s r S S1} h => by unfold sSeq; rw [h]; rfl
  have pc := p_ch0
  have hw := w_ten n hn (a := a) (b := b) (c := c)
  rw [← h]
  show endN (m_Core (coreS (suN n a b c) [] none)) = _
  unfold m_Core
  have s1 : ∀ {r : FS}, sSeq (sIf (tO (tB' (e2 gtD (eC (f1 lenD) (aC (eW 5) aN)) (eG gv_MOST_TASKS))) (tO (tB' (e2 notInA (eW 3) (eG gv_DOORS))) (tB' (e2 notInA (eW 4) (eG gv_GUARDS))))) (sExc0 206) sNil) r (coreS (suN n a b c) [] none) = r (coreS (suN n a b c) [] none) := st (by kernel_rfl)
  rw [s1]
  rw [st (S1 := coreS (suN n a b c) [suN n a b c] none) rfl]
  rw [st (S1 := coreS (suN n a b c) [suN n a b c, .tup [ten, ten, ten]] none) rfl]
  have s4 : sFldN 6 0 2 (eIf (tB' (e2 isD (eW 2) eN)) (eCXZ [.str "first"] d_Choice) (eV 2)) (coreS (suN n a b c) [suN n a b c, .tup [ten, ten, ten]] none) = .ok (.nx, coreS (suN n a b c) [suN n a b c, .tup [ten, ten, ten], chO "first" (.tup [])] none) := by
    refine Ok.eq ?_
    simp? only [k_CXZ, pc]
    refine ⟨.bl true, rfl, true, rfl, fun hh => (nomatch hh)⟩
  rw [st s4]
  rw [st (S1 := coreS (suN n a b c) [suN n a b c, .tup [ten, ten, ten], chO "first" (.tup []), .str "shut"] none) rfl]
  rw [st (S1 := coreS (suN n a b c) [suN n a b c, .tup [ten, ten, ten], chO "first" (.tup []), .str "shut", .str "cut"] none) rfl]
  have s7 : sFldN 6 0 5 (eC d_weight_of (aC (eV 1) (aC (e1 (fldD 6 1) (eW 0)) aN))) (coreS (suN n a b c) [suN n a b c, .tup [ten, ten, ten], chO "first" (.tup []), .str "shut", .str "cut"] none) = .ok (.nx, coreS (suN n a b c) [suN n a b c, .tup [ten, ten, ten], chO "first" (.tup []), .str "shut", .str "cut", .int ((100 + n : Nat) * 1000 : Nat)] none) := by
    refine Ok.eq ?_
    simp? only []
    show Ok (d_weight_of [suN n a b c, .tup [ten, ten, ten]]) _
    unfold suN
    rw [hw, ok_ok]
    first | rfl | exact ⟨rfl, rfl⟩ | skip
  rw [st s7]
  rfl
theorem core_big {n : Nat} (h1 : 1 ≤ n) (hn : n ≤ 8) {a b c : D} : d_Core [suN n a b c, .non, .str "shut", .str "cut", .tup [ten, ten, ten]] = .exc ⟨212, [.int 100000]⟩ := by
  refine core_to hn ?_
  have : n = 1 ∨ n = 2 ∨ n = 3 ∨ n = 4 ∨ n = 5 ∨ n = 6 ∨ n = 7 ∨ n = 8 := by omega
  rcases this with rfl | rfl | rfl | rfl | rfl | rfl | rfl | rfl <;> kernel_rfl
theorem core_100 {a b c : D} : ∃ x y z u v w, d_Core [suN 0 a b c, .non, .str "shut", .str "cut", .tup [ten, ten, ten]] = .ok (.obj 6 [x, y, z, u, v, .int 100000, w]) :=
  ⟨suN 0 a b c, .tup [ten, ten, ten], chO "first" (.tup []), .str "shut", .str "cut", .tup [.str "choice", .str "gaps0", .str "gaps1", .str "gaps2", .str "needs0", .str "needs1", .str "needs2", .str "supply"], core_to (by omega) (by kernel_rfl)⟩
theorem p_large {n : Nat} (h1 : 1 ≤ n) (hn : n ≤ 8) {a b c : D} : d__law_too_large [suN n a b c, ten] = .ok (.bl true) := by
  unfold d__law_too_large m__law_too_large M.runF
  have e := try_x (mt := mt_TooLarge) (i := 2) (s := (sDrop (eCXS 1 [false, false, false] [.non, .str "shut", .str "cut"] d_Core (aC (eV 0) (aC (eV 1) (aC (eV 1) (aC (eV 1) aN)))) aN))) (hnd := fun y => (sRet (eAnd (e2 eqD (eCHE y d__law_kind (aC (eV 2) aN)) (eL (aC (eB false) (aC (eB false) (aC (eB false) (aC (eB true) (aC (eB false) (aC (eB true) aN)))))))) (e2 eqD (eXf y 212 0 (eW 2)) (eI (100000)))))) (S := [(some (Sl.mk false (suN n a b c))), (some (Sl.mk false (ten))), none]) rfl (x_drop (x := ⟨212, [.int 100000]⟩) (x_CXS ?_)) rfl (r' := (.rt (.bl true), [(some (Sl.mk false (suN n a b c))), (some (Sl.mk false (ten))), (some (Sl.mk false (.cls xix)))])) (by kernel_rfl) rfl
  · show (endF false (sSeq _ _ [(some (Sl.mk false (suN n a b c))), (some (Sl.mk false (ten))), none])).nox = _
    unfold sSeq
    rw [e]
    rfl
  · simp? only []
    first | exact core_big h1 hn | exact ⟨⟨by decide, by decide⟩, core_big h1 hn⟩
set_option Elab.async false
set_option linter.all false
set_option maxRecDepth 100000
open M PySem L2
def drw (l : List Int) (i : Int) : Int := (L2.atI l i).getD 0
structure Dr (n : Nat) (l : List Int) : Prop where
  len : l.length = n
  bd : ∀ x ∈ l, 0 ≤ x ∧ x < 60
theorem Dr.at {n : Nat} {l : List Int} (h : Dr n l) {i : Int} (h0 : 0 ≤ i) (h1 : i < n) : L2.atI (l.map D.int) i = some (.int (drw l i)) := by
  obtain ⟨a, ha⟩ := atI_lt (xs := l) h0 (by rw [h.len]; exact h1)
  rw [atI_map, drw, ha]; rfl
theorem Dr.b {n : Nat} {l : List Int} (h : Dr n l) (i : Int) : 0 ≤ drw l i ∧ drw l i < 60 := by
  unfold drw
  cases e : L2.atI l i with
  | none => exact ⟨by decide, by decide⟩
  | some a => exact h.bd a (atI_mem e)
theorem p_cell (ns : List Int) (at_ : Int) (ha : 0 ≤ at_) : Ok (d__law_cell [.scr ns, .int at_]) fun d => ∃ z : Int, d = .int z := by
  unfold d__law_cell m__law_cell
  rw [ok_nox, k_run]
  simp? only []
  refine ⟨fun h => ?_, fun _ => ⟨_, rfl⟩⟩
  obtain ⟨d, hd⟩ := atI_lt ha (of_decide_eq_true h)
  exact ⟨d, hd, _, rfl⟩
theorem p_draws (ns : List Int) (at_ : Int) (cnt : Nat) (ha : 0 ≤ at_) (ha2 : at_ < 100) (hc : cnt ≤ 100) : ∃ l, Dr cnt l ∧ d__law_draws [.scr ns, .int at_, .int cnt] = .ok (.lst (l.map .int)) := by
  have hs := size_ge
  suffices h : Ok (d__law_draws [.scr ns, .int at_, .int cnt]) fun d => ∃ l, Dr cnt l ∧ d = .lst (l.map .int) by
    obtain ⟨d, e, l, h1, rfl⟩ := h
    exact ⟨l, h1, e⟩
  unfold d__law_draws m__law_draws
  rw [ok_nox]
  refine k_runT ?_
  refine seq_cut (fun S => ∃ cell : Int, S = [(some (Sl.mk false (.scr ns))), (some (Sl.mk false (.int at_))), (some (Sl.mk false (.int cnt))), (some (Sl.mk false (.int cell))), none, none, none, none]) ?_ ?_
  · simp? only []
    refine (p_cell ns at_ ha).mono ?_
    rintro d ⟨z, rfl⟩
    simp? only []
    exact ⟨_, rfl⟩
  rintro S ⟨cell, rfl⟩
  refine seq_cut (fun S => S = [(some (Sl.mk false (.scr ns))), (some (Sl.mk false (.int at_))), (some (Sl.mk false (.int cnt))), (some (Sl.mk false (.int cell))), (some (Sl.mk false (.int 0))), none, none, none]) (by simp? only []) ?_
  rintro S rfl
  refine seq_cut (fun S => ∃ rest : Int, S = [(some (Sl.mk false (.scr ns))), (some (Sl.mk false (.int at_))), (some (Sl.mk false (.int cnt))), (some (Sl.mk false (.int cell))), (some (Sl.mk false (.int rest))), none, none, none]) ?_ ?_
  · simp? only []
    exact ⟨⟨by omega, by omega, by decide⟩, fun _ => ⟨⟨by omega, by omega, by decide⟩, _, rfl⟩, fun _ => ⟨_, rfl⟩⟩
  rintro S ⟨rest, rfl⟩
  simp? only []
  refine ⟨⟨by omega, by omega⟩, ?_⟩
  refine for_inv (fun i S => ∃ (l : List Int) (rest : Int) (a b : Option Sl), Dr i l ∧ S = [(some (Sl.mk false (.scr ns))), (some (Sl.mk false (.int at_))), (some (Sl.mk false (.int cnt))), (some (Sl.mk false (.int cell))), (some (Sl.mk false (.int rest))), (some (Sl.mk true (.lst (l.map .int)))), a, b]) _ 0 _ ⟨[], rest, none, none, ⟨rfl, by simp⟩, rfl⟩ ?_ ?_
  · rintro i d S hd ⟨l, rest, a, b, hl, rfl⟩
    obtain ⟨hi, rfl⟩ := rngL_get hd
    simp only [Int.toNat_natCast] at hi
    rw [Nat.zero_add] at hl
    have hll : l.length < sizeLine := by rw [hl.len]; omega
    have snoc : ∀ x : Int, 0 ≤ x ∧ x < 60 → Dr (i + 1) (l ++ [x]) := fun x hx => ⟨by rw [List.length_append, hl.len]; simp, fun z hz => by
      rcases List.mem_append.mp hz with h | h
      · exact hl.bd z h
      · rw [List.mem_singleton] at h; subst h; exact hx⟩
    simp? only []
    refine ⟨fun h1 => ⟨by omega, hll, div_c (by omega) (by omega), l ++ [rest % 60], _, _, _, snoc _ (mod_b rest (by omega)), by rw [List.map_append]; rfl⟩, fun h1 => ?_⟩
    refine ⟨mul_r (by omega) (by omega), mul_l (by omega) (by omega), mul_l (by omega) (by omega), by omega, ?_⟩
    have m1 := mod_b (cell * 48271 + (0 + (i : Int)) * 69621 + at_ * 7919 + 12345) (m := 99991) (by omega)
    generalize (cell * 48271 + (0 + (i : Int)) * 69621 + at_ * 7919 + 12345) % 99991 = x1 at m1
    refine ⟨mul_l (by omega) (by omega), mul_l (by omega) (by omega), by omega, ?_⟩
    have m2 := mod_b (x1 * x1 + (0 + (i : Int)) * 101) (m := 999983) (by omega)
    generalize (x1 * x1 + (0 + (i : Int)) * 101) % 999983 = x2 at m2
    refine ⟨mul_l (by omega) (by omega), div_c (by omega) (by omega), by omega, ?_⟩
    generalize (x2 * x2 + x2 / 127) % 9999991 = x3
    have m4 := mod_b (x3 / 11) (m := 60) (by omega)
    exact ⟨div_c (by omega) (by omega), by omega, hll, l ++ [x3 / 11 % 60], _, _, _, snoc _ m4, by rw [List.map_append]; rfl⟩
  · rintro S ⟨l, rest, a, b, hl, rfl⟩
    rw [rngL_len, Nat.zero_add, Int.toNat_natCast] at hl
    simp? only []
    exact ⟨_, rfl, l, hl, rfl⟩
set_option Elab.async false
set_option linter.all false
set_option maxRecDepth 100000
open M PySem L2
def longR (n : Nat) : List T3 := (List.range n).map fun (i : Nat) => ((i : Int), 1, (i : Int) / 2)
theorem longR_so (n : Nat) : (longR n).Pairwise tlt := by
  unfold longR
  rw [List.pairwise_map]
  refine List.pairwise_lt_range.imp ?_
  intro a b h
  left
  show (a : Int) < b
  omega
theorem longR_ms (n : Nat) : (longR n).mergeSort tle = longR n := by
  refine List.mergeSort_of_pairwise ((longR_so n).imp ?_)
  intro a b h
  unfold tle
  have hn : ¬ tlt b a := by unfold tlt at h ⊢; omega
  rw [decide_eq_false hn]; rfl
theorem sup_long {n : Nat} (h1 : 1 ≤ n) (h2 : n ≤ 110) : SupB n ((longR n).mergeSort tle) (([0] : List Int).mergeSort ile) where
  s1 := by omega
  s2 := by omega
  st0 := by simp
  stS := by simp
  stB := by intro s hs; simp at hs; omega
  tS := by rw [longR_ms]; exact longR_so n
  tB := by
    rw [longR_ms]
    intro e he
    obtain ⟨i, hi, rfl⟩ := List.mem_map.mp he
    have := List.mem_range.mp hi
    dsimp only
    refine ⟨by omega, .inr rfl, by omega⟩
  tL := by rw [longR_ms]; simp [longR]; omega
  tA := by
    rw [longR_ms]
    intro s h0 hs
    refine ⟨(s, 1, s / 2), List.mem_map.mpr ⟨s.toNat, List.mem_range.mpr (by omega), ?_⟩, rfl⟩
    have : (s.toNat : Int) = s := by omega
    rw [this]
theorem k_CXD {dd : List D} {o : List D → R D} {fa : FA} {S : M.Env} {Q : D → Prop} : Ok (eCXD dd o fa S) Q ↔ Ok (fa S) fun as => Ok (o (as ++ dd)) Q := by unfold eCXD; simp only [ok_bind]
theorem p_long {n : Nat} (h1 : 1 ≤ n) (h2 : n ≤ 110) : ∃ a b c, d__law_long [.int (n : Int)] = .ok (.obj 3 [.int (n : Int), a, b, c]) := by
  have hs := size_ge
  have e := p_SupplyB (raw := longR n) (begun := [0]) (t1 := false) (t2 := true) (sup_long h1 h2)
  refine ⟨.tup (((longR n).mergeSort tle).map tD), .tup ((([0] : List Int).mergeSort ile).map .int), mvD ((longR n).mergeSort tle), Ok.eq ?_⟩
  unfold d__law_long m__law_long
  rw [ok_nox, k_run]
  have L : lcE (fun S => (aC (eW 0) aN) S >>= rng1) (gN 1) tY (eT (aC (eV 1) (aC (eI (1)) (aC (e2 fdivD (eW 1) (eI (2))) aN)))) [1] [(some (Sl.mk false (.int (n : Int)))), none] = .ok (.lst ((longR n).map tD)) := by
    refine Ok.eq ?_
    refine k_lcM (fun (i : Nat) => .int (i : Int)) (fun (i : Nat) => tD ((i : Int), 1, (i : Int) / 2)) (List.range n) ?_ (by rw [List.length_range]; omega) ?_ ?_
    · rw [ok_bind]
      refine ⟨[.int (n : Int)], rfl, ?_⟩
      show Ok (rng1 [.int (n : Int)]) _
      rw [k_rng1]
      refine ⟨⟨by omega, by omega⟩, ?_⟩
      unfold rngL
      rw [Int.toNat_natCast]
      refine List.map_congr_left fun i _ => ?_
      rw [Int.zero_add]
    · intro i hi
      simp? only [wipeS]
      exact ⟨⟨by decide, by decide⟩, rfl⟩
    · unfold longR
      rw [List.map_map]; rfl
  simp? only [k_CXD, L]
  exact ⟨_, e, rfl⟩
set_option Elab.async false
set_option linter.all false
set_option maxRecDepth 100000
open M PySem L2
theorem be_at (i : Int) (h0 : 0 ≤ i) (h6 : i < 8) : ∃ b, b ∈ BE ∧ L2.atI [D.str "ba", .str "aa", .str "d", .str "A", .str " ", .str "abcd", .str "acb", .str "cc"] i = some (.str b) := by
  have : i = 0 ∨ i = 1 ∨ i = 2 ∨ i = 3 ∨ i = 4 ∨ i = 5 ∨ i = 6 ∨ i = 7 := by omega
  rcases this with rfl | rfl | rfl | rfl | rfl | rfl | rfl | rfl <;> exact ⟨_, by simp [BE], rfl⟩
theorem p_bads {xs : List Str} {due gap : Int} {ds : List Int} (V : Dr 16 ds) (n1 : 1 ≤ xs.length) (n2 : xs.length ≤ 4) (u1 : 0 ≤ due) (u2 : due ≤ 8) : ∃ be ∈ BE, ∃ at_ < xs.length,
    d__law_bad_tasks [.lst (xs.map .str), .int due, .int gap, .lst (ds.map .int)] = .ok (.lst ((bads xs due gap be at_ (drw ds 2) (drw ds 3)).map fun q => tk5 q.1 q.2.1 q.2.2)) := by
  have hs := size_ge
  obtain ⟨be, hb, eb⟩ := be_at (drw ds 0 % 8) (by omega) (by omega)
  have hx : 0 ≤ drw ds 1 % (xs.length : Int) ∧ drw ds 1 % (xs.length : Int) < xs.length := ⟨Int.emod_nonneg _ (by omega), Int.emod_lt_of_pos _ (by omega)⟩
  obtain ⟨at_, ea⟩ : ∃ a : Nat, drw ds 1 % (xs.length : Int) = a := ⟨(drw ds 1 % (xs.length : Int)).toNat, by omega⟩
  have hat : at_ < xs.length := by omega
  refine ⟨be, hb, at_, hat, Ok.eq ?_⟩
  have b2 := V.b 2
  have b3 := V.b 3
  unfold d__law_bad_tasks m__law_bad_tasks
  rw [ok_nox, k_run]
  refine seq_cut (fun S => S = [(some (Sl.mk false (.lst (xs.map .str)))), (some (Sl.mk false (.int due))), (some (Sl.mk false (.int gap))), (some (Sl.mk false (.lst (ds.map .int)))), (some (Sl.mk false (ndD (xs, due)))), (some (Sl.mk false (ndD (["", "a", "", "", "b"], 8)))), none, none]) ?_ ?_
  · simp? only []
    rfl
  rintro S rfl
  refine seq_cut (fun S => S = [(some (Sl.mk false (.lst (xs.map .str)))), (some (Sl.mk false (.int due))), (some (Sl.mk false (.int gap))), (some (Sl.mk false (.lst (ds.map .int)))), (some (Sl.mk false (ndD (xs, due)))), (some (Sl.mk false (ndD (["", "a", "", "", "b"], 8)))), (some (Sl.mk false (.str be))), none]) ?_ ?_
  · have e0 : L2.atI (ds.map D.int) 0 = some (.int (drw ds 0)) := V.at (by omega) (by omega)
    simp? only [e0]
    refine ⟨by decide, ?_⟩
    refine ⟨_, eb, ?_⟩
    first | rfl | trivial
  rintro S rfl
  refine seq_cut (fun S => S = [(some (Sl.mk false (.lst (xs.map .str)))), (some (Sl.mk false (.int due))), (some (Sl.mk false (.int gap))), (some (Sl.mk false (.lst (ds.map .int)))), (some (Sl.mk false (ndD (xs, due)))), (some (Sl.mk false (ndD (["", "a", "", "", "b"], 8)))), (some (Sl.mk false (.str be))), (some (Sl.mk false (.int at_)))]) ?_ ?_
  · simp? only []
    refine ⟨.int (drw ds 1), V.at (by omega) (by omega), ?_⟩
    simp? only [List.length_map]
    rw [ea]
    exact ⟨by omega, rfl⟩
  rintro S rfl
  have e2 : L2.atI (ds.map D.int) 2 = some (.int (drw ds 2)) := V.at (by omega) (by omega)
  have e3 : L2.atI (ds.map D.int) 3 = some (.int (drw ds 3)) := V.at (by omega) (by omega)
  simp? only [k_Sl, k_oN, k_oS, k_toI, k_slL, e2, e3]
  have c1 : M.cutL xs none (some (at_ : Int)) = xs.take at_ := by rw [cut_take (by omega), Int.toNat_natCast]
  have c2 : M.cutL xs (some ((at_ : Int) + 1)) none = xs.drop (at_ + 1) := by rw [cut_drop (by omega)]; congr 1
  rw [c1, c2]
  have l1 : (xs.take at_).length ≤ 4 := by rw [List.length_take]; omega
  have l2 : (xs.drop (at_ + 1)).length ≤ 4 := by rw [List.length_drop]; omega
  refine ⟨by omega, by rw [List.length_append, List.length_map, List.length_singleton]; omega, by omega, ?_⟩
  have em : (xs.take at_ ++ [be] ++ xs.drop (at_ + 1)).map D.str = (xs.take at_).map D.str ++ [D.str be] ++ (xs.drop (at_ + 1)).map D.str := by rw [List.map_append, List.map_append]; rfl
  rw [← em]
  rfl
set_option Elab.async false
set_option linter.all false
set_option maxRecDepth 100000
open M PySem L2
theorem t_one {xs : List Str} {due gap : Int} (b : Bool) (st : Bool) (G : Nd xs due) (g1 : due ≤ gap) (g2 : gap ≤ 8) : d_Task [.lst [.tup [seqD b (xs.map .str), .int due]], .lst [.tup [.int 0, .int 0, .int gap]], .bl st] = .ok (taskO [(xs, due)] [(0, 0, gap)] st (.tup ((capsOf [(xs, due)] [(0, 0, gap)]).map .int))) := by
  have v : TaskV [(xs, due)] [(0, 0, gap)] st := ⟨by simp, by simp, by intro n hn; rw [List.mem_singleton] at hn; subst hn; exact G, by
      intro e he; rw [List.mem_singleton] at he; subst he
      exact ⟨Int.le_refl _, by simp, Int.le_refl _, by simp, g2, _, rfl, g1⟩, by simp, by simp, by intro h; exact ⟨rfl, rfl⟩⟩
  exact Ok.eq (p_Task (rs := [(b, xs, due)]) (raw := [(0, 0, gap)]) rfl srt1 (by simp) v)
theorem t_none {xs : List Str} {due : Int} (b : Bool) (G : Nd xs due) : d_Task [.lst [.tup [seqD b (xs.map .str), .int due]], .lst [], .bl false] = .ok (taskO [(xs, due)] [] false (.tup ((capsOf [(xs, due)] []).map .int))) := by
  have v : TaskV [(xs, due)] [] false := ⟨by simp, by simp, by intro n hn; rw [List.mem_singleton] at hn; subst hn; exact G, fun e he => (nomatch he), by simp, by simp, by intro h; cases h⟩
  exact Ok.eq (p_Task (rs := [(b, xs, due)]) (raw := []) rfl srt0 (by simp) v)
def lastR : List Edge := [(1, 0, 8), (0, 1, 8), (1, 1, 1), (0, 0, 8)]
def lastE : List Edge := [(0, 0, 8), (0, 1, 8), (1, 0, 8), (1, 1, 1)]
theorem srt_last : srtAD (.lst (lastR.map edD)) = .ok (.lst (lastE.map edD)) := by
  have h0 := srtOk_ed lastR
  show (if srtOk (lastR.map edD) = true then R.ok (D.lst (srt (lastR.map edD))) else R.fail) = _
  rw [if_pos h0]
  have e : srt (lastR.map tD) = lastE.map tD := by
    rw [srt_t]
    congr 1
    refine List.Perm.eq_of_pairwise (le := tlt) ?_ (tst_strict (by decide)) (by decide) ((List.mergeSort_perm _ _).trans (by decide))
    intro a b _ _ h1 h2
    unfold tlt at h1 h2
    omega
  exact congrArg (fun z => R.ok (D.lst z)) e
theorem t_last : d_Task [.lst [.tup [.tup [.str "", .str "", .str "", .str ""], .int 8], .tup [.tup [.str "abc"], .int 1]], .lst [.tup [.int 1, .int 0, .int 8], .tup [.int 0, .int 1, .int 8], .tup [.int 1, .int 1, .int 1], .tup [.int 0, .int 0, .int 8]], .bl false] = .ok (taskO [(["", "", "", ""], 8), (["abc"], 1)] lastE false (.tup ((capsOf [(["", "", "", ""], 8), (["abc"], 1)] lastE).map .int))) := by
  have v : TaskV [(["", "", "", ""], 8), (["abc"], 1)] lastE false := ⟨by simp, by simp, by
      intro n hn
      simp only [List.mem_cons, List.not_mem_nil, or_false] at hn
      rcases hn with rfl | rfl
      · exact ⟨by decide, by decide, by decide, by decide, by decide⟩
      · exact ⟨by decide, by decide, by decide, by decide, by decide⟩, by
      intro e he
      simp only [lastE, List.mem_cons, List.not_mem_nil, or_false] at he
      rcases he with rfl | rfl | rfl | rfl <;> exact ⟨by decide, by decide, by decide, by decide, by decide, _, rfl, by decide⟩, by unfold lastE elt; simp, by decide, by intro h; cases h⟩
  exact Ok.eq (p_Task (rs := [(true, ["", "", "", ""], 8), (true, ["abc"], 1)]) (raw := lastR) rfl srt_last (by decide) v)
theorem en_nil (n : Nat) : ∀ e ∈ List.replicate n ("" : Str), e ∈ EN := by
  intro e he
  rw [List.eq_of_mem_replicate he]
  simp [EN]
theorem mulT_n {n : Nat} (h : 1 ≤ n) (h4 : n ≤ 4) : mulT (.tup [.str ""]) (.int (n : Int)) = .ok (.tup ((List.replicate n ("" : Str)).map .str)) ∧ mulTS (.tup [.str ""]) (.int (n : Int)) = .ok (.tup ((List.replicate n ("" : Str)).map .str)) := by
  have : n = 1 ∨ n = 2 ∨ n = 3 ∨ n = 4 := by omega
  rcases this with rfl | rfl | rfl | rfl <;> exact ⟨by kernel_rfl, by kernel_rfl⟩
theorem k_CXL {i ci : Nat} {dd : List D} {o : List D → R D} {fa : FA} {S : M.Env} {Q : D → Prop} : Ok (eCXL i ci dd o fa S) Q ↔ Ok (eV i S) fun d => isClsD ci d = true ∧ Ok (fa S) fun as => Ok (o (as ++ dd)) Q := by unfold eCXL eCXD; simp only [ok_bind, ok_if]
theorem k_CXKL {i ci : Nat} {o : List D → R D} {fa fk : FA} {S : M.Env} {Q : D → Prop} : Ok (eCXKL i ci o fa fk S) Q ↔ Ok (eV i S) fun d => isClsD ci d = true ∧ Ok (fa S) fun as => Ok (fk S) fun bs => Ok (o (as ++ bs)) Q := by unfold eCXKL eCXK; simp only [ok_bind, ok_if]
theorem k_CMXs {ci : Nat} {den : List D → R D} {f : FE} {fa : FA} {S : M.Env} {Q : D → Prop} : Ok (eCMX ci den f fa S) Q ↔ Ok (f S) fun o => isClsD ci o = true ∧ Ok (fa S) fun ds => Ok (den (o :: ds)) Q := by unfold eCMX; simp only [ok_bind, ok_if]
theorem k_CM0 {ci : Nat} {den : List D → R D} {f : FE} {S : M.Env} {Q : D → Prop} : Ok (eCM0 ci den f S) Q ↔ Ok (f S) fun o => isClsD ci o = true ∧ Ok (den [o]) Q := by unfold eCM0; simp only [ok_bind, ok_if]
theorem isC (c : Nat) : isClsD c (.cls c) = true := by simp [isClsD]
theorem p_plain {n : Nat} {due gap : Int} (h : 1 ≤ n) (h4 : n ≤ 4) (u1 : (n : Int) ≤ due) (u2 : due ≤ 8) (g1 : due ≤ gap) (g2 : gap ≤ 8) : d_Task_plain [.cls 4, .int n, .int due, .int gap] = .ok (taskO [(List.replicate n "", due)] [(0, 0, gap)] false (.tup ((capsOf [(List.replicate n "", due)] [(0, 0, gap)]).map .int))) := by
  have e := t_one (xs := List.replicate n "") true false ⟨by simp; omega, by simp; omega, by simp; omega, u2, en_nil n⟩ g1 g2
  refine Ok.eq ?_
  unfold d_Task_plain m_Task_plain
  rw [k_run]
  simp? only [(mulT_n h h4).1, k_CXL, isC]
  exact ⟨_, e, rfl⟩
theorem p_serving {n : Nat} {gap : Int} (h : 1 ≤ n) (h4 : n ≤ 4) (g1 : (n : Int) ≤ gap) (g2 : gap ≤ 8) : d_Task_serving [.cls 4, .int n, .int gap] = .ok (taskO [(List.replicate n "", gap)] [(0, 0, gap)] true (.tup ((capsOf [(List.replicate n "", gap)] [(0, 0, gap)]).map .int))) := by
  have e := t_one (xs := List.replicate n "") true true ⟨by simp; omega, by simp; omega, by simp; omega, g2, en_nil n⟩ (Int.le_refl _) g2
  refine Ok.eq ?_
  unfold d_Task_serving m_Task_serving
  rw [k_run]
  simp? only [(mulT_n h h4).1, k_CXKL, isC]
  exact ⟨_, e, rfl⟩
set_option Elab.async false
set_option linter.all false
set_option maxRecDepth 100000
open M PySem L2
theorem en_at (i : Int) (h0 : 0 ≤ i) (h6 : i < 8) : ∃ e, e ∈ EN ∧ L2.atI [D.str "", .str "a", .str "b", .str "c", .str "ab", .str "ac", .str "bc", .str "abc"] i = some (.str e) := by
  have : i = 0 ∨ i = 1 ∨ i = 2 ∨ i = 3 ∨ i = 4 ∨ i = 5 ∨ i = 6 ∨ i = 7 := by omega
  rcases this with rfl | rfl | rfl | rfl | rfl | rfl | rfl | rfl <;> exact ⟨_, by simp [EN], rfl⟩
theorem ord_at (i : Int) (h0 : 0 ≤ i) (h6 : i < 3) : ∃ w, ordW w ∧ L2.atI [D.str "first", .str "last", .str "dues"] i = some (.str w) := by
  have : i = 0 ∨ i = 1 ∨ i = 2 := by omega
  rcases this with rfl | rfl | rfl <;> exact ⟨_, by simp [ordW], rfl⟩
theorem rul_at (i : Int) (h0 : 0 ≤ i) (h6 : i < 2) : ∃ w : Str, (w = "lend" ∨ w = "ceil") ∧ L2.atI [D.str "lend", .str "ceil"] i = some (.str w) := by
  have : i = 0 ∨ i = 1 := by omega
  rcases this with rfl | rfl <;> exact ⟨_, by simp, rfl⟩
theorem dok_plan {xs : List Str} (en : ∀ e ∈ xs, e ∈ EN) (n : Nat) : doks n (xs.map .str) = true := by
  induction xs with
  | nil => simp [doks]
  | cons x xs ih =>
    have h1 := strOk_en x (en x (List.mem_cons_self ..))
    simp only [List.map_cons, doks, ih fun e he => en e (List.mem_cons_of_mem _ he), dok, h1, Bool.and_self]
theorem dok_nodes {xs : List Str} (en : ∀ e ∈ xs, e ∈ EN) (due : Int) : dok 60 (.tup [.tup [.tup (xs.map .str), .int due]]) = true := by
  simp only [dok, doks, dok_plan en, Bool.and_self]
theorem dok_edge (a b c : Int) : dok 60 (.tup [.tup [.int a, .int b, .int c]]) = true := by simp only [dok, doks, Bool.and_self]
theorem k_isntB {a b : Bool} {Q : D → Prop} : Ok (isntBD (.bl a) (.bl b)) Q ↔ Q (.bl (!decide (a = b))) := ok_ok
theorem tk_0 {ns : List Node} {es : List Edge} {st : Bool} {c : D} : fldD 4 0 (taskO ns es st c) = .ok (.tup (ns.map ndD)) := rfl
theorem tk_1 {ns : List Node} {es : List Edge} {st : Bool} {c : D} : fldD 4 1 (taskO ns es st c) = .ok (.tup (es.map edD)) := rfl
theorem tk_2 {ns : List Node} {es : List Edge} {st : Bool} {c : D} : fldD 4 2 (taskO ns es st c) = .ok (.bl st) := rfl
theorem k_CXSs {n : Nat} {mask : List Bool} {dd : List D} {o : List D → R D} {fa fk : FA} {S : M.Env} {Q : D → Prop} : Ok (eCXS n mask dd o fa fk S) Q ↔ Ok (fa S) fun as => Ok (fk S) fun bs => (n ≤ as.length ∧ as.length ≤ sizeLine) ∧ Ok (o (as.take n ++ mergeK mask dd bs ++ [.tup (as.drop n)])) Q := by
  unfold eCXS; simp only [ok_bind, ok_if]
theorem srv_no {ns : List Node} {es : List Edge} {c : D} : d_Task_server [taskO ns es false c] = .ok (.bl false) := rfl
theorem srv_yes {n : Nat} (h : 1 ≤ n) (h4 : n ≤ 4) {g : Int} {c : D} : d_Task_server [taskO [(List.replicate n "", g)] [(0, 0, g)] true c] = .ok (.bl true) := by
  refine Ok.eq ?_
  unfold d_Task_server m_Task_server
  rw [ok_nox, k_run]
  simp? only [tk_0, tk_1, tk_2]
  refine ⟨ndD (List.replicate n "", g), rfl, ?_⟩
  show Ok (gT 2 (gsC (gN 1) (gsC (gN 2) gsN)) (ndD (List.replicate n "", g)) _) _
  simp? only [k_gnd]
  have : n = 1 ∨ n = 2 ∨ n = 3 ∨ n = 4 := by omega
  have e2 : ixA (.tup [edD (0, 0, g)]) (.int 0) = .ok (edD (0, 0, g)) := rfl
  have e3 : ixA (edD (0, 0, g)) (.int 2) = .ok (.int g) := rfl
  simp? only [tk_1, e2, e3]
  have e4 : anyTD (planD (List.replicate n "")) = .ok (.bl false) := by rcases this with rfl | rfl | rfl | rfl <;> kernel_rfl
  simp? only [e4]
  first | rfl | trivial | skip
theorem ne_self {d : D} (h : dok 60 d = true) : neD d d = .ok (.bl false) := Ok.eq ((k_neS h).mpr rfl)
theorem tk_o {ns : List Node} {es : List Edge} {st : Bool} {c : D} : (taskO ns es st c).isObj 4 = true := rfl
theorem ch_f0 {w : Str} {r : D} : fldD 5 0 (chO w r) = .ok (.str w) := rfl
theorem ch_f1 {w : Str} {r : D} : fldD 5 1 (chO w r) = .ok r := rfl
theorem ne_nodes {xs : List Str} (en : ∀ e ∈ xs, e ∈ EN) (due : Int) : neD (.tup [ndD (xs, due)]) (.tup [.tup [.tup (xs.map .str), .int due]]) = .ok (.bl false) := ne_self (dok_nodes en due)
theorem ne_edge (g : Int) : neD (.tup [edD (0, 0, g)]) (.tup [.tup [.int 0, .int 0, .int g]]) = .ok (.bl false) := ne_self (dok_edge 0 0 g)
theorem mn2 (a b : Int) : min2D (.int a) (.int b) = .ok (.int (min a b)) := by
  have e : (if b < a then b else a) = min a b := by split <;> omega
  show R.ok (D.int (if b < a then b else a)) = _
  rw [e]
theorem p_always : ∃ sa, d_Supply_always [.cls 3] = .ok sa := by
  have e := p_SupplyB (raw := [(0, 1, 0)]) (begun := [0]) (t1 := false) (t2 := true) (size := 1) ⟨by omega, by omega, by simp, by simp, by intro s hs; simp at hs; omega, by simp, by intro e he; simp at he; subst he; exact ⟨by decide, .inr rfl, by decide⟩, by simp, by intro s h0 h1; have : s = 0 := (by omega); subst this; exact ⟨(0, 1, 0), by simp, rfl⟩⟩
  refine ⟨_, Ok.eq (a := supO 1 (([(0, 1, 0)] : List T3).mergeSort tle) (([0] : List Int).mergeSort ile)) ?_⟩
  unfold d_Supply_always m_Supply_always
  rw [k_run]
  simp? only [k_CXL, isC]
  exact ⟨_, e, rfl⟩
abbrev S5 (s d p du g m l pl sv o r b t mo w : Option Sl) : M.Env := [s, d, p, du, g, m, l, pl, sv, o, r, b, t, mo, w, none, none, none, none, none, none, none, none, none, none, none]
set_option Elab.async false
set_option linter.all false
set_option maxRecDepth 100000
open M PySem L2
theorem pure_law : ∀ ns : List Int, ns.length ≤ 63 → (∀ z ∈ ns, Builtin.Int.intBits z ≤ 1048576) → d_law [.scr ns] = .ok (.bl true) := by
  intro ns _ _
  have hs := size_ge
  refine Ok.eq ?_
  obtain ⟨ds, V, ed⟩ := p_draws ns 0 16 (by omega) (by omega) (by omega)
  unfold d_law m_law
  rw [ok_nox, k_run]
  have at_ : ∀ i : Int, 0 ≤ i → i < 16 → L2.atI (ds.map D.int) i = some (.int (drw ds i)) := fun i h0 hi => V.at h0 hi
  obtain ⟨len, n1, n2, el⟩ : ∃ len : Nat, 1 ≤ len ∧ len ≤ 4 ∧ 1 + drw ds 8 % 4 = (len : Int) := ⟨(1 + drw ds 8 % 4).toNat, by omega, by omega, by omega⟩
  have V4 : ∀ i : Nat, ∃ e, e ∈ EN ∧ L2.atI [D.str "", .str "a", .str "b", .str "c", .str "ab", .str "ac", .str "bc", .str "abc"] (drw ds (4 + (i : Int)) % 8) = some (.str e) := fun i => en_at _ (by omega) (by omega)
  obtain ⟨fe, fe0⟩ : ∃ fe : Nat → Str, ∀ i, fe i ∈ EN ∧ L2.atI [D.str "", .str "a", .str "b", .str "c", .str "ab", .str "ac", .str "bc", .str "abc"] (drw ds (4 + (i : Int)) % 8) = some (.str (fe i)) := ⟨fun i => (V4 i).choose, fun i => (V4 i).choose_spec⟩
  obtain ⟨xs, exs⟩ : ∃ xs : List Str, xs = (List.range len).map fe := ⟨_, rfl⟩
  have xl : xs.length = len := by rw [exs]; simp
  have en : ∀ e ∈ xs, e ∈ EN := by rw [exs]; intro e he; obtain ⟨i, _, rfl⟩ := List.mem_map.mp he; exact (fe0 i).1
  refine seq_cut (fun S => S = S5 (some (Sl.mk false (.scr ns))) (some (Sl.mk false (.lst (ds.map .int)))) none none none none none none none none none none none none none) ?_ ?_
  · simp? only []
    exact ⟨_, ed, rfl⟩
  rintro S rfl
  refine seq_cut (fun S => S = S5 (some (Sl.mk false (.scr ns))) (some (Sl.mk false (.lst (ds.map .int)))) (some (Sl.mk false (.lst (xs.map .str)))) none none none none none none none none none none none none) ?_ ?_
  · rw [k_set]
    refine k_lcM (fun (i : Nat) => .int (i : Int)) (fun i => .str (fe i)) (List.range len) ?_ (by rw [List.length_range]; omega) ?_ ?_
    · have e8 := at_ 8 (by omega) (by omega)
      simp? only [e8]
      refine ⟨by decide, ⟨by omega, by omega⟩, ?_⟩
      rw [el]
      unfold rngL
      rw [Int.toNat_natCast]
      refine List.map_congr_left fun i _ => ?_
      rw [Int.zero_add]
    · intro i hi
      have hi := List.mem_range.mp hi
      have ei := at_ (4 + (i : Int)) (by omega) (by omega)
      simp? only [wipeS, ei]
      exact ⟨by decide, _, (fe0 i).2, rfl⟩
    · rw [exs, List.map_map]
      exact ⟨rfl, rfl⟩
  rintro S rfl
  obtain ⟨due, ue⟩ : ∃ due : Int, due = min 7 ((xs.length : Int) + drw ds 9 % 5) := ⟨_, rfl⟩
  obtain ⟨gap, ge⟩ : ∃ gap : Int, gap = min 8 (due + drw ds 10 % 4) := ⟨_, rfl⟩
  have u1 : (xs.length : Int) ≤ due := by omega
  have u2 : due ≤ 7 := by omega
  have g1 : due ≤ gap := by omega
  have g2 : gap ≤ 8 := by omega
  refine seq_cut (fun S => S = S5 (some (Sl.mk false (.scr ns))) (some (Sl.mk false (.lst (ds.map .int)))) (some (Sl.mk false (.lst (xs.map .str)))) (some (Sl.mk false (.int due))) none none none none none none none none none none none) ?_ ?_
  · have e9 := at_ 9 (by omega) (by omega)
    simp? only [e9, List.length_map]
    refine ⟨by decide, ?_⟩
    rw [mn2, ← ue, ok_ok]
  rintro S rfl
  refine seq_cut (fun S => S = S5 (some (Sl.mk false (.scr ns))) (some (Sl.mk false (.lst (ds.map .int)))) (some (Sl.mk false (.lst (xs.map .str)))) (some (Sl.mk false (.int due))) (some (Sl.mk false (.int gap))) none none none none none none none none none none) ?_ ?_
  · have e10 := at_ 10 (by omega) (by omega)
    simp? only [e10]
    refine ⟨by decide, ?_⟩
    rw [mn2, ← ge, ok_ok]
  rintro S rfl
  have G : Nd xs due := ⟨by omega, by omega, u1, by omega, en⟩
  obtain ⟨mk, emk⟩ : ∃ mk, mk = taskO [(xs, due)] [(0, 0, gap)] false (.tup ((capsOf [(xs, due)] [(0, 0, gap)]).map .int)) := ⟨_, rfl⟩
  have t1 := t_one false false G g1 g2
  rw [← emk] at t1
  refine seq_cut (fun S => S = S5 (some (Sl.mk false (.scr ns))) (some (Sl.mk false (.lst (ds.map .int)))) (some (Sl.mk false (.lst (xs.map .str)))) (some (Sl.mk false (.int due))) (some (Sl.mk false (.int gap))) (some (Sl.mk false (mk))) none none none none none none none none none) ?_ ?_
  · simp? only [k_CXD]
    exact ⟨_, t1, rfl⟩
  rintro S rfl
  refine seq_cut (fun S => S = S5 (some (Sl.mk false (.scr ns))) (some (Sl.mk false (.lst (ds.map .int)))) (some (Sl.mk false (.lst (xs.map .str)))) (some (Sl.mk false (.int due))) (some (Sl.mk false (.int gap))) (some (Sl.mk false (mk))) none none none none none none none none none) ?_ ?_
  · have k0 := dok_nodes en due
    have k1 := dok_edge 0 0 gap
    subst emk
    simp? only [tk_0, tk_1, tk_2]
    show Ok (neD (.tup [.tup [.tup (xs.map .str), .int due]]) (.tup [.tup [.tup (xs.map .str), .int due]])) _
    rw [k_neS k0]
    simp? only []
    show Ok (neD (.tup [.tup [.int 0, .int 0, .int gap]]) (.tup [.tup [.int 0, .int 0, .int gap]])) _
    rw [k_neS k1]
    simp? only [k_isntB]
    first | rfl | decide | skip
  rintro S rfl
  obtain ⟨lt, elt⟩ : ∃ lt, lt = taskO [(["", "", "", ""], 8), (["abc"], 1)] lastE false (.tup ((capsOf [(["", "", "", ""], 8), (["abc"], 1)] lastE).map .int)) := ⟨_, rfl⟩
  have tl := t_last
  rw [← elt] at tl
  refine seq_cut (fun S => S = S5 (some (Sl.mk false (.scr ns))) (some (Sl.mk false (.lst (ds.map .int)))) (some (Sl.mk false (.lst (xs.map .str)))) (some (Sl.mk false (.int due))) (some (Sl.mk false (.int gap))) (some (Sl.mk false (mk))) (some (Sl.mk false (lt))) none none none none none none none none) ?_ ?_
  · simp? only [k_CXD]
    exact ⟨_, tl, rfl⟩
  rintro S rfl
  refine seq_cut (fun S => S = S5 (some (Sl.mk false (.scr ns))) (some (Sl.mk false (.lst (ds.map .int)))) (some (Sl.mk false (.lst (xs.map .str)))) (some (Sl.mk false (.int due))) (some (Sl.mk false (.int gap))) (some (Sl.mk false (mk))) (some (Sl.mk false (lt))) none none none none none none none none) ?_ ?_
  · have t2 := t_none false G
    have k0 : dok 60 (.tup (lastE.map edD)) = true := by kernel_rfl
    subst elt
    simp? only [tk_0, tk_1, tk_2]
    show Ok (neD (.tup (lastE.map edD)) (.tup (lastE.map edD))) _
    rw [k_neS k0]
    simp? only [k_CXD]
    refine ⟨_, t2, ?_⟩
    simp? only [tk_1]
    exact ⟨.bl false, by kernel_rfl, false, rfl, fun h => (nomatch h)⟩
  rintro S rfl
  obtain ⟨be, hb, aa, haa, eb⟩ := p_bads (xs := xs) (due := due) (gap := gap) V (by omega) (by omega) (by omega) (by omega)
  have bx := bads_x (xs := xs) (due := due) (gap := gap) (d2 := drw ds 2) (d3 := drw ds 3) (be := be) (at_ := aa) (by omega) (by omega) en hb haa u1 u2 g1 g2 (V.b 2).1 (V.b 3).1
  have bl : (bads xs due gap be aa (drw ds 2) (drw ds 3)).length = 14 := rfl
  refine seq_cut (fun S => S = S5 (some (Sl.mk false (.scr ns))) (some (Sl.mk false (.lst (ds.map .int)))) (some (Sl.mk false (.lst (xs.map .str)))) (some (Sl.mk false (.int due))) (some (Sl.mk false (.int gap))) (some (Sl.mk false (mk))) (some (Sl.mk false (lt))) none none none none none none none none) ?_ ?_
  · generalize hB : bads xs due gap be aa (drw ds 2) (drw ds 3) = B at bx eb bl
    rw [k_if]
    refine Ok.mono (P := fun b => b = false) ?_ (by rintro b rfl; exact ⟨fun h => (nomatch h), fun _ => ⟨_, rfl, rfl, rfl⟩⟩)
    simp? only []
    refine k_lcM (fun q => tk5 q.1 q.2.1 q.2.2) (fun _ => .bl true) B ?_ (by omega) ?_ ?_
    · simp? only [eb]
      first | rfl | trivial | skip
    · intro q hq
      unfold tk5
      simp? only [wipeS, k_gT]
      exact ⟨_, p_refused rfl (bx q hq), rfl⟩
    · simp? only [k_all]
      simp
  rintro S rfl
  have pp := p_plain (n := len) (due := due) (gap := gap) n1 n2 (by omega) (by omega) g1 g2
  have ps := p_serving (n := len) (gap := gap) n1 n2 (by omega) g2
  obtain ⟨pt, ept⟩ : ∃ pt, pt = taskO [(List.replicate len "", due)] [(0, 0, gap)] false (.tup ((capsOf [(List.replicate len "", due)] [(0, 0, gap)]).map .int)) := ⟨_, rfl⟩
  obtain ⟨st, est⟩ : ∃ st, st = taskO [(List.replicate len "", gap)] [(0, 0, gap)] true (.tup ((capsOf [(List.replicate len "", gap)] [(0, 0, gap)]).map .int)) := ⟨_, rfl⟩
  rw [← ept] at pp
  rw [← est] at ps
  refine seq_cut (fun S => S = S5 (some (Sl.mk false (.scr ns))) (some (Sl.mk false (.lst (ds.map .int)))) (some (Sl.mk false (.lst (xs.map .str)))) (some (Sl.mk false (.int due))) (some (Sl.mk false (.int gap))) (some (Sl.mk false (mk))) (some (Sl.mk false (lt))) (some (Sl.mk false (pt))) (some (Sl.mk false (st))) none none none none none none) ?_ ?_
  · simp? only [k_CMXs, isC, List.length_map, xl]
    exact ⟨_, pp, _, ps, rfl⟩
  rintro S rfl
  refine seq_cut (fun S => S = S5 (some (Sl.mk false (.scr ns))) (some (Sl.mk false (.lst (ds.map .int)))) (some (Sl.mk false (.lst (xs.map .str)))) (some (Sl.mk false (.int due))) (some (Sl.mk false (.int gap))) (some (Sl.mk false (mk))) (some (Sl.mk false (lt))) (some (Sl.mk false (pt))) (some (Sl.mk false (st))) none none none none none none) ?_ ?_
  · have k0 := dok_nodes (en_nil len) due
    have k1 := dok_edge 0 0 gap
    subst ept
    simp? only [tk_0, tk_1, tk_2, List.length_map, xl, (mulT_n n1 n2).2, srv_no, ne_nodes (en_nil len) due, ne_edge gap, tk_o]
    first | rfl | trivial | skip
  rintro S rfl
  refine seq_cut (fun S => S = S5 (some (Sl.mk false (.scr ns))) (some (Sl.mk false (.lst (ds.map .int)))) (some (Sl.mk false (.lst (xs.map .str)))) (some (Sl.mk false (.int due))) (some (Sl.mk false (.int gap))) (some (Sl.mk false (mk))) (some (Sl.mk false (lt))) (some (Sl.mk false (pt))) (some (Sl.mk false (st))) none none none none none none) ?_ ?_
  · have k0 := dok_nodes (en_nil len) gap
    have k1 := dok_edge 0 0 gap
    subst est
    simp? only [tk_0, tk_1, tk_2, List.length_map, xl, (mulT_n n1 n2).2, srv_yes n1 n2, ne_nodes (en_nil len) gap, ne_edge gap, tk_o]
    first | rfl | trivial | skip
  rintro S rfl
  obtain ⟨w, hw, ew⟩ := ord_at (drw ds 11 % 3) (by omega) (by omega)
  obtain ⟨r, hr, er⟩ := rul_at (drw ds 12 % 2) (by omega) (by omega)
  refine seq_cut (fun S => S = S5 (some (Sl.mk false (.scr ns))) (some (Sl.mk false (.lst (ds.map .int)))) (some (Sl.mk false (.lst (xs.map .str)))) (some (Sl.mk false (.int due))) (some (Sl.mk false (.int gap))) (some (Sl.mk false (mk))) (some (Sl.mk false (lt))) (some (Sl.mk false (pt))) (some (Sl.mk false (st))) (some (Sl.mk false (.str w))) none none none none none) ?_ ?_
  · have e11 := at_ 11 (by omega) (by omega)
    simp? only [e11]
    exact ⟨by decide, _, ew, rfl⟩
  rintro S rfl
  refine seq_cut (fun S => S = S5 (some (Sl.mk false (.scr ns))) (some (Sl.mk false (.lst (ds.map .int)))) (some (Sl.mk false (.lst (xs.map .str)))) (some (Sl.mk false (.int due))) (some (Sl.mk false (.int gap))) (some (Sl.mk false (mk))) (some (Sl.mk false (lt))) (some (Sl.mk false (pt))) (some (Sl.mk false (st))) (some (Sl.mk false (.str w))) (some (Sl.mk false (.str r))) none none none none) ?_ ?_
  · have e12 := at_ 12 (by omega) (by omega)
    simp? only [e12]
    exact ⟨by decide, _, er, rfl⟩
  rintro S rfl
  refine seq_cut (fun S => S = S5 (some (Sl.mk false (.scr ns))) (some (Sl.mk false (.lst (ds.map .int)))) (some (Sl.mk false (.lst (xs.map .str)))) (some (Sl.mk false (.int due))) (some (Sl.mk false (.int gap))) (some (Sl.mk false (mk))) (some (Sl.mk false (lt))) (some (Sl.mk false (pt))) (some (Sl.mk false (st))) (some (Sl.mk false (.str w))) (some (Sl.mk false (.str r))) none none none none) ?_ ?_
  · have c1 : d_Choice [.str w, .tup [.str "lend", .str "ceil"]] = .ok (chO w (.tup [.str "ceil", .str "lend"])) := by rw [p_choice hw (.inr (.inr (.inr rfl))), srt_lc]
    have c2 : d_Choice [.str w, .tup [.str r]] = .ok (chO w (.tup [.str r])) := by rw [p_choice hw (by rcases hr with rfl | rfl; exact .inr (.inl rfl); exact .inr (.inr (.inl rfl))), srt_n1]
    have ew0 : neD (.str w) (.str w) = .ok (.bl false) := by rcases hw with rfl | rfl | rfl <;> kernel_rfl
    have ec0 : neD (.tup [.str "ceil", .str "lend"]) (.tup [.str "ceil", .str "lend"]) = .ok (.bl false) := by kernel_rfl
    have en0 : neD (.tup []) (.tup []) = .ok (.bl false) := by kernel_rfl
    simp? only [k_CXSs]
    show Ok (d_Choice [.str w, .tup [.str "lend", .str "ceil"]]) _
    simp? only [c1, ch_f1, ec0]
    show Ok (d_Choice [.str w, .tup [.str r]]) _
    simp? only [c2, ch_f0, ew0, k_CXZ]
    show Ok (d_Choice [.str "first", .tup []]) _
    simp? only [p_ch0, ch_f1, en0]
    first | rfl | trivial | skip
  rintro S rfl
  have e13 := at_ 13 (by omega) (by omega)
  obtain ⟨du, hdu, edu⟩ : ∃ du : Str, (du = "due" ∨ du = "duess" ∨ du = "duessss") ∧ ∃ z, mulTS (.str "s") (.int (drw ds 13 % 3 * 2)) = .ok (.str z) ∧ addD (.str "due") (.str z) = .ok (.str du) := by
    have : drw ds 13 % 3 = 0 ∨ drw ds 13 % 3 = 1 ∨ drw ds 13 % 3 = 2 := by omega
    rcases this with h | h | h
    · rw [h]; exact ⟨"due", .inl rfl, "", by kernel_rfl, by kernel_rfl⟩
    · rw [h]; exact ⟨"duess", .inr (.inl rfl), "ss", by kernel_rfl, by kernel_rfl⟩
    · rw [h]; exact ⟨"duessss", .inr (.inr rfl), "ssss", by kernel_rfl, by kernel_rfl⟩
  obtain ⟨z, ez, edz⟩ := edu
  obtain ⟨rs, hrs, ers⟩ : ∃ rs : Str, (rs = "lends" ∨ rs = "ceils") ∧ addD (.str r) (.str "s") = .ok (.str rs) := by
    rcases hr with rfl | rfl
    · exact ⟨"lends", .inl rfl, by kernel_rfl⟩
    · exact ⟨"ceils", .inr rfl, by kernel_rfl⟩
  obtain ⟨BL, eBL⟩ : ∃ BL : List (Str × Str × Str), BL = [(w, r, r), (du, r, ""), (w, rs, ""), (r, w, "")] := ⟨_, rfl⟩
  have hBL : ∀ q ∈ BL, d__law_choice_refused [.str q.1, .str q.2.1, .str q.2.2] = .ok (.bl true) := by
    have h1 := ch_refused hw hr
    have h2 := ch_rules hw
    intro q hq
    rw [eBL] at hq
    simp only [List.mem_cons, List.not_mem_nil, or_false] at hq
    rcases hq with rfl | rfl | rfl | rfl
    · exact h1.1
    · rcases hdu with rfl | rfl | rfl
      · exact h1.2.1
      · exact h1.2.2.1
      · exact h1.2.2.2.1
    · rcases hrs with rfl | rfl
      · exact h2.1
      · exact h2.2
    · exact h1.2.2.2.2
  refine seq_cut (fun S => S = S5 (some (Sl.mk false (.scr ns))) (some (Sl.mk false (.lst (ds.map .int)))) (some (Sl.mk false (.lst (xs.map .str)))) (some (Sl.mk false (.int due))) (some (Sl.mk false (.int gap))) (some (Sl.mk false (mk))) (some (Sl.mk false (lt))) (some (Sl.mk false (pt))) (some (Sl.mk false (st))) (some (Sl.mk false (.str w))) (some (Sl.mk false (.str r))) (some (Sl.mk false (.lst (BL.map fun q => .tup [.str q.1, .str q.2.1, .str q.2.2])))) none none none) ?_ ?_
  · have em : mulTS (.int (drw ds 13 % 3)) (.int 2) = .ok (.int (drw ds 13 % 3 * 2)) := by
      have : drw ds 13 % 3 = 0 ∨ drw ds 13 % 3 = 1 ∨ drw ds 13 % 3 = 2 := by omega
      rcases this with h | h | h <;> rw [h] <;> kernel_rfl
    simp? only [e13, em, ez, edz, ers]
    exact ⟨by decide, by rw [eBL]; rfl⟩
  rintro S rfl
  have bll : BL.length = 4 := by rw [eBL]; rfl
  refine seq_cut (fun S => S = S5 (some (Sl.mk false (.scr ns))) (some (Sl.mk false (.lst (ds.map .int)))) (some (Sl.mk false (.lst (xs.map .str)))) (some (Sl.mk false (.int due))) (some (Sl.mk false (.int gap))) (some (Sl.mk false (mk))) (some (Sl.mk false (lt))) (some (Sl.mk false (pt))) (some (Sl.mk false (st))) (some (Sl.mk false (.str w))) (some (Sl.mk false (.str r))) (some (Sl.mk false (.lst (BL.map fun q => .tup [.str q.1, .str q.2.1, .str q.2.2])))) none none none) ?_ ?_
  · rw [k_if]
    refine Ok.mono (P := fun b => b = false) ?_ (by rintro b rfl; exact ⟨fun h => (nomatch h), fun _ => ⟨_, rfl, rfl, rfl⟩⟩)
    simp? only []
    refine k_lcM (fun q : Str × Str × Str => D.tup [.str q.1, .str q.2.1, .str q.2.2]) (fun _ => .bl true) BL ?_ (by omega) ?_ ?_
    · simp? only []
    · intro q hq
      simp? only [wipeS, k_gT]
      exact ⟨_, hBL q hq, rfl⟩
    · simp? only [k_all]
      simp
  rintro S rfl
  have pt10 : d_Task_plain [.cls 4, .int 1, .int 2, .int 2] = .ok ten := p_plain (n := 1) (due := 2) (gap := 2) (by omega) (by omega) (by omega) (by omega) (by omega) (by omega)
  obtain ⟨m, m1, m2, em⟩ : ∃ m : Nat, 1 ≤ m ∧ m ≤ 8 ∧ 101 + drw ds 14 % 8 = ((100 + m : Nat) : Int) := ⟨(1 + drw ds 14 % 8).toNat, by omega, by omega, by omega⟩
  refine seq_cut (fun S => S = S5 (some (Sl.mk false (.scr ns))) (some (Sl.mk false (.lst (ds.map .int)))) (some (Sl.mk false (.lst (xs.map .str)))) (some (Sl.mk false (.int due))) (some (Sl.mk false (.int gap))) (some (Sl.mk false (mk))) (some (Sl.mk false (lt))) (some (Sl.mk false (pt))) (some (Sl.mk false (st))) (some (Sl.mk false (.str w))) (some (Sl.mk false (.str r))) (some (Sl.mk false (.lst (BL.map fun q => .tup [.str q.1, .str q.2.1, .str q.2.2])))) (some (Sl.mk false (ten))) (some (Sl.mk false (.int (100 + m : Nat)))) none) ?_ ?_
  · have e14 := at_ 14 (by omega) (by omega)
    simp? only [k_CMXs, isC, pt10, e14]
    exact ⟨by decide, by rw [em]; rfl⟩
  rintro S rfl
  obtain ⟨a0, b0, c0, l0⟩ := p_long (n := 100) (by omega) (by omega)
  obtain ⟨a1, b1, c1, l1⟩ := p_long (n := 100 + m) (by omega) (by omega)
  obtain ⟨x1, x2, x3, x4, x5, x6, ec⟩ := core_100 (a := a0) (b := b0) (c := c0)
  have el2 := p_large m1 m2 (a := a1) (b := b1) (c := c1)
  refine seq_cut (fun S => S = S5 (some (Sl.mk false (.scr ns))) (some (Sl.mk false (.lst (ds.map .int)))) (some (Sl.mk false (.lst (xs.map .str)))) (some (Sl.mk false (.int due))) (some (Sl.mk false (.int gap))) (some (Sl.mk false (mk))) (some (Sl.mk false (lt))) (some (Sl.mk false (pt))) (some (Sl.mk false (st))) (some (Sl.mk false (.str w))) (some (Sl.mk false (.str r))) (some (Sl.mk false (.lst (BL.map fun q => .tup [.str q.1, .str q.2.1, .str q.2.2])))) (some (Sl.mk false (ten))) (some (Sl.mk false (.int (100 + m : Nat)))) none) ?_ ?_
  · have l0' : d__law_long [.int 100] = .ok (suN 0 a0 b0 c0) := l0
    have l1' : d__law_long [.int ((100 + m : Nat) : Int)] = .ok (suN m a1 b1 c1) := l1
    have n0 : neD (.int 100000) (.int 100000) = .ok (.bl false) := rfl
    simp? only [k_CXSs, l0']
    show Ok (d_Core [suN 0 a0 b0 c0, .non, .str "shut", .str "cut", .tup [ten, ten, ten]]) _
    rw [ec, ok_ok]
    show Ok (fldD 6 5 (.obj 6 [x1, x2, x3, x4, x5, .int 100000, x6])) _
    have f5 : fldD 6 5 (.obj 6 [x1, x2, x3, x4, x5, .int 100000, x6]) = .ok (.int 100000) := rfl
    simp? only [f5, n0, l1', el2]
  rintro S rfl
  have pt4 := p_plain (n := 4) (due := 8) (gap := 8) (by omega) (by omega) (by omega) (by omega) (by omega) (by omega)
  obtain ⟨t4, et4⟩ : ∃ t4, t4 = taskO [(List.replicate 4 "", 8)] [(0, 0, 8)] false (.tup ((capsOf [(List.replicate 4 "", 8)] [(0, 0, 8)]).map .int)) := ⟨_, rfl⟩
  rw [← et4] at pt4
  obtain ⟨dr, hdr, edr⟩ : ∃ dr : Str, (dr = "closed" ∨ dr = "" ∨ dr = "Shut") ∧ L2.atI [D.str "closed", .str "", .str "Shut"] (drw ds 15 % 3) = some (.str dr) := by
    have : drw ds 15 % 3 = 0 ∨ drw ds 15 % 3 = 1 ∨ drw ds 15 % 3 = 2 := by omega
    rcases this with h | h | h
    · rw [h]; exact ⟨_, .inl rfl, rfl⟩
    · rw [h]; exact ⟨_, .inr (.inl rfl), rfl⟩
    · rw [h]; exact ⟨_, .inr (.inr rfl), rfl⟩
  obtain ⟨WL, eWL⟩ : ∃ WL : List (D × Int × Str × Str), WL = ([(mk, 4, "shut", "cut"), (mk, 1, dr, "cut"), (mk, 1, "open", "drop"), (t4, 4, "open", "trust")] : List (D × Int × Str × Str)) := ⟨_, rfl⟩
  have hWL : ∀ q ∈ WL, ∀ su, d__law_core_refused [su, q.1, .int q.2.1, .str q.2.2.1, .str q.2.2.2] = .ok (.bl true) := by
    intro q hq su
    rw [eWL] at hq
    simp only [List.mem_cons, List.not_mem_nil, or_false] at hq
    rcases hq with rfl | rfl | rfl | rfl
    · exact core_ref1
    · rcases hdr with rfl | rfl | rfl
      · exact core_ref2.1
      · exact core_ref2.2.1
      · exact core_ref2.2.2
    · exact core_ref3
    · exact core_ref4
  have wll : WL.length = 4 := by rw [eWL]; rfl
  refine seq_cut (fun S => S = S5 (some (Sl.mk false (.scr ns))) (some (Sl.mk false (.lst (ds.map .int)))) (some (Sl.mk false (.lst (xs.map .str)))) (some (Sl.mk false (.int due))) (some (Sl.mk false (.int gap))) (some (Sl.mk false (mk))) (some (Sl.mk false (lt))) (some (Sl.mk false (pt))) (some (Sl.mk false (st))) (some (Sl.mk false (.str w))) (some (Sl.mk false (.str r))) (some (Sl.mk false (.lst (BL.map fun q => .tup [.str q.1, .str q.2.1, .str q.2.2])))) (some (Sl.mk false (ten))) (some (Sl.mk false (.int (100 + m : Nat)))) (some (Sl.mk false (.lst (WL.map fun q => .tup [q.1, .int q.2.1, .str q.2.2.1, .str q.2.2.2]))))) ?_ ?_
  · have e15 := at_ 15 (by omega) (by omega)
    simp? only [k_CMXs, isC, e15]
    refine ⟨by decide, _, edr, ?_⟩
    have pt4' : d_Task_plain [.cls 4, .int 4, .int 8, .int 8] = .ok t4 := pt4
    rw [pt4', ok_ok, eWL]
    rfl
  rintro S rfl
  obtain ⟨sa, esa⟩ : ∃ sa, d_Supply_always [.cls 3] = .ok sa := p_always
  simp? only []
  refine k_lcM (fun q : D × Int × Str × Str => D.tup [q.1, .int q.2.1, .str q.2.2.1, .str q.2.2.2]) (fun _ => .bl true) WL ?_ (by omega) ?_ ?_
  · simp? only []
  · intro q hq
    simp? only [wipeS, k_gT, k_CM0, isC, esa]
    exact ⟨_, hWL q hq sa, rfl⟩
  · simp? only [k_all]
    simp
end Pf
set_option Elab.async false
set_option linter.all false
set_option maxRecDepth 100000
set_option maxHeartbeats 0
open PySem PySem.W PySem.Calls PyProof.Rows
theorem PySem.Challenge.cw_firstbreach_k05_invalid_parts_holds : PySem.Challenge.rw_firstbreach_k05_invalid_parts.Holds := by
  w_on; o_law
  refine HandSHeadRun.head_any (r := OpenLaw.row PySem.Challenge.rw_firstbreach_k05_invalid_parts) (q := view (OpenLaw.row PySem.Challenge.rw_firstbreach_k05_invalid_parts).prog [49]) (H := Pf.hk) (ob := Pf.ob) (M := 20000) (loose := Pf.looseN) (d := HandSHeadRun.topDef (OpenLaw.row PySem.Challenge.rw_firstbreach_k05_invalid_parts).prog 49) (kwd := []) Pf.ob_eq
    (by kernel_rfl) (fun s => by kernel_rfl) Pf.run (by kernel_rfl) (by kernel_rfl) (by kernel_rfl) (by rfl) (by first | assumption | decide +kernel) (by decide +kernel) ⟨rfl, rfl, rfl, rfl, rfl, by decide +kernel⟩ ?hw ?hc
  case hw => w_witness2
  case hc =>
    refine M.walk_ofX (l := PySem.Challenge.rw_firstbreach_k05_invalid_parts) (n := 63) (k := 6) (x := "_law_script") (den := Pf.d_law) rfl (by decide) (by kernel_rfl) ⟨rfl, by decide, by decide⟩ ?F Pf.pure_law
    intro w mg fa h Y G hmg0
    obtain ⟨K, KX, c⟩ := Y
    have hmg : mg ("law" : PySem.Str) = some (.ref fa) := by
      have e : (HandSHeadRun.topDef (OpenLaw.row PySem.Challenge.rw_firstbreach_k05_invalid_parts).prog 49).name = ("law" : PySem.Str) := by kernel_rfl
      rw [← e]
      exact hmg0
    obtain ⟨fd, hb, hF⟩ := Pf.facts (P := (PySem.Challenge.rw_firstbreach_k05_invalid_parts).prog) (w := w) (by kernel_rfl) (by kernel_rfl) KX G hmg c
    exact ⟨K, fd, Pf.clK K, KX, hb, hF⟩
