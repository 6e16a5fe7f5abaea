import PyProof.Rows.All
import HandS.ForMost
import HandS.Flow
import HandS.Deep
import HandS.Evl
import KE.KDictKeyed
import HandS.WordsExc
import HandS.Exc
import HandS.TupAny
import HandS.TupMul
import HandS.TupLe
import HandS.WideBits
import HandS.Zip
import HandS.Defaults
import HandS.IsInst
import HandS.Strs
import KE.SortData
import HandS.Text
import HandS.Style
import HandS.MakeKwOnly
import HandS.MakeKw
import HandS.SetBool
import HandS.TupSets
import KE.GoesEnum
import KE.GoesMore
import HandS.Property
import HandS.Head0
import HandS.Head1
import HandS.Head2
import HandS.HeadEnd
import HandS.HeadHook1
import HandS.HeadHook2
import HandS.EndBits
import HandS.HeadNt
import KE.DataAny
import HandS.Conv
import HandS.More
import HandS.HeadHook3
import PyProof.RulesMatch
import HandS.SetFor
import HandS.SetKeys
import HandS.SortKw
import HandS.Keys
import KE.SortKeyHeap
import HandS.ExcInit
import HandS.ExcCtx
import KE.KExcLine
import KE.KSuper
import HandS.ExcField
import HandS.ExcIs
import HandS.TryOnly
import HandS.HotCalls
import HandS.ClsMeth
import HandS.DictComp
import HandS.Small
import HandS.Star
import HandS.GenBody
import HandS.GenCall
import HandS.GenList
import HandS.GenYield
import PyProof.Walks
import PySem.Challenge.RW_firstbreach_k66_wrong_word_of_a_row
set_option Elab.async false
set_option linter.all false
set_option maxRecDepth 100000
set_option maxHeartbeats 4000000
namespace M
open PySem L2
mutual
def nkp : NestedKey → Bool
  | .none => true
  | .num _ => true
  | .text _ => false
  | .tup ks => nkps ks
def nkps : List NestedKey → Bool
  | [] => true
  | k :: ks => nkp k && nkps ks
end
mutual
def hashN : NestedKey → Int
  | .none => reduceHash 0xFCA86420
  | .num i => hashInt i
  | .text _ => 0
  | .tup ks => reduceHash (Builtin.Tuple.tupleHashOf (hashNs ks))
def hashNs : List NestedKey → List Int
  | [] => []
  | k :: ks => hashN k :: hashNs ks
end
mutual
theorem hashN_eq (w : World) : ∀ k : NestedKey, nkp k = true → k.hash w = hashN k
  | .none, _ => rfl
  | .num _, _ => rfl
  | .text _, h => by cases h
  | .tup ks, h => by
    have h : nkps ks = true := h
    show reduceHash (Builtin.Tuple.tupleHashOf (NestedKey.hashes w ks)) = reduceHash (Builtin.Tuple.tupleHashOf (hashNs ks))
    rw [hashNs_eq w ks h]
theorem hashNs_eq (w : World) : ∀ ks : List NestedKey, nkps ks = true → NestedKey.hashes w ks = hashNs ks
  | [], _ => rfl
  | k :: ks, h => by
    have h : (nkp k && nkps ks) = true := h
    rw [Bool.and_eq_true] at h
    show k.hash w :: NestedKey.hashes w ks = hashN k :: hashNs ks
    rw [hashN_eq w k h.1, hashNs_eq w ks h.2]
end
abbrev XV := List (NestedKey × Addr × V)
abbrev XT : XV → List (NestedKey × Addr × Value) → Prop := Paired fun p q => p.1 = q.1 ∧ p.2.1 = q.2.1 ∧ RelV p.2.2 q.2.2
def dnP (a : Addr) (xs : XV) : Heap → Prop := fun h => (a == sysModules) = false ∧ xs.length ≤ sizeLine ∧ ∃ us, XT xs us ∧ ∃ o es ep, h.get? a = some o ∧ o.ExactDict ∧ o.data = .dict es ep ∧ es.toList = us.map (fun x => (⟨hashN x.1, .ref x.2.1, x.2.2⟩ : DictEntry)) ∧ (us.map (·.1)).Nodup
def okC (xs : List V) : Bool := decide (xs.length < 2) || (decide (3 < xs.length) || xs.all fun x => match x with | .str _ => true | _ => false)
def SqU (K : PySem.W.Frag) (H : Hp) (a : Addr) (xs : List V) : Prop := H a = some (.tup xs) ∨ ∃ (o : Obj) (its : Array Value) (n : Nat), K.lookup a = some o ∧ o.cls = .type "tuple" ∧ o.data = .seq its n ∧ its.size ≤ sizeLine ∧ Vals xs its.toList ∧ okC xs = true
theorem SqU.t {K : PySem.W.Frag} {H : Hp} {a : Addr} {xs : List V} (h : SqU K H a xs) : SqT K H a xs := by
  rcases h with h | ⟨o, its, n, h1, h2, h3, h4, h5, _⟩
  · exact SqT.of h
  · exact .inr ⟨o, its, n, h1, h2, h3, h4, h5⟩
theorem SqU.of {K : PySem.W.Frag} {H : Hp} {a : Addr} {xs : List V} (h : H a = some (.tup xs)) : SqU K H a xs := .inl h
mutual
inductive NkH (K : PySem.W.Frag) (H : Hp) : NestedKey → V → Prop where
  | none : NkH K H .none .non
  | num (i : Int) : NkH K H (.num i) (.int i)
  | tup {ks : List NestedKey} {a : Addr} {xs : List V} : SqU K H a xs → NkHs K H ks xs → NkH K H (.tup ks) (.ref a)
inductive NkHs (K : PySem.W.Frag) (H : Hp) : List NestedKey → List V → Prop where
  | nil : NkHs K H [] []
  | cons {k : NestedKey} {v : V} {ks : List NestedKey} {vs : List V} : NkH K H k v → NkHs K H ks vs → NkHs K H (k :: ks) (v :: vs)
end
def XKey (K : PySem.W.Frag) (H : Hp) (xs : XV) : Prop := ∀ x ∈ xs, NkH K H x.1 (.ref x.2.1) ∧ nkp x.1 = true ∧ x.1.depth ≤ 8
section
variable {X : Cx} {pins : List (Addr × Obj)} {σ : St} {H : Hp} {s : Shared} {a : Addr} {y v : V} {u r : Value} {A : Around} {E : Value → Shared → Prop}
mutual
theorem nk_is (I : Inv X pins σ H s) : ∀ {k : NestedKey} {v : V} {u : Value}, NkH X.K H k v → RelV v u → NestedIs s.heap k u
  | _, _, u, .none, ru => by
    have : u = .none := ru
    subst this; exact .none
  | _, _, u, .num i, ru => by
    obtain ⟨t, rfl⟩ := (show ∃ t, u = .int i t from ru)
    exact .int i t
  | _, _, u, .tup (a := a) ht hk, ru => by
    have : u = .ref a := ru
    subst this
    obtain ⟨its, rv, ⟨o, h1, h2, n, h3⟩, _⟩ := I.tuple ht.t
    exact .tup h1 h2 h3 (by rw [List.toList_toArray]; exact nks_is I hk rv)
theorem nks_is (I : Inv X pins σ H s) : ∀ {ks : List NestedKey} {vs : List V} {us : List Value}, NkHs X.K H ks vs → Vals vs us → NestedAll s.heap ks us
  | _, _, _, .nil, .nil => .nil
  | _, _, _, .cons a b, .cons r t => .cons (nk_is I a r) (nks_is I b t)
end
def DigAt (H : Hp) (l a : Addr) (xs : XV) : Prop := H l = some (.ext (dnP a xs)) ∨ ∃ o, H l = some (.frz o (.ext (dnP a xs)))
theorem DigAt.ok (I : Inv X pins σ H s) {xs : XV} {l : Addr} (e : DigAt H l a xs) : ObjOk X.prog X.w H s.heap l (.ext (dnP a xs)) := by
  rcases e with e | ⟨o, e⟩
  · exact I.hok l _ e
  · exact (show ObjOk X.prog X.w H s.heap l (.frz o (.ext (dnP a xs))) from I.hok l _ e).2
def isK (xs : XV) (k : NestedKey) : Bool := xs.any fun x => decide (x.1 = k)
theorem XT.has {xs : XV} {us : List (NestedKey × Addr × Value)} (r : XT xs us) (k : NestedKey) : (atKey us k).isSome = isK xs k := by
  induction r with
  | nil => rfl
  | @cons p q ps qs h t ih =>
    unfold isK at ih ⊢
    rw [List.any_cons, ← ih]
    by_cases e : p.1 = k
    · have b : atKey (q :: qs) k = some q.2 := by simp [atKey, List.find?_cons, h.1.symm.trans e]
      rw [b, decide_eq_true e]; rfl
    · have b : atKey (q :: qs) k = atKey qs k := by
        have e' : ¬ q.1 = k := fun z => e (h.1.trans z)
        simp [atKey, List.find?_cons, e']
      rw [b, decide_eq_false e]; rfl
def putX (xs : XV) (k : NestedKey) (b : Addr) (v : V) : XV := if isK xs k then xs.map (fun x => if x.1 = k then (x.1, x.2.1, v) else x) else xs ++ [(k, b, v)]
theorem XT.repl {xs : XV} {us : List (NestedKey × Addr × Value)} (r : XT xs us) (k : NestedKey) {y : V} {u : Value} (ry : RelV y u) : XT (xs.map fun x => if x.1 = k then (x.1, x.2.1, y) else x) (us.map (putAt k u)) := by
  induction r with
  | nil => exact .nil
  | @cons p q ps qs h t ih =>
    rw [List.map_cons, List.map_cons]
    refine .cons ?_ ih
    obtain ⟨h1, h2, h3⟩ := h
    unfold putAt
    by_cases e : p.1 = k
    · rw [if_pos e, if_pos (h1.symm.trans e)]; exact ⟨h1, h2, ry⟩
    · rw [if_neg e, if_neg (fun z => e (h1.trans z))]; exact ⟨h1, h2, h3⟩
theorem XT.put {xs : XV} {us : List (NestedKey × Addr × Value)} (r : XT xs us) (k : NestedKey) {b : Addr} {y : V} {u : Value} (ry : RelV y u) : XT (putX xs k b y) (storedH us k b u) := by
  unfold putX storedH
  rw [r.has k]
  by_cases q : isK xs k = true
  · rw [if_pos q, if_pos q]; exact r.repl k ry
  · rw [if_neg q, if_neg q]; exact Paired.snoc r ⟨rfl, rfl, ry⟩
end
end M
set_option Elab.async false
set_option linter.all false
set_option maxRecDepth 100000
set_option maxHeartbeats 4000000
namespace M
open PySem L2
section
variable {X : Cx} {pins : List (Addr × Obj)} {σ : St} {H : Hp} {s : Shared} {a : Addr} {y v : V} {u r : Value} {A : Around} {E : Value → Shared → Prop}
def dnO (a : Addr) (xs : XV) : HO := .ext (dnP a xs)
def valX (xs : XV) (k : NestedKey) : Option V := (xs.find? fun x => decide (x.1 = k)).map fun x => x.2.2
theorem XT.val {xs : XV} {us : List (NestedKey × Addr × Value)} (r : XT xs us) (k : NestedKey) : RelO (valX xs k) ((atKey us k).map (·.2)) := by
  induction r with
  | nil => exact True.intro
  | @cons p q ps qs h t ih =>
    obtain ⟨h1, _, h2⟩ := h
    by_cases e : p.1 = k
    · have e' : q.1 = k := h1.symm.trans e
      have b : atKey (q :: qs) k = some q.2 := by simp [atKey, List.find?_cons, e']
      have b2 : valX (p :: ps) k = some p.2.2 := by simp [valX, List.find?_cons, e]
      rw [b2, b]; exact h2
    · have e' : ¬ q.1 = k := fun z => e (h1.trans z)
      have b : atKey (q :: qs) k = atKey qs k := by simp [atKey, List.find?_cons, e']
      have b2 : valX (p :: ps) k = valX ps k := by simp [valX, List.find?_cons, e]
      rw [b2, b]; exact ih
end
section
variable {X : Cx} {o i e value : Expr} {pos pos' tpos : Pos} {td ty tv : TE}
end
end M
set_option Elab.async false
set_option linter.all false
set_option maxRecDepth 100000
set_option maxHeartbeats 4000000
namespace M
open PySem L2
inductive D where
  | non | bl (b : Bool) | int (i : Int) | str (x : Str) | ty (n : String)
  | tup (xs : List D) | lst (xs : List D) | dic (ks : List Key) (vs : List D) | dit (ks : List (List Key)) (vs : List D)
  | obj (c : Nat) (fs : List D) | scr (ns : List Int) | cls (c : Nat)
  | dkf (ks : List Key) (vs : List D) | dig (ks : List NestedKey) (vs : List D) | dgf (ks : List NestedKey) (vs : List D)
  deriving Inhabited
structure Exc where
  c : Nat
  fs : List D
inductive R (α : Type) where
  | ok (a : α) | exc (x : Exc) | fail
def R.bind {α β : Type} (r : R α) (f : α → R β) : R β := match r with
  | .ok a => f a
  | .exc x => .exc x
  | .fail => .fail
instance : Monad R where
  pure := .ok
  bind := R.bind
@[simp] theorem R.pure_eq {α : Type} (a : α) : (pure a : R α) = .ok a := rfl
@[simp] theorem R.ok_bind {α β : Type} (a : α) (f : α → R β) : (R.ok a >>= f) = f a := rfl
@[simp] theorem R.exc_bind {α β : Type} (x : Exc) (f : α → R β) : (R.exc x >>= f) = .exc x := rfl
@[simp] theorem R.fail_bind {α β : Type} (f : α → R β) : (R.fail >>= f) = .fail := rfl
def R.nox {α : Type} : R α → R α
  | .exc _ => .fail
  | r => r
@[simp] theorem R.nox_ok {α : Type} (a : α) : (R.ok a).nox = .ok a := rfl
@[simp] theorem R.nox_fail {α : Type} : (R.fail : R α).nox = .fail := rfl
def R.need (b : Bool) : R Unit := if b then .ok () else .fail
@[simp] theorem R.need_true : R.need true = .ok () := rfl
structure Sl where
  own : Bool
  d : D
abbrev Env := List (Option Sl)
abbrev FE := Env → R D
abbrev FT := Env → R Bool
abbrev FA := Env → R (List D)
inductive Fl where
  | nx | bk | ct | rt (d : D)
abbrev FS := Env → R (Fl × Env)
abbrev FG := D → Env → R Env
inductive Kd where
  | st | bo | fr
def Ex (H H' : Hp) : Prop := ∀ a o, H a = some o → H' a = some o
theorem Ex.refl (H : Hp) : Ex H H := fun _ _ h => h
theorem Ex.trans {H H1 H2 : Hp} (a : Ex H H1) (b : Ex H1 H2) : Ex H H2 := fun x o h => b x o (a x o h)
theorem Ex.new {H : Hp} {p : Addr} {o : HO} (h : H p = none) : Ex H (upd H p o) := fun a u e => by
  rw [upd_ne (ne_of_none e h)]; exact e
theorem Ex.upd {H H' : Hp} {p : Addr} {o : HO} (e : Ex H H') (h : H p = none) : Ex H (upd H' p o) := fun a u q => by
  rw [upd_ne (ne_of_none q h)]; exact e a u q
theorem Ex.upd2 {H H' : Hp} {p : Addr} {o : HO} (e : Ex H H') (h : H' p = some o) : Ex (L2.upd H p o) H' := fun a u q => by
  by_cases ha : a = p
  · subst ha; rw [upd_same] at q; cases q; exact h
  · rw [upd_ne ha] at q; exact e a u q
theorem Ex.free {H H' : Hp} (e : Ex H H') {l : Addr} (h : H' l = none) : H l = none := by
  cases q : H l with
  | none => rfl
  | some o => rw [e l o q] at h; cases h
theorem Ex.sqL {K : PySem.W.Frag} {H H' : Hp} {a : Addr} {xs : List V} (e : Ex H H') (h : SqL K H a xs) : SqL K H' a xs := by
  rcases h with (h | ⟨o, h⟩) | h
  · exact .inl (.inl (e _ _ h))
  · exact .inl (.inr ⟨o, e _ _ h⟩)
  · exact .inr h
theorem Ex.sqT {K : PySem.W.Frag} {H H' : Hp} {a : Addr} {xs : List V} (e : Ex H H') (h : SqT K H a xs) : SqT K H' a xs := by
  rcases h with (h | ⟨o, h⟩) | h
  · exact .inl (.inl (e _ _ h))
  · exact .inl (.inr ⟨o, e _ _ h⟩)
  · exact .inr h
theorem Ex.sqU {K : PySem.W.Frag} {H H' : Hp} {a : Addr} {xs : List V} (e : Ex H H') (h : SqU K H a xs) : SqU K H' a xs := by
  rcases h with h | h
  · exact .inl (e _ _ h)
  · exact .inr h
structure Step (G H G' H' : Hp) : Prop where
  g : Ex G G'
  h : Ex H H'
  gh : Ex G' H'
  gr : ∀ b o, G' b = some o → G b = some o ∨ H b = none
theorem Step.refl {G H : Hp} (e : Ex G H) : Step G H G H := ⟨Ex.refl _, Ex.refl _, e, fun _ _ h => .inl h⟩
theorem Step.trans {G H G1 H1 G2 H2 : Hp} (a : Step G H G1 H1) (b : Step G1 H1 G2 H2) : Step G H G2 H2 :=
  ⟨a.g.trans b.g, a.h.trans b.h, b.gh, fun x o q => by
    rcases b.gr x o q with q | q
    · exact a.gr x o q
    · exact .inr (a.h.free q)⟩
theorem Step.new {G H : Hp} {p : Addr} {o : HO} (e : Ex G H) (h : H p = none) : Step G H (upd G p o) (upd H p o) :=
  ⟨Ex.new (e.free h), Ex.new h, fun a u q => by
    by_cases ha : a = p
    · subst ha; rw [upd_same] at q ⊢; exact q
    · rw [upd_ne ha] at q ⊢; exact e a u q, fun b u q => by
    by_cases hb : b = p
    · subst hb; exact .inr h
    · rw [upd_ne hb] at q; exact .inl q⟩
theorem Step.new' {G H : Hp} {p : Addr} {o : HO} (e : Ex G H) (h : H p = none) : Step G H G (upd H p o) :=
  ⟨Ex.refl _, Ex.new h, e.upd (e.free h), fun _ _ q => .inl q⟩
theorem Step.frz {G0 H0 G H : Hp} {p : Addr} {o : HO} (s : Step G0 H0 G H) (h : H p = some o) (h0 : H0 p = none) (hg : G p = none) : Step G0 H0 (upd G p o) H :=
  ⟨s.g.trans (Ex.new hg), s.h, s.gh.upd2 h, fun b u q => by
    by_cases hb : b = p
    · subst hb; exact .inr h0
    · rw [upd_ne hb] at q; exact s.gr b u q⟩
mutual
theorem NkH.mono {K : PySem.W.Frag} {H H' : Hp} (e : Ex H H') : ∀ {k : NestedKey} {v : V}, NkH K H k v → NkH K H' k v
  | _, _, .none => .none
  | _, _, .num i => .num i
  | _, _, .tup h r => .tup (e.sqU h) (NkHs.mono e r)
theorem NkHs.mono {K : PySem.W.Frag} {H H' : Hp} (e : Ex H H') : ∀ {ks : List NestedKey} {vs : List V}, NkHs K H ks vs → NkHs K H' ks vs
  | _, _, .nil => .nil
  | _, _, .cons a b => .cons (NkH.mono e a) (NkHs.mono e b)
end
theorem DigAt.mono {H H' : Hp} {l a : Addr} {xs : XV} (h : DigAt H l a xs) (e : Ex H H') : DigAt H' l a xs := by
  rcases h with h | ⟨o, h⟩
  · exact .inl (e _ _ h)
  · exact .inr ⟨o, e _ _ h⟩
theorem XKey.mono {K : PySem.W.Frag} {H H' : Hp} {xs : XV} (h : XKey K H xs) (e : Ex H H') : XKey K H' xs := fun x hx => ⟨(h x hx).1.mono e, (h x hx).2⟩
structure Kn where
  K : PySem.W.Frag
  cl : Nat → Option (Addr × List Str)
mutual
inductive RD (k : Kn) (G : Hp) : D → V → Prop where
  | non : RD k G .non .non
  | bl (b : Bool) : RD k G (.bl b) (.bl b)
  | int (i : Int) : RD k G (.int i) (.int i)
  | str (x : Str) : RD k G (.str x) (.str x)
  | ty (n : String) : RD k G (.ty n) (.ty n)
  | tup {ds : List D} {a : Addr} {vs : List V} : SqU k.K G a vs → RDs k G ds vs → RD k G (.tup ds) (.ref a)
  | lst {ds : List D} {a : Addr} {vs : List V} : G a = some (.lst vs) → RDs k G ds vs → RD k G (.lst ds) (.ref a)
  | cls {c : Nat} {C : Addr} {nm : List Str} : k.cl c = some (C, nm) → RD k G (.cls c) (.ref C)
  | scr {ns : List Int} {a : Addr} : SqL k.K G a (ns.map V.int) → RD k G (.scr ns) (.ref a)
  | dic {ks : List Key} {ds : List D} {a : Addr} {vs : List V} : G a = some (.dK (ks.zip vs)) → ks.length = ds.length → RDs k G ds vs → RD k G (.dic ks ds) (.ref a)
  | dit {ks : List (List Key)} {ds : List D} {a : Addr} {vs : List V} : G a = some (.dT (ks.zip vs)) → ks.length = ds.length → RDs k G ds vs → RD k G (.dit ks ds) (.ref a)
  | dig {ks : List NestedKey} {ds : List D} {a l : Addr} {xs : XV} : DigAt G l a xs → xs.map (fun x => x.1) = ks → XKey k.K G xs → RDs k G ds (xs.map fun x => x.2.2) → RD k G (.dig ks ds) (.ref l)
  | dgf {ks : List NestedKey} {ds : List D} {a l : Addr} {o : Obj} {xs : XV} : G l = some (.frz o (dnO a xs)) → xs.map (fun x => x.1) = ks → XKey k.K G xs → RDs k G ds (xs.map fun x => x.2.2) → RD k G (.dgf ks ds) (.ref l)
  | dkf {ks : List Key} {ds : List D} {a : Addr} {o : Obj} {vs : List V} : G a = some (.frz o (.dK (ks.zip vs))) → ks.length = ds.length → RDs k G ds vs → RD k G (.dkf ks ds) (.ref a)
  | obj {c : Nat} {ds : List D} {a C dx : Addr} {nm : List Str} {vs : List V} : k.cl c = some (C, nm) → G a = some (.ins C dx (nm.zip vs)) → RDs k G ds vs → RD k G (.obj c ds) (.ref a)
inductive RDs (k : Kn) (G : Hp) : List D → List V → Prop where
  | nil : RDs k G [] []
  | cons {d : D} {ds : List D} {v : V} {vs : List V} : RD k G d v → RDs k G ds vs → RDs k G (d :: ds) (v :: vs)
end
mutual
theorem RD.mono {k : Kn} {G G' : Hp} (e : Ex G G') : ∀ {d : D} {v : V}, RD k G d v → RD k G' d v
  | _, _, .non => .non
  | _, _, .bl b => .bl b
  | _, _, .int i => .int i
  | _, _, .str x => .str x
  | _, _, .ty n => .ty n
  | _, _, .tup h r => .tup (e.sqU h) (RDs.mono e r)
  | _, _, .lst h r => .lst (e _ _ h) (RDs.mono e r)
  | _, _, .scr h => .scr (e.sqL h)
  | _, _, .cls h => .cls h
  | _, _, .dic h l r => .dic (e _ _ h) l (RDs.mono e r)
  | _, _, .dit h l r => .dit (e _ _ h) l (RDs.mono e r)
  | _, _, .dkf h l r => .dkf (e _ _ h) l (RDs.mono e r)
  | _, _, .dig h l kk r => .dig (h.mono e) l (kk.mono e) (RDs.mono e r)
  | _, _, .dgf h l kk r => .dgf (e _ _ h) l (kk.mono e) (RDs.mono e r)
  | _, _, .obj c h r => .obj c (e _ _ h) (RDs.mono e r)
theorem RDs.mono {k : Kn} {G G' : Hp} (e : Ex G G') : ∀ {ds : List D} {vs : List V}, RDs k G ds vs → RDs k G' ds vs
  | _, _, .nil => .nil
  | _, _, .cons a b => .cons (RD.mono e a) (RDs.mono e b)
end
section
variable {k : Kn} {G H : Hp}
theorem RDs.length : ∀ {ds : List D} {vs : List V}, RDs k G ds vs → ds.length = vs.length
  | _, _, .nil => rfl
  | _, _, .cons _ b => by simp [RDs.length b]
theorem RDs.append : ∀ {ds es : List D} {vs us : List V}, RDs k G ds vs → RDs k G es us → RDs k G (ds ++ es) (vs ++ us)
  | _, _, _, _, .nil, s => s
  | _, _, _, _, .cons a b, s => .cons a (RDs.append b s)
theorem RDs.get : ∀ {ds : List D} {vs : List V} {i : Nat} {d : D}, RDs k G ds vs → ds[i]? = some d → ∃ v, vs[i]? = some v ∧ RD k G d v
  | _, _, _, _, .nil, h => by simp at h
  | _, _, 0, _, .cons a _, h => by simp at h; subst h; exact ⟨_, rfl, a⟩
  | _, _, i + 1, d, .cons _ b, h => by
    obtain ⟨v, h1, h2⟩ := RDs.get (i := i) (d := d) b (by simpa using h)
    exact ⟨v, by simpa using h1, h2⟩
theorem RDs.take : ∀ {ds : List D} {vs : List V} (n : Nat), RDs k G ds vs → RDs k G (ds.take n) (vs.take n)
  | _, _, 0, _ => by simpa using .nil
  | _, _, _ + 1, .nil => .nil
  | _, _, n + 1, .cons r t => .cons r (RDs.take n t)
theorem RDs.drop : ∀ {ds : List D} {vs : List V} (n : Nat), RDs k G ds vs → RDs k G (ds.drop n) (vs.drop n)
  | _, _, 0, r => r
  | _, _, _ + 1, .nil => .nil
  | _, _, n + 1, .cons _ t => RDs.drop n t
theorem RDs.reverse : ∀ {ds : List D} {vs : List V}, RDs k G ds vs → RDs k G ds.reverse vs.reverse
  | _, _, .nil => .nil
  | _, _, .cons a b => by rw [List.reverse_cons, List.reverse_cons]; exact RDs.append (RDs.reverse b) (.cons a .nil)
theorem RDs.set : ∀ {ds : List D} {vs : List V} (i : Nat) {d : D} {v : V}, RDs k G ds vs → RD k G d v → RDs k G (ds.set i d) (vs.set i v)
  | _, _, _, _, _, .nil, _ => .nil
  | _, _, 0, _, _, .cons _ t, r => .cons r t
  | _, _, i + 1, _, _, .cons q t, r => .cons q (RDs.set i t r)
theorem RDs.ints : ∀ (ns : List Int), RDs k G (ns.map D.int) (ns.map V.int)
  | [] => .nil
  | n :: ns => .cons (.int n) (RDs.ints ns)
end
inductive Cont (k : Kn) (G : Hp) : D → HO → Prop where
  | lst {ds : List D} {vs : List V} : RDs k G ds vs → Cont k G (.lst ds) (.lst vs)
  | dic {ks : List Key} {ds : List D} {vs : List V} : ks.length = ds.length → RDs k G ds vs → Cont k G (.dic ks ds) (.dK (ks.zip vs))
  | dit {ks : List (List Key)} {ds : List D} {vs : List V} : ks.length = ds.length → RDs k G ds vs → Cont k G (.dit ks ds) (.dT (ks.zip vs))
  | dig {ks : List NestedKey} {ds : List D} {a : Addr} {xs : XV} : xs.map (fun x => x.1) = ks → XKey k.K G xs → RDs k G ds (xs.map fun x => x.2.2) → Cont k G (.dig ks ds) (dnO a xs)
  | obj {c : Nat} {ds : List D} {C dx : Addr} {nm : List Str} {vs : List V} : k.cl c = some (C, nm) → RDs k G ds vs → Cont k G (.obj c ds) (.ins C dx (nm.zip vs))
theorem Cont.mono {k : Kn} {G G' : Hp} (e : Ex G G') {d : D} {o : HO} (c : Cont k G d o) : Cont k G' d o := by
  cases c with
  | lst r => exact .lst (r.mono e)
  | dic l r => exact .dic l (r.mono e)
  | dit l r => exact .dit l (r.mono e)
  | dig l kk r => exact .dig l (kk.mono e) (r.mono e)
  | obj h r => exact .obj h (r.mono e)
theorem Cont.rd {k : Kn} {G : Hp} {d : D} {o : HO} {a : Addr} (c : Cont k G d o) (h : G a = some o) : RD k G d (.ref a) := by
  cases c with
  | lst r => exact .lst h r
  | dic l r => exact .dic h l r
  | dit l r => exact .dit h l r
  | dig l kk r => exact .dig (.inl h) l kk r
  | obj q r => exact .obj q h r
structure Cf where
  k : Kn
  H0 : Hp
  G0 : Hp
  W : WX
def OwnAt (S : Env) (σ : St) (i : Nat) (a : Addr) : Prop := (∃ d, S[i]? = some (some ⟨true, d⟩)) ∧ σ[i]? = some (some (.ref a))
structure Rel (c : Cf) (G : Hp) (S : Env) (σ : St) (H : Hp) : Prop where
  st : Step c.G0 c.H0 G H
  len : S.length = σ.length
  fz : ∀ (i : Nat) (d : D), S[i]? = some (some ⟨false, d⟩) → ∃ v, σ[i]? = some (some v) ∧ RD c.k G d v
  ow : ∀ (i : Nat) (d : D), S[i]? = some (some ⟨true, d⟩) → ∃ a o, σ[i]? = some (some (.ref a)) ∧ G a = none ∧ c.H0 a = none ∧ H a = some o ∧ Cont c.k G d o
  nd : ∀ (i j : Nat) (a : Addr), OwnAt S σ i a → OwnAt S σ j a → i = j
section
variable {c : Cf} {G G' H H' : Hp} {S : Env} {σ : St}
theorem Rel.own (r : Rel c G S σ H) {i : Nat} {a : Addr} (h : OwnAt S σ i a) : G a = none ∧ c.H0 a = none ∧ ∃ o d, H a = some o ∧ S[i]? = some (some ⟨true, d⟩) ∧ Cont c.k G d o := by
  obtain ⟨⟨d, hd⟩, hs⟩ := h
  obtain ⟨a', o, e, g, h0, ho, ct⟩ := r.ow i d hd
  rw [hs] at e; cases e
  exact ⟨g, h0, o, d, ho, hd, ct⟩
theorem Rel.grow (r : Rel c G S σ H) (s : Step G H G' H') : Rel c G' S σ H' where
  st := r.st.trans s
  len := r.len
  fz := fun i d h => let ⟨v, e, q⟩ := r.fz i d h; ⟨v, e, q.mono s.g⟩
  ow := fun i d h => by
    obtain ⟨a, o, e, g, h0, ho, ct⟩ := r.ow i d h
    refine ⟨a, o, e, ?_, h0, s.h _ _ ho, ct.mono s.g⟩
    cases q : G' a with
    | none => rfl
    | some u =>
      rcases s.gr a u q with z | z
      · rw [g] at z; cases z
      · rw [ho] at z; cases z
  nd := r.nd
theorem Rel.frz (r : Rel c G S σ H) {i : Nat} {d : D} (h : S[i]? = some (some ⟨true, d⟩)) : ∃ G', Ex G G' ∧ Rel c G' (S.set i (some ⟨false, d⟩)) σ H := by
  obtain ⟨a, o, e, g, h0, ho, ct⟩ := r.ow i d h
  have ow : OwnAt S σ i a := ⟨⟨d, h⟩, e⟩
  have ex : Ex G (upd G a o) := Ex.new g
  have hi : i < S.length := (List.getElem?_eq_some_iff.mp h).1
  refine ⟨upd G a o, ex, ⟨r.st.frz ho h0 g, by rw [List.length_set]; exact r.len, fun j d' q => ?_, fun j d' q => ?_, fun j l b q1 q2 => ?_⟩⟩
  · by_cases hj : i = j
    · subst hj
      rw [List.getElem?_set_self hi] at q; cases q
      exact ⟨_, e, (ct.mono ex).rd upd_same⟩
    · rw [List.getElem?_set_ne hj] at q
      obtain ⟨v, e', q'⟩ := r.fz j d' q
      exact ⟨v, e', q'.mono ex⟩
  · by_cases hj : i = j
    · subst hj
      rw [List.getElem?_set_self hi] at q; cases q
    · rw [List.getElem?_set_ne hj] at q
      obtain ⟨b, u, e', g', h0', ho', ct'⟩ := r.ow j d' q
      have hb : b ≠ a := fun z => hj (r.nd i j a ow ⟨⟨d', q⟩, by rw [← z]; exact e'⟩)
      exact ⟨b, u, e', by rw [upd_ne hb]; exact g', h0', ho', ct'.mono ex⟩
  · have back : ∀ {m : Nat}, OwnAt (S.set i (some ⟨false, d⟩)) σ m b → OwnAt S σ m b := fun {m} hm => by
      obtain ⟨⟨d', q⟩, z⟩ := hm
      by_cases hj : i = m
      · subst hj; rw [List.getElem?_set_self hi] at q; cases q
      · rw [List.getElem?_set_ne hj] at q; exact ⟨⟨d', q⟩, z⟩
    exact r.nd j l b (back q1) (back q2)
theorem Rel.setS (r : Rel c G S σ H) {d : D} {v : V} (i : Nat) (h : RD c.k G d v) : Rel c G (S.set i (some ⟨false, d⟩)) (σ.set i (some v)) H where
  st := r.st
  len := by rw [List.length_set, List.length_set]; exact r.len
  fz := fun j d' q => by
    by_cases hj : i = j
    · subst hj
      have hi : i < S.length := by have := (List.getElem?_eq_some_iff.mp q).1; rwa [List.length_set] at this
      rw [List.getElem?_set_self hi] at q; cases q
      exact ⟨v, List.getElem?_set_self (by rw [← r.len]; exact hi), h⟩
    · rw [List.getElem?_set_ne hj] at q ⊢; exact r.fz j d' q
  ow := fun j d' q => by
    by_cases hj : i = j
    · subst hj
      have hi : i < S.length := by have := (List.getElem?_eq_some_iff.mp q).1; rwa [List.length_set] at this
      rw [List.getElem?_set_self hi] at q; cases q
    · rw [List.getElem?_set_ne hj] at q ⊢; exact r.ow j d' q
  nd := fun j l b q1 q2 => by
    have back : ∀ {m : Nat}, OwnAt (S.set i (some ⟨false, d⟩)) (σ.set i (some v)) m b → OwnAt S σ m b := fun {m} hm => by
      obtain ⟨⟨d', q⟩, z⟩ := hm
      by_cases hj : i = m
      · subst hj
        have hi : i < S.length := by have := (List.getElem?_eq_some_iff.mp q).1; rwa [List.length_set] at this
        rw [List.getElem?_set_self hi] at q; cases q
      · rw [List.getElem?_set_ne hj] at q z; exact ⟨⟨d', q⟩, z⟩
    exact r.nd j l b (back q1) (back q2)
theorem Rel.setO (r : Rel c G S σ H) {d : D} {a : Addr} {o : HO} (i : Nat) (ha : H' a = some o) (hg : G a = none) (h0 : c.H0 a = none) (ct : Cont c.k G d o) (hn : ∀ j, OwnAt S σ j a → j = i) (hh : ∀ b, b ≠ a → H' b = H b) :
    Rel c G (S.set i (some ⟨true, d⟩)) (σ.set i (some (.ref a))) H' where
  st := ⟨r.st.g, fun b u q => by rw [hh b (ne_of_none q h0)]; exact r.st.h b u q, fun b u q => by rw [hh b (ne_of_none q hg)]; exact r.st.gh b u q, r.st.gr⟩
  len := by rw [List.length_set, List.length_set]; exact r.len
  fz := fun j d' q => by
    by_cases hj : i = j
    · subst hj
      have hi : i < S.length := by have := (List.getElem?_eq_some_iff.mp q).1; rwa [List.length_set] at this
      rw [List.getElem?_set_self hi] at q; cases q
    · rw [List.getElem?_set_ne hj] at q ⊢; exact r.fz j d' q
  ow := fun j d' q => by
    by_cases hj : i = j
    · subst hj
      have hi : i < S.length := by have := (List.getElem?_eq_some_iff.mp q).1; rwa [List.length_set] at this
      rw [List.getElem?_set_self hi] at q; cases q
      exact ⟨a, o, List.getElem?_set_self (by rw [← r.len]; exact hi), hg, h0, ha, ct⟩
    · rw [List.getElem?_set_ne hj] at q ⊢
      obtain ⟨b, u, e', g', h0', ho', ct'⟩ := r.ow j d' q
      have hb : b ≠ a := fun z => hj (hn j ⟨⟨d', q⟩, by rw [← z]; exact e'⟩).symm
      exact ⟨b, u, e', g', h0', by rw [hh b hb]; exact ho', ct'⟩
  nd := fun j l b q1 q2 => by
    have back : ∀ {m : Nat}, OwnAt (S.set i (some ⟨true, d⟩)) (σ.set i (some (.ref a))) m b → (m = i ∧ b = a) ∨ (m ≠ i ∧ OwnAt S σ m b) := fun {m} hm => by
      obtain ⟨⟨d', q⟩, z⟩ := hm
      by_cases hj : i = m
      · subst hj
        have hi : i < S.length := by have := (List.getElem?_eq_some_iff.mp q).1; rwa [List.length_set] at this
        rw [List.getElem?_set_self (by rw [← r.len]; exact hi)] at z; cases z
        exact .inl ⟨rfl, rfl⟩
      · rw [List.getElem?_set_ne hj] at q z; exact .inr ⟨Ne.symm hj, ⟨d', q⟩, z⟩
    rcases back q1 with ⟨h1, e1⟩ | ⟨n1, o1⟩ <;> rcases back q2 with ⟨h2, e2⟩ | ⟨n2, o2⟩
    · rw [h1, h2]
    · exact absurd (hn l (by rw [← e1]; exact o2)) n2
    · exact absurd (hn j (by rw [← e2]; exact o1)) n1
    · exact r.nd j l b o1 o2
theorem Rel.unset (r : Rel c G S σ H) (i : Nat) : Rel c G (S.set i none) (σ.set i none) H where
  st := r.st
  len := by rw [List.length_set, List.length_set]; exact r.len
  fz := fun j d' q => by
    by_cases hj : i = j
    · subst hj
      have hi : i < S.length := by have := (List.getElem?_eq_some_iff.mp q).1; rwa [List.length_set] at this
      rw [List.getElem?_set_self hi] at q; cases q
    · rw [List.getElem?_set_ne hj] at q ⊢; exact r.fz j d' q
  ow := fun j d' q => by
    by_cases hj : i = j
    · subst hj
      have hi : i < S.length := by have := (List.getElem?_eq_some_iff.mp q).1; rwa [List.length_set] at this
      rw [List.getElem?_set_self hi] at q; cases q
    · rw [List.getElem?_set_ne hj] at q ⊢; exact r.ow j d' q
  nd := fun j l b q1 q2 => by
    have back : ∀ {m : Nat}, OwnAt (S.set i none) (σ.set i none) m b → OwnAt S σ m b := fun {m} hm => by
      obtain ⟨⟨d', q⟩, z⟩ := hm
      by_cases hj : i = m
      · subst hj
        have hi : i < S.length := by have := (List.getElem?_eq_some_iff.mp q).1; rwa [List.length_set] at this
        rw [List.getElem?_set_self hi] at q; cases q
      · rw [List.getElem?_set_ne hj] at q z; exact ⟨⟨d', q⟩, z⟩
    exact r.nd j l b (back q1) (back q2)
end
def wipeS (S : Env) : List Nat → Env
  | [] => S
  | v :: vs => (wipeS S vs).set v none
theorem Rel.wipe {c : Cf} {G H : Hp} {S : Env} {σ : St} (r : Rel c G S σ H) : ∀ vs : List Nat, Rel c G (wipeS S vs) (L2.wipe σ vs) H
  | [] => r
  | v :: vs => (Rel.wipe r vs).unset v
theorem Rel.mut {c : Cf} {G H : Hp} {S : Env} {σ : St} (r : Rel c G S σ H) {i : Nat} {a : Addr} {d' : D} {o' : HO} (ow : OwnAt S σ i a) (ct : Cont c.k G d' o') : Rel c G (S.set i (some ⟨true, d'⟩)) σ (upd H a o') := by
  obtain ⟨g, h0, _⟩ := r.own ow
  have q := r.setO (H' := upd H a o') i upd_same g h0 ct (fun j oj => r.nd j i a oj ow) (fun b hb => upd_ne hb)
  have e : σ.set i (some (.ref a)) = σ := by
    apply List.ext_getElem?
    intro j
    by_cases hj : i = j
    · subst hj; rw [List.getElem?_set_self (List.getElem?_eq_some_iff.mp ow.2).1, ow.2]
    · rw [List.getElem?_set_ne hj]
  rw [e] at q; exact q
def Now (k : Kn) (G H : Hp) (d : D) (v : V) : Prop := RD k G d v ∨ ∃ a o, v = .ref a ∧ H a = some o ∧ Cont k G d o
inductive Nows (k : Kn) (G H : Hp) : List D → List V → Prop where
  | nil : Nows k G H [] []
  | cons {d : D} {ds : List D} {v : V} {vs : List V} : Now k G H d v → Nows k G H ds vs → Nows k G H (d :: ds) (v :: vs)
section
variable {k : Kn} {G G' H H' : Hp}
theorem Now.grow {d : D} {v : V} (n : Now k G H d v) (s : Step G H G' H') : Now k G' H' d v := by
  rcases n with n | ⟨a, o, e, h, ct⟩
  · exact .inl (n.mono s.g)
  · exact .inr ⟨a, o, e, s.h _ _ h, ct.mono s.g⟩
theorem Nows.grow (s : Step G H G' H') : ∀ {ds : List D} {vs : List V}, Nows k G H ds vs → Nows k G' H' ds vs
  | _, _, .nil => .nil
  | _, _, .cons a b => .cons (a.grow s) (Nows.grow s b)
theorem Nows.of : ∀ {ds : List D} {vs : List V}, RDs k G ds vs → Nows k G H ds vs
  | _, _, .nil => .nil
  | _, _, .cons a b => .cons (.inl a) (Nows.of b)
theorem Now.rd {d : D} {v : V} (e : Ex G H) (n : Now k G H d v) : RD k H d v := by
  rcases n with n | ⟨a, o, rfl, h, ct⟩
  · exact n.mono e
  · exact (ct.mono e).rd h
theorem Nows.rd (e : Ex G H) : ∀ {ds : List D} {vs : List V}, Nows k G H ds vs → RDs k H ds vs
  | _, _, .nil => .nil
  | _, _, .cons a b => .cons (a.rd e) (Nows.rd e b)
theorem Now.lst {ds : List D} {v : V} (e : Ex G H) (n : Now k G H (.lst ds) v) : ∃ a vs, v = .ref a ∧ H a = some (.lst vs) ∧ RDs k G ds vs := by
  rcases n with n | ⟨a, o, rfl, h, ct⟩
  · cases n with | lst h r => exact ⟨_, _, rfl, e _ _ h, r⟩
  · cases ct with | lst r => exact ⟨_, _, rfl, h, r⟩
theorem Now.tup {ds : List D} {v : V} (n : Now k G H (.tup ds) v) : ∃ a vs, v = .ref a ∧ SqU k.K G a vs ∧ RDs k G ds vs := by
  rcases n with n | ⟨a, o, rfl, h, ct⟩
  · cases n with | tup h r => exact ⟨_, _, rfl, h, r⟩
  · cases ct
theorem Now.scr {ns : List Int} {v : V} (n : Now k G H (.scr ns) v) : ∃ a, v = .ref a ∧ SqL k.K G a (ns.map V.int) := by
  rcases n with n | ⟨a, o, rfl, h, ct⟩
  · cases n with | scr h => exact ⟨_, rfl, h⟩
  · cases ct
theorem Now.dic {ks : List Key} {ds : List D} {v : V} (e : Ex G H) (n : Now k G H (.dic ks ds) v) : ∃ a vs, v = .ref a ∧ H a = some (.dK (ks.zip vs)) ∧ ks.length = ds.length ∧ RDs k G ds vs := by
  rcases n with n | ⟨a, o, rfl, h, ct⟩
  · cases n with | dic h l r => exact ⟨_, _, rfl, e _ _ h, l, r⟩
  · cases ct with | dic l r => exact ⟨_, _, rfl, h, l, r⟩
theorem Now.dit {ks : List (List Key)} {ds : List D} {v : V} (e : Ex G H) (n : Now k G H (.dit ks ds) v) : ∃ a vs, v = .ref a ∧ H a = some (.dT (ks.zip vs)) ∧ ks.length = ds.length ∧ RDs k G ds vs := by
  rcases n with n | ⟨a, o, rfl, h, ct⟩
  · cases n with | dit h l r => exact ⟨_, _, rfl, e _ _ h, l, r⟩
  · cases ct with | dit l r => exact ⟨_, _, rfl, h, l, r⟩
theorem Now.dkf {ks : List Key} {ds : List D} {v : V} (e : Ex G H) (n : Now k G H (.dkf ks ds) v) : ∃ a o vs, v = .ref a ∧ H a = some (.frz o (.dK (ks.zip vs))) ∧ ks.length = ds.length ∧ RDs k G ds vs := by
  rcases n with n | ⟨a, o, rfl, h, ct⟩
  · cases n with | dkf h l r => exact ⟨_, _, _, rfl, e _ _ h, l, r⟩
  · cases ct
theorem Now.obj {c : Nat} {ds : List D} {v : V} (e : Ex G H) (n : Now k G H (.obj c ds) v) : ∃ a C dx nm vs, v = .ref a ∧ k.cl c = some (C, nm) ∧ H a = some (.ins C dx (nm.zip vs)) ∧ RDs k G ds vs := by
  rcases n with n | ⟨a, o, rfl, h, ct⟩
  · cases n with | obj q h r => exact ⟨_, _, _, _, _, rfl, q, e _ _ h, r⟩
  · cases ct with | obj q r => exact ⟨_, _, _, _, _, rfl, q, h, r⟩
theorem Now.int {i : Int} {v : V} (n : Now k G H (.int i) v) : v = .int i := by
  rcases n with n | ⟨a, o, rfl, h, ct⟩
  · cases n; rfl
  · cases ct
theorem Now.bl {i : Bool} {v : V} (n : Now k G H (.bl i) v) : v = .bl i := by
  rcases n with n | ⟨a, o, rfl, h, ct⟩
  · cases n; rfl
  · cases ct
theorem Now.str {i : Str} {v : V} (n : Now k G H (.str i) v) : v = .str i := by
  rcases n with n | ⟨a, o, rfl, h, ct⟩
  · cases n; rfl
  · cases ct
theorem Now.non {v : V} (n : Now k G H .non v) : v = .non := by
  rcases n with n | ⟨a, o, rfl, h, ct⟩
  · cases n; rfl
  · cases ct
theorem Now.ty {x : String} {v : V} (n : Now k G H (.ty x) v) : v = .ty x := by
  rcases n with n | ⟨a, o, rfl, h, ct⟩
  · cases n; rfl
  · cases ct
end
def Res (k : Kn) (H : Hp) (G' H' : Hp) (d : D) (v : V) : Kd → Prop
  | .st => RD k G' d v
  | .bo => Now k G' H' d v
  | .fr => ∃ a o, v = .ref a ∧ G' a = none ∧ H a = none ∧ H' a = some o ∧ Cont k G' d o
section
variable {k : Kn} {H0 H G' H' G2 H2 : Hp} {d : D} {v : V} {kd : Kd}
theorem Res.mono (h : Res k H G' H' d v kd) (e : Ex H0 H) : Res k H0 G' H' d v kd := by
  cases kd with
  | st => exact h
  | bo => exact h
  | fr => obtain ⟨a, o, e', hg, h0, r⟩ := h; exact ⟨a, o, e', hg, e.free h0, r⟩
theorem Res.now (h : Res k H G' H' d v kd) : Now k G' H' d v := by
  cases kd with
  | st => exact .inl h
  | bo => exact h
  | fr => obtain ⟨a, o, e, _, _, h, ct⟩ := h; exact .inr ⟨a, o, e, h, ct⟩
end
def Args (k : Kn) (G H : Hp) (ds : List D) (vs : List V) : Bool → Prop
  | true => Nows k G H ds vs
  | false => RDs k G ds vs
theorem Args.nows {k : Kn} {G H : Hp} {ds : List D} {vs : List V} {b : Bool} (h : Args k G H ds vs b) : Nows k G H ds vs := by
  cases b with
  | true => exact h
  | false => exact Nows.of h
def XR (c : Cf) (G : Hp) (x : Exc) (cls : Value) (da : Option Addr) (H : Hp) : Prop :=
  ∃ C nm, c.k.cl x.c = some (C, nm) ∧ cls = .ref C ∧ ((nm = [] ∧ x.fs = [] ∧ da = none) ∨ ∃ d vs, da = some d ∧ H d = some (.xd (nm.zip vs)) ∧ RDs c.k G x.fs vs ∧ nm.length = vs.length)
def PX (c : Cf) (σ : St) (x : Exc) : Prop := ∀ cls da G' H', Step c.G0 c.H0 G' H' → XR c G' x cls da H' → c.W cls da σ H'
def PXs (c : Cf) (x : Exc) : Prop := ∀ σ, PX c σ x
abbrev liftX (E : XK) : WX := fun cls da _ H => E cls da H
def PostE (c : Cf) (k : Kd) (G : Hp) (S : Env) (σ : St) (H : Hp) (Q : VK) : R D → Prop
  | .ok d => ∀ v G' H', Step G H G' H' → Res c.k H G' H' d v k → Q v H'
  | .exc x => PX c σ x
  | .fail => False
def RdE (c : Cf) (k : Kd) (f : FE) : TE := fun σ H Q => ∃ G S, Rel c G S σ H ∧ PostE c k G S σ H Q (f S)
def PostT (c : Cf) (G : Hp) (S : Env) (σ : St) (H : Hp) (Q : Bool → Hp → Prop) : R Bool → Prop
  | .ok b => ∀ G' H', Step G H G' H' → Q b H'
  | .exc x => PX c σ x
  | .fail => False
def RdT (c : Cf) (f : FT) : TT := fun σ H Q => ∃ G S, Rel c G S σ H ∧ PostT c G S σ H Q (f S)
def PostA (c : Cf) (b : Bool) (G : Hp) (S : Env) (σ : St) (H : Hp) (Q : List V → Hp → Prop) : R (List D) → Prop
  | .ok ds => ∀ vs G' H', Step G H G' H' → Args c.k G' H' ds vs b → Q vs H'
  | .exc x => PX c σ x
  | .fail => False
def RdA (c : Cf) (b : Bool) (f : FA) : TA := fun σ H Q => ∃ G S, Rel c G S σ H ∧ PostA c b G S σ H Q (f S)
structure Frm (as : List Nat) (S : Env) (σ : St) (H : Hp) (S' : Env) (σ' : St) (H' : Hp) : Prop where
  len : σ'.length = σ.length
  sg : ∀ (i : Nat), i ∉ as → σ'[i]? = σ[i]?
  sl : ∀ (i : Nat), i ∉ as → i + 1000 ∉ as → S'[i]? = S[i]?
  ow : ∀ (i : Nat) (a : Addr), i ∉ as → i + 1000 ∉ as → OwnAt S σ i a → H' a = H a
theorem Frm.refl (as : List Nat) (S : Env) (σ : St) (H : Hp) : Frm as S σ H S σ H := ⟨rfl, fun _ _ => rfl, fun _ _ _ => rfl, fun _ _ _ _ _ => rfl⟩
theorem Frm.trans {as bs : List Nat} {S S1 S2 : Env} {σ σ1 σ2 : St} {H H1 H2 : Hp} (a : Frm as S σ H S1 σ1 H1) (b : Frm bs S1 σ1 H1 S2 σ2 H2) : Frm (as ++ bs) S σ H S2 σ2 H2 where
  len := b.len.trans a.len
  sg := fun i h => by
    simp only [List.mem_append, not_or] at h
    exact (b.sg i h.2).trans (a.sg i h.1)
  sl := fun i h h' => by
    simp only [List.mem_append, not_or] at h h'
    exact (b.sl i h.2 h'.2).trans (a.sl i h.1 h'.1)
  ow := fun i x h h' o => by
    simp only [List.mem_append, not_or] at h h'
    have o' : OwnAt S1 σ1 i x := ⟨by obtain ⟨d, e⟩ := o.1; exact ⟨d, (a.sl i h.1 h'.1).trans e⟩, (a.sg i h.1).trans o.2⟩
    exact (b.ow i x h.2 h'.2 o').trans (a.ow i x h.1 h'.1 o)
theorem Frm.mono {as bs : List Nat} {S S1 : Env} {σ σ1 : St} {H H1 : Hp} (a : Frm as S σ H S1 σ1 H1) (h : ∀ i, i ∈ as → i ∈ bs) : Frm bs S σ H S1 σ1 H1 :=
  ⟨a.len, fun i q => a.sg i fun z => q (h i z), fun i q q' => a.sl i (fun z => q (h i z)) fun z => q' (h _ z), fun i x q q' => a.ow i x (fun z => q (h i z)) fun z => q' (h _ z)⟩
theorem Frm.step {c : Cf} {as : List Nat} {S : Env} {σ : St} {G H G' H' : Hp} (r : Rel c G S σ H) (s : Step G H G' H') : Frm as S σ H S σ H' :=
  ⟨rfl, fun _ _ => rfl, fun _ _ _ => rfl, fun i a _ _ o => by
    obtain ⟨_, _, u, _, h, _⟩ := r.own o
    rw [h, s.h a u h]⟩
theorem Frm.mut {c : Cf} {G H : Hp} {S : Env} {σ : St} (r : Rel c G S σ H) {i : Nat} {a : Addr} {x : Option Sl} {o' : HO} (ow : OwnAt S σ i a) : Frm [i + 1000] S σ H (S.set i x) σ (upd H a o') :=
  ⟨rfl, fun _ _ => rfl, fun j _ h => List.getElem?_set_ne (fun z => h (by simp [z])), fun j b _ h oj => upd_ne (fun z => h (by
    have : i = j := r.nd i j b (by rw [z]; exact ow) oj
    simp [this]))⟩
def RV (c : Cf) (fr : Bool) (G H : Hp) (d : D) (v : V) : Prop :=
  match fr with
  | true => ∃ a o, v = .ref a ∧ G a = none ∧ c.H0 a = none ∧ H a = some o ∧ Cont c.k G d o
  | false => RD c.k G d v
structure OwR (k : Kn) (as : List Nat) (S' : Env) (σ : St) (G' H' : Hp) : Prop where
  ex : ∃ σ' : St, (∀ i : Nat, i ∉ as → σ'[i]? = σ[i]?) ∧ ∀ (i : Nat) (d : D), S'[i]? = some (some ⟨true, d⟩) → ∃ a o, σ'[i]? = some (some (.ref a)) ∧ G' a = none ∧ H' a = some o ∧ Cont k G' d o
theorem Rel.owR {c : Cf} {as : List Nat} {S : Env} {σ : St} {G H : Hp} (r : Rel c G S σ H) : OwR c.k as S σ G H :=
  ⟨σ, fun _ _ => rfl, fun i d q => by
    obtain ⟨a, o, e, g, _, ho, ct⟩ := r.ow i d q
    exact ⟨a, o, e, g, ho, ct⟩⟩
theorem OwR.sub {k : Kn} {as bs : List Nat} {S : Env} {σ : St} {G H : Hp} (h : OwR k as S σ G H) (hs : ∀ i, i ∈ as → i ∈ bs) : OwR k bs S σ G H := by
  obtain ⟨σ', h1, h2⟩ := h.ex
  exact ⟨σ', fun i hi => h1 i fun z => hi (hs i z), h2⟩
theorem OwR.mv {k : Kn} {as bs : List Nat} {S S1 S2 : Env} {σ σ1 : St} {G H H0 H1 : Hp} (h : OwR k bs S2 σ1 G H) (fm : Frm as S σ H0 S1 σ1 H1) : OwR k (as ++ bs) S2 σ G H := by
  obtain ⟨σ', h1, h2⟩ := h.ex
  refine ⟨σ', fun i hi => ?_, h2⟩
  simp only [List.mem_append, not_or] at hi
  exact (h1 i hi.2).trans (fm.sg i hi.1)
def PostS (c : Cf) (fr : Bool) (as : List Nat) (G : Hp) (S : Env) (σ : St) (H : Hp) (Dn : Ends) : R (Fl × Env) → Prop
  | .ok (.nx, S') => ∀ G' σ' H', Ex G G' → Rel c G' S' σ' H' → Frm as S σ H S' σ' H' → Dn.nx σ' H'
  | .ok (.bk, S') => ∀ G' σ' H', Ex G G' → Rel c G' S' σ' H' → Frm as S σ H S' σ' H' → Dn.bk σ' H'
  | .ok (.ct, S') => ∀ G' σ' H', Ex G G' → Rel c G' S' σ' H' → Frm as S σ H S' σ' H' → Dn.ct σ' H'
  | .ok (.rt d, S') => ∀ v G' H', Step c.G0 c.H0 G' H' → RV c fr G' H' d v → OwR c.k as S' σ G' H' → Dn.rt v H'
  | .exc x => PXs c x
  | .fail => False
def RdS (c : Cf) (fr : Bool) (as : List Nat) (f : FS) : TS := fun Dn σ H => ∃ G S, Rel c G S σ H ∧ PostS c fr as G S σ H Dn (f S)
def PostG (c : Cf) (as : List Nat) (G : Hp) (S : Env) (σ : St) (H : Hp) (Q : St → Hp → Prop) : R Env → Prop
  | .ok S' => ∀ G' σ' H', Step G H G' H' → Rel c G' S' σ' H' → Frm as S σ H S' σ' H' → Q σ' H'
  | _ => False
def RdG (c : Cf) (as : List Nat) (g : FG) : TG := fun v σ H Q => ∃ G S d, Rel c G S σ H ∧ RD c.k G d v ∧ PostG c as G S σ H Q (g d S)
end M
set_option Elab.async false
set_option linter.all false
set_option maxRecDepth 100000
set_option maxHeartbeats 4000000
namespace M
open PySem L2
section
variable {X : Cx}
theorem peI {e : Expr} {t t' : TE} (h : PE X e t) (i : ∀ σ H Q, t' σ H Q → t σ H Q) : PE X e t' := ⟨fun pins s σ H Q I q => h.run pins s σ H Q I (i σ H Q q)⟩
theorem ptI {e : Expr} {t t' : TT} (h : PT X e t) (i : ∀ σ H Q, t' σ H Q → t σ H Q) : PT X e t' := ⟨fun pins s σ H Q I q => h.run pins s σ H Q I (i σ H Q q)⟩
theorem pwI {e : Expr} {t t' : TT} (h : PW X e t) (i : ∀ σ H Q, t' σ H Q → t σ H Q) : PW X e t' := ⟨fun wh pins s σ H Q I q => h.run wh pins s σ H Q I (i σ H Q q)⟩
theorem paI {e : List Expr} {t t' : TA} (h : PA X e t) (i : ∀ σ H Q, t' σ H Q → t σ H Q) : PA X e t' := ⟨fun pos pins s σ H Q I q => h.run pos pins s σ H Q I (i σ H Q q)⟩
theorem psI {e : Stmt} {t t' : TS} (h : PS X e t) (i : ∀ D σ H, t' D σ H → t D σ H) : PS X e t' := ⟨fun pins s σ H D I q => h.run pins s σ H D I (i D σ H q)⟩
theorem pssI {e : List Stmt} {t t' : TS} (h : PSs X e t) (i : ∀ D σ H, t' D σ H → t D σ H) : PSs X e t' := ⟨fun pins s σ H D I q => h.run pins s σ H D I (i D σ H q)⟩
theorem pgI {e : Expr} {t t' : TG} (h : PG X e t) (i : ∀ v σ H Q, t' v σ H Q → t v σ H Q) : PG X e t' := ⟨fun pins s σ H v u Q I r q => h.run pins s σ H v u Q I r (i v σ H Q q)⟩
theorem pgsI {e : List Expr} {t t' : TGs} (h : PGs X e t) (i : ∀ v σ H Q, t' v σ H Q → t v σ H Q) : PGs X e t' := ⟨fun pins s σ H v u Q I r q => h.run pins s σ H v u Q I r (i v σ H Q q)⟩
theorem piI {tg e : Expr} {t t' : TI} (h : PI X tg e t) (i : ∀ σ H Q, t' σ H Q → t σ H Q) : PI X tg e t' := ⟨fun pins s σ H R I q => h.run pins s σ H R I (i σ H R q)⟩
theorem poI {e : Option Expr} {t t' : TO} (h : PO X e t) (i : ∀ σ H Q, t' σ H Q → t σ H Q) : PO X e t' := ⟨fun pins s σ H Q I q => h.run pins s σ H Q I (i σ H Q q)⟩
theorem ptsI {e : List Expr} {t t' : TT} (h : PTs X e t) (i : ∀ σ H Q, t' σ H Q → t σ H Q) : PTs X e t' := ⟨fun pins s σ H Q I q => h.run pins s σ H Q I (i σ H Q q)⟩
end
section
variable {X : Cx} {c : Cf}
theorem rdE_go {kd : Kd} {f : FE} {G H : Hp} {S : Env} {σ : St} {Q : VK} {β : Type} {g : D → R β} {Post : R β → Prop} (r : Rel c G S σ H) (p : Post (f S >>= g))
    (hx : ∀ x, Post (.exc x) → PX c σ x) (hf : Post .fail → False) (k : ∀ d v G' H', Step G H G' H' → Res c.k H G' H' d v kd → Post (g d) → Q v H') : RdE c kd f σ H Q := by
  refine ⟨G, S, r, ?_⟩
  cases e : f S with
  | ok d => rw [e] at p; exact fun v G' H' s h => k d v G' H' s h p
  | exc x => rw [e] at p; exact hx x p
  | fail => rw [e] at p; exact hf p
theorem rdT_go {f : FT} {G H : Hp} {S : Env} {σ : St} {Q : Bool → Hp → Prop} {β : Type} {g : Bool → R β} {Post : R β → Prop} (r : Rel c G S σ H) (p : Post (f S >>= g))
    (hx : ∀ x, Post (.exc x) → PX c σ x) (hf : Post .fail → False) (k : ∀ d G' H', Step G H G' H' → Post (g d) → Q d H') : RdT c f σ H Q := by
  refine ⟨G, S, r, ?_⟩
  cases e : f S with
  | ok d => rw [e] at p; exact fun G' H' s => k d G' H' s p
  | exc x => rw [e] at p; exact hx x p
  | fail => rw [e] at p; exact hf p
theorem rdA_go {b : Bool} {f : FA} {G H : Hp} {S : Env} {σ : St} {Q : List V → Hp → Prop} {β : Type} {g : List D → R β} {Post : R β → Prop} (r : Rel c G S σ H) (p : Post (f S >>= g))
    (hx : ∀ x, Post (.exc x) → PX c σ x) (hf : Post .fail → False) (k : ∀ ds vs G' H', Step G H G' H' → Args c.k G' H' ds vs b → Post (g ds) → Q vs H') : RdA c b f σ H Q := by
  refine ⟨G, S, r, ?_⟩
  cases e : f S with
  | ok d => rw [e] at p; exact fun v G' H' s h => k d v G' H' s h p
  | exc x => rw [e] at p; exact hx x p
  | fail => rw [e] at p; exact hf p
abbrev PE' (X : Cx) (c : Cf) (kd : Kd) (e : Expr) (f : FE) : Prop := PE X e (RdE c kd f)
abbrev PT' (X : Cx) (c : Cf) (e : Expr) (f : FT) : Prop := PT X e (RdT c f)
abbrev PA' (X : Cx) (c : Cf) (b : Bool) (es : List Expr) (f : FA) : Prop := PA X es (RdA c b f)
theorem cst_of {e : Expr} {d : D} {v : V} (h : PE X e (tC v)) (r : ∀ G, RD c.k G d v) : PE' X c .st e (fun _ => .ok d) :=
  peI h fun σ H Q ⟨G, S, rel, p⟩ => p v G H (Step.refl rel.st.gh) (r G)
def eI (i : Int) : FE := fun _ => .ok (.int i)
def eS (x : Str) : FE := fun _ => .ok (.str x)
def eB (b : Bool) : FE := fun _ => .ok (.bl b)
def eN : FE := fun _ => .ok .non
theorem d_int {i j pos} : PE' X c .st (.Constant (.int i) j pos) (eI i) := cst_of pe_int fun _ => .int i
theorem d_str {i j pos} : PE' X c .st (.Constant (.str i) j pos) (eS i) := cst_of pe_str fun _ => .str i
theorem d_bl {i j pos} : PE' X c .st (.Constant (.bool i) j pos) (eB i) := cst_of pe_bl fun _ => .bl i
theorem d_non {j pos} : PE' X c .st (.Constant .none j pos) eN := cst_of pe_non fun _ => .non
def eV (i : Nat) : FE := fun S => match S[i]? with
  | some (some ⟨false, d⟩) => .ok d
  | _ => .fail
def eW (i : Nat) : FE := fun S => match S[i]? with
  | some (some ⟨_, d⟩) => .ok d
  | _ => .fail
theorem d_v (i : Nat) {x : Str} {pos : Pos} (hN : X.N[i]? = some x := by rfl) (hv : Vis X.env.scope x := by first | exact Or.inl rfl | exact Or.inr (Or.inl rfl) | exact Or.inr (Or.inr rfl)) (hd : (x == ("__debug__" : Str)) = false := by decide)
    (hcd : (x == ("__classdict__" : Str)) = false := by decide) : PE' X c .st (.Name x pos) (eV i) :=
  peI (pe_var hN hv hd hcd) fun σ H Q ⟨G, S, r, p⟩ => by
    unfold eV at p
    split at p
    · rename_i d e
      obtain ⟨v, e1, q⟩ := r.fz i d e
      exact ⟨v, e1, p v G H (Step.refl r.st.gh) q⟩
    · exact p.elim
theorem d_w (i : Nat) {x : Str} {pos : Pos} (hN : X.N[i]? = some x := by rfl) (hv : Vis X.env.scope x := by first | exact Or.inl rfl | exact Or.inr (Or.inl rfl) | exact Or.inr (Or.inr rfl)) (hd : (x == ("__debug__" : Str)) = false := by decide)
    (hcd : (x == ("__classdict__" : Str)) = false := by decide) : PE' X c .bo (.Name x pos) (eW i) :=
  peI (pe_var hN hv hd hcd) fun σ H Q ⟨G, S, r, p⟩ => by
    unfold eW at p
    split at p
    · rename_i b d e
      cases b with
      | false =>
        obtain ⟨v, e1, q⟩ := r.fz i d e
        exact ⟨v, e1, p v G H (Step.refl r.st.gh) (.inl q)⟩
      | true =>
        obtain ⟨a, o, e1, hg, h0, ho, ct⟩ := r.ow i d e
        exact ⟨_, e1, p _ G H (Step.refl r.st.gh) (.inr ⟨a, o, rfl, ho, ct⟩)⟩
    · exact p.elim
theorem d_z {e : Expr} {f : FE} (h : PE' X c .fr e f) : PE' X c .st e f :=
  peI h fun σ H Q ⟨G, S, r, p⟩ => ⟨G, S, r, by
    cases e1 : f S with
    | ok d =>
      rw [e1] at p
      rintro v G' H' s ⟨a, o, rfl, hg, hn, ha, ct⟩
      exact p _ (upd G' a o) H' (s.frz ha hn hg) ((ct.mono (Ex.new hg)).rd upd_same)
    | exc x => rw [e1] at p; exact p
    | fail => rw [e1] at p; exact p⟩
def Op2 (X : Cx) (k : Kn) (f : Value → Value → Sem Value) (kd : Kd) (g : D → D → R D) : Prop :=
  ∃ r : R2, OpR X f r ∧ ∀ G H x y u v d, Ex G H → Now k G H x u → Now k G H y v → g x y = .ok d → ∀ Q : VK, (∀ w G' H', Step G H G' H' → Res k H G' H' d w kd → Q w H') → r u v H Q
variable {kd k1 k2 k3 : Kd} {a b : Expr} {f g h : FE} {pos : Pos}
def e2 (o : D → D → R D) (f g : FE) : FE := fun S => do
  let x ← f S
  let y ← g S
  (o x y).nox
theorem e2_go {o : D → D → R D} {σ : St} {H : Hp} {Q : VK} {r : R2} (hr : ∀ G H x y u v d, Ex G H → Now c.k G H x u → Now c.k G H y v → o x y = .ok d → ∀ Q : VK, (∀ w G' H', Step G H G' H' → Res c.k H G' H' d w kd → Q w H') → r u v H Q)
    (q : RdE c kd (e2 o f g) σ H Q) : RdE c k1 f σ H fun x H1 => RdE c k2 g σ H1 fun y H2 => r x y H2 Q := by
  obtain ⟨G, S, rel, p⟩ := q
  refine rdE_go (g := fun x => do let y ← g S; (o x y).nox) (Post := PostE c kd G S σ H Q) rel p (fun _ z => z) (fun z => z) fun d1 v1 G1 H1 s1 q1 p1 => ?_
  refine rdE_go (g := fun y => (o d1 y).nox) (Post := PostE c kd G S σ H Q) (rel.grow s1) p1 (fun _ z => z) (fun z => z) fun d2 v2 G2 H2 s2 q2 p2 => ?_
  cases e : o d1 d2 with
  | ok d =>
    rw [e] at p2
    exact hr G2 H2 d1 d2 v1 v2 d s2.gh (q1.now.grow s2) q2.now e Q fun w G3 H3 s3 q3 => p2 w G3 H3 ((s1.trans s2).trans s3) (q3.mono (s1.h.trans s2.h))
  | exc x => rw [e] at p2; exact p2.elim
  | fail => rw [e] at p2; exact p2.elim
theorem d_op {op : Operator} {o : D → D → R D} (ho : Op2 X c.k (binaryOp op) kd o) (ha : PE' X c k1 a f) (hb : PE' X c k2 b g) : PE' X c kd (.BinOp a op b pos) (e2 o f g) := by
  obtain ⟨r, h1, h2⟩ := ho
  exact peI (pe_op h1 ha hb) fun σ H Q q => e2_go h2 q
theorem d_cmp {op : CmpOp} {o : D → D → R D} (ho : Op2 X c.k (compareOp op) kd o) (ha : PE' X c k1 a f) (hb : PE' X c k2 b g) (hm : behindInMarks op b = false := by rfl) : PE' X c kd (.Compare a [op] [b] pos) (e2 o f g) := by
  obtain ⟨r, h1, h2⟩ := ho
  exact peI (pe_cmpR h1 ha hb hm) fun σ H Q q => e2_go h2 q
def Ix2 (X : Cx) (k : Kn) (g : D → D → R D) : Prop :=
  ∃ r : R2, IxR X r ∧ ∀ G H x y u v d, Ex G H → Now k G H x u → Now k G H y v → g x y = .ok d → ∀ Q : VK, (∀ w G' H', Step G H G' H' → Res k H G' H' d w .st → Q w H') → r u v H Q
theorem d_ix {o : D → D → R D} (ho : Ix2 X c.k o) (ha : PE' X c k1 a f) (hb : PE' X c k2 b g) (hi : PlainIx b := by exact fun _ _ => rfl) : PE' X c .st (.Subscript a b pos) (e2 o f g) := by
  obtain ⟨r, h1, h2⟩ := ho
  exact peI (pe_ix h1 ha hb hi) fun σ H Q q => e2_go h2 q
def e1 (o : D → R D) (f : FE) : FE := fun S => do
  let x ← f S
  (o x).nox
theorem e1_go {o : D → R D} {σ : St} {H : Hp} {Q : VK} {r : V → Hp → VK → Prop} (hr : ∀ G H x u d, Ex G H → Now c.k G H x u → o x = .ok d → ∀ Q : VK, (∀ w G' H', Step G H G' H' → Res c.k H G' H' d w kd → Q w H') → r u H Q)
    (q : RdE c kd (e1 o f) σ H Q) : RdE c k1 f σ H fun x H1 => r x H1 Q := by
  obtain ⟨G, S, rel, p⟩ := q
  refine rdE_go (g := fun x => (o x).nox) (Post := PostE c kd G S σ H Q) rel p (fun _ z => z) (fun z => z) fun d1 v1 G1 H1 s1 q1 p1 => ?_
  cases e : o d1 with
  | ok d =>
    rw [e] at p1
    exact hr G1 H1 d1 v1 d s1.gh q1.now e Q fun w G3 H3 s3 q3 => p1 w G3 H3 (s1.trans s3) (q3.mono s1.h)
  | exc x => rw [e] at p1; exact p1.elim
  | fail => rw [e] at p1; exact p1.elim
def Un1 (X : Cx) (k : Kn) (f : Value → Sem Value) (g : D → R D) : Prop :=
  ∃ r : V → Hp → VK → Prop, UnR X f r ∧ ∀ G H x u d, Ex G H → Now k G H x u → g x = .ok d → ∀ Q : VK, (∀ w G' H', Step G H G' H' → Res k H G' H' d w .st → Q w H') → r u H Q
theorem d_un {op : UnaryOp} {o : D → R D} (ho : Un1 X c.k (unaryOp op) o) (ha : PE' X c k1 a f) : PE' X c .st (.UnaryOp op a pos) (e1 o f) := by
  obtain ⟨r, h1, h2⟩ := ho
  exact peI (pe_un h1 ha) fun σ H Q q => e1_go h2 q
def aN : FA := fun _ => .ok []
def aC (f : FE) (g : FA) : FA := fun S => do
  let x ← f S
  let xs ← g S
  .ok (x :: xs)
theorem d_an {b : Bool} : PA' X c b [] aN := paI pa_nil fun σ H Q ⟨G, S, r, p⟩ => p [] G H (Step.refl r.st.gh) (by cases b <;> exact .nil)
theorem d_ac {e : Expr} {es : List Expr} {ga : FA} (ha : PE' X c .st e f) (hr : PA' X c false es ga) (hs : starEach (e :: es) X.env = (false, eval e X.env) :: starEach es X.env := by rfl) : PA' X c false (e :: es) (aC f ga) :=
  paI (pa_cons ha hr hs) fun σ H Q ⟨G, S, rel, p⟩ => by
    refine rdE_go (g := fun x => do let xs ← ga S; .ok (x :: xs)) (Post := PostA c false G S σ H Q) rel p (fun _ z => z) (fun z => z) fun d1 v1 G1 H1 s1 q1 p1 => ?_
    refine rdA_go (g := fun xs => .ok (d1 :: xs)) (Post := PostA c false G S σ H Q) (rel.grow s1) p1 (fun _ z => z) (fun z => z) fun d2 v2 G2 H2 s2 q2 p2 => ?_
    exact p2 _ G2 H2 (s1.trans s2) (.cons (RD.mono s2.g q1) q2)
theorem d_ab {e : Expr} {es : List Expr} {ga : FA} (ha : PE' X c k1 e f) (hr : PA' X c true es ga) (hs : starEach (e :: es) X.env = (false, eval e X.env) :: starEach es X.env := by rfl) : PA' X c true (e :: es) (aC f ga) :=
  paI (pa_cons ha hr hs) fun σ H Q ⟨G, S, rel, p⟩ => by
    refine rdE_go (g := fun x => do let xs ← ga S; .ok (x :: xs)) (Post := PostA c true G S σ H Q) rel p (fun _ z => z) (fun z => z) fun d1 v1 G1 H1 s1 q1 p1 => ?_
    refine rdA_go (g := fun xs => .ok (d1 :: xs)) (Post := PostA c true G S σ H Q) (rel.grow s1) p1 (fun _ z => z) (fun z => z) fun d2 v2 G2 H2 s2 q2 p2 => ?_
    exact p2 _ G2 H2 (s1.trans s2) (.cons (q1.now.grow s2) q2)
def mkT (xs : List D) : R D := if xs.length ≤ sizeLine then .ok (.tup xs) else .fail
def mkL (xs : List D) : R D := if xs.length ≤ sizeLine then .ok (.lst xs) else .fail
def eT (g : FA) : FE := fun S => g S >>= mkT
def eL (g : FA) : FE := fun S => g S >>= mkL
theorem d_tup {es : List Expr} {ga : FA} {x1} (h : PA' X c false es ga) : PE' X c .st (.Tuple es x1 pos) (eT ga) :=
  peI (pe_tup h) fun σ H Q ⟨G, S, rel, p⟩ => by
    refine rdA_go (g := mkT) (Post := PostE c .st G S σ H Q) rel p (fun _ z => z) (fun z => z) fun ds vs G1 H1 s1 q1 p1 => ?_
    have q1 : RDs c.k G1 ds vs := q1
    by_cases hl : ds.length ≤ sizeLine
    · unfold mkT at p1; rw [if_pos hl] at p1
      exact ⟨by rw [← q1.length]; exact hl, fun p hp => p1 _ _ _ (s1.trans (Step.new s1.gh hp)) (.tup (SqU.of upd_same) (q1.mono (Ex.new (s1.gh.free hp))))⟩
    · unfold mkT at p1; rw [if_neg hl] at p1; exact p1.elim
theorem d_lst {es : List Expr} {ga : FA} (h : PA' X c false es ga) : PE' X c .fr (.List es pos) (eL ga) :=
  peI (pe_lst h) fun σ H Q ⟨G, S, rel, p⟩ => by
    refine rdA_go (g := mkL) (Post := PostE c .fr G S σ H Q) rel p (fun _ z => z) (fun z => z) fun ds vs G1 H1 s1 q1 p1 => ?_
    have q1 : RDs c.k G1 ds vs := q1
    by_cases hl : ds.length ≤ sizeLine
    · unfold mkL at p1; rw [if_pos hl] at p1
      exact ⟨by rw [← q1.length]; exact hl, fun p hp => p1 _ _ _ (s1.trans (Step.new' s1.gh hp)) ⟨p, _, rfl, s1.gh.free hp, s1.h.free hp, upd_same, .lst q1⟩⟩
    · unfold mkL at p1; rw [if_neg hl] at p1; exact p1.elim
def ClR (X : Cx) (k : Kn) (f : Value) (kd : Kd) (g : List D → R D) : Prop :=
  ∃ r : List V → Hp → VK → Prop, CallR X f r ∧ ∀ G H ds vs d, Ex G H → Nows k G H ds vs → g ds = .ok d → ∀ Q : VK, (∀ w G' H', Step G H G' H' → Res k H G' H' d w kd → Q w H') → r vs H Q
def eC (o : List D → R D) (g : FA) : FE := fun S => do
  let xs ← g S
  (o xs).nox
theorem eC_go {ba : Bool} {ga : FA} {o : List D → R D} {σ : St} {H : Hp} {Q : VK} {r : List V → Hp → VK → Prop} (hr : ∀ G H ds vs d, Ex G H → Nows c.k G H ds vs → o ds = .ok d → ∀ Q : VK, (∀ w G' H', Step G H G' H' → Res c.k H G' H' d w kd → Q w H') → r vs H Q)
    (q : RdE c kd (eC o ga) σ H Q) : RdA c ba ga σ H fun x H1 => r x H1 Q := by
  obtain ⟨G, S, rel, p⟩ := q
  refine rdA_go (g := fun x => (o x).nox) (Post := PostE c kd G S σ H Q) rel p (fun _ z => z) (fun z => z) fun d1 v1 G1 H1 s1 q1 p1 => ?_
  cases e : o d1 with
  | ok d =>
    rw [e] at p1
    exact hr G1 H1 d1 v1 d s1.gh q1.nows e Q fun w G3 H3 s3 q3 => p1 w G3 H3 (s1.trans s3) (q3.mono s1.h)
  | exc x => rw [e] at p1; exact p1.elim
  | fail => rw [e] at p1; exact p1.elim
theorem d_bltn {ba : Bool} {x : Str} {p : Pos} {e : Expr} {es : List Expr} {ga : FA} {id : String} {o : List D → R D} (ho : ClR X c.k (.builtin id) kd o) (hm : X.mg x = none) (ha : PA' X c ba (e :: es) ga) (hv : bootBuiltins x = some (.builtin id) := by decide +kernel) (hg : Gl X x := by rfl)
    (hn : x ≠ "__name__" := by decide) (hdb : (x == ("__debug__" : Str)) = false := by decide)
    (hs : starEach (e :: es) X.env = (false, eval e X.env) :: starEach es X.env := by rfl) (hs2 : ((backTo pos (starEach es X.env)).any fun x => x.1) = false := by rfl) :
    PE' X c kd (.Call (.Name x p) (e :: es) [] pos) (eC o ga) := by
  obtain ⟨r, h1, h2⟩ := ho
  exact peI (pe_callB h1 hg hm hv ha hn hdb hs hs2) fun σ H Q q => eC_go h2 q
theorem d_btyp {ba : Bool} {x : Str} {p : Pos} {e : Expr} {es : List Expr} {ga : FA} {id : String} {o : List D → R D} (ho : ClR X c.k (.type id) kd o) (hm : X.mg x = none) (ha : PA' X c ba (e :: es) ga) (hv : bootBuiltins x = some (.type id) := by decide +kernel) (hg : Gl X x := by rfl)
    (hn : x ≠ "__name__" := by decide) (hdb : (x == ("__debug__" : Str)) = false := by decide)
    (hs : starEach (e :: es) X.env = (false, eval e X.env) :: starEach es X.env := by rfl) (hs2 : ((backTo pos (starEach es X.env)).any fun x => x.1) = false := by rfl) :
    PE' X c kd (.Call (.Name x p) (e :: es) [] pos) (eC o ga) := by
  obtain ⟨r, h1, h2⟩ := ho
  exact peI (pe_callTy h1 hg hm hv ha hn hdb hs hs2) fun σ H Q q => eC_go h2 q
end
end M
set_option Elab.async false
set_option linter.all false
set_option maxRecDepth 100000
set_option maxHeartbeats 4000000
namespace M
open PySem L2
mutual
def D.toP : D → PyData
  | .bl b => .bool b
  | .int i => .int i
  | .str x => .str x
  | .tup xs => .tuple (D.toPs xs)
  | .lst xs => .list (D.toPs xs)
  | _ => .none
def D.toPs : List D → List PyData
  | [] => []
  | x :: xs => x.toP :: D.toPs xs
end
mutual
def deq : D → D → Bool
  | .non, .non => true
  | .bl a, .bl b => a == b
  | .bl a, .int j => (if a then 1 else 0) == j
  | .int i, .bl b => i == (if b then 1 else 0)
  | .int i, .int j => i == j
  | .str x, .str y => x == y
  | .lst xs, .lst ys => deqs xs ys
  | .tup xs, .tup ys => deqs xs ys
  | _, _ => false
def deqs : List D → List D → Bool
  | [], [] => true
  | x :: xs, y :: ys => deq x y && deqs xs ys
  | _, _ => false
end
mutual
def dok : Nat → D → Bool
  | _, .non => true
  | _, .bl _ => true
  | _, .int _ => true
  | _, .str x => PyData.strOk x
  | n + 1, .tup xs => doks n xs
  | n + 1, .lst xs => doks n xs
  | _, _ => false
def doks : Nat → List D → Bool
  | _, [] => true
  | n, x :: xs => dok n x && doks n xs
end
mutual
theorem dok_lay : ∀ (n : Nat) (d : D), dok n d = true → PyData.canLay0 d.toP = true ∧ PyData.depth d.toP ≤ n
  | n, .non, _ => by simp [D.toP, PyData.canLay0, PyData.depth]
  | n, .bl _, _ => by simp [D.toP, PyData.canLay0, PyData.depth]
  | n, .int _, _ => by simp [D.toP, PyData.canLay0, PyData.depth]
  | n, .str x, h => by
    cases n <;> (simp only [dok] at h; simp [D.toP, PyData.canLay0, PyData.depth, h])
  | n + 1, .tup xs, h => by
    simp only [dok] at h
    have := doks_lay n xs h
    simp only [D.toP, PyData.canLay0, PyData.depth]
    exact ⟨this.1, by omega⟩
  | n + 1, .lst xs, h => by
    simp only [dok] at h
    have := doks_lay n xs h
    simp only [D.toP, PyData.canLay0, PyData.depth]
    exact ⟨this.1, by omega⟩
  | 0, .tup xs, h => by simp [dok] at h
  | 0, .lst xs, h => by simp [dok] at h
  | n, .ty _, h => by cases n <;> simp [dok] at h
  | n, .dic _ _, h => by cases n <;> simp [dok] at h
  | n, .dit _ _, h => by cases n <;> simp [dok] at h
  | n, .dkf _ _, h => by cases n <;> simp [dok] at h
  | n, .dig _ _, h => by cases n <;> simp [dok] at h
  | n, .dgf _ _, h => by cases n <;> simp [dok] at h
  | n, .obj _ _, h => by cases n <;> simp [dok] at h
  | n, .scr _, h => by cases n <;> simp [dok] at h
  | n, .cls _, h => by cases n <;> simp [dok] at h
theorem doks_lay : ∀ (n : Nat) (ds : List D), doks n ds = true → PyData.canLayAll0 (D.toPs ds) = true ∧ PyData.depthAll (D.toPs ds) ≤ n
  | n, [], _ => by simp [D.toPs, PyData.canLayAll0, PyData.depthAll]
  | n, x :: xs, h => by
    simp only [doks, Bool.and_eq_true] at h
    have a := dok_lay n x h.1
    have b := doks_lay n xs h.2
    simp only [D.toPs, PyData.canLayAll0, PyData.depthAll, Bool.and_eq_true]
    exact ⟨⟨a.1, b.1⟩, by omega⟩
end
mutual
theorem deq_eqv : ∀ (n m : Nat) (x y : D), dok n x = true → dok m y = true → PyData.eqv x.toP y.toP = deq x y
  | n, m, .non, y, _, h => by cases y <;> first | (simp [D.toP, PyData.eqv, deq]; done) | (cases m <;> simp [dok] at h)
  | n, m, .bl _, y, _, h => by cases y <;> first | (simp [D.toP, PyData.eqv, deq]; done) | (cases m <;> simp [dok] at h)
  | n, m, .int _, y, _, h => by cases y <;> first | (simp [D.toP, PyData.eqv, deq]; done) | (cases m <;> simp [dok] at h)
  | n, m, .str _, y, _, h => by cases y <;> first | (simp [D.toP, PyData.eqv, deq]; done) | (cases m <;> simp [dok] at h)
  | n + 1, m, .tup xs, y, h1, h => by
    cases y with
    | tup ys =>
      cases m with
      | zero => simp [dok] at h
      | succ m =>
        simp only [dok] at h h1
        simp only [D.toP, PyData.eqv, deq]
        exact deqs_eqv n m xs ys h1 h
    | _ => first | (simp [D.toP, PyData.eqv, deq]; done) | (cases m <;> simp [dok] at h)
  | n + 1, m, .lst xs, y, h1, h => by
    cases y with
    | lst ys =>
      cases m with
      | zero => simp [dok] at h
      | succ m =>
        simp only [dok] at h h1
        simp only [D.toP, PyData.eqv, deq]
        exact deqs_eqv n m xs ys h1 h
    | _ => first | (simp [D.toP, PyData.eqv, deq]; done) | (cases m <;> simp [dok] at h)
  | 0, _, .tup xs, _, h, _ => by simp [dok] at h
  | 0, _, .lst xs, _, h, _ => by simp [dok] at h
  | n, _, .ty _, _, h, _ => by cases n <;> simp [dok] at h
  | n, _, .dic _ _, _, h, _ => by cases n <;> simp [dok] at h
  | n, _, .dit _ _, _, h, _ => by cases n <;> simp [dok] at h
  | n, _, .dkf _ _, _, h, _ => by cases n <;> simp [dok] at h
  | n, _, .dig _ _, _, h, _ => by cases n <;> simp [dok] at h
  | n, _, .dgf _ _, _, h, _ => by cases n <;> simp [dok] at h
  | n, _, .obj _ _, _, h, _ => by cases n <;> simp [dok] at h
  | n, _, .scr _, _, h, _ => by cases n <;> simp [dok] at h
  | n, _, .cls _, _, h, _ => by cases n <;> simp [dok] at h
theorem deqs_eqv : ∀ (n m : Nat) (xs ys : List D), doks n xs = true → doks m ys = true → PyData.eqvAll (D.toPs xs) (D.toPs ys) = deqs xs ys
  | n, m, [], [], _, _ => by simp [D.toPs, PyData.eqvAll, deqs]
  | n, m, [], _ :: _, _, _ => by simp [D.toPs, PyData.eqvAll, deqs]
  | n, m, _ :: _, [], _, _ => by simp [D.toPs, PyData.eqvAll, deqs]
  | n, m, x :: xs, y :: ys, h1, h2 => by
    simp only [doks, Bool.and_eq_true] at h1 h2
    simp only [D.toPs, PyData.eqvAll, deqs]
    rw [deq_eqv n m x y h1.1 h2.1, deqs_eqv n m xs ys h1.2 h2.2]
end
mutual
theorem RD.dp {k : Kn} {H : Hp} : ∀ {d : D} {v : V} (n : Nat), RD k H d v → dok n d = true → Dp k.K H v d.toP
  | _, _, _, .non, _ => by simp only [D.toP]; exact .non
  | _, _, _, .bl b, _ => by simp only [D.toP]; exact .bl b
  | _, _, _, .int b, _ => by simp only [D.toP]; exact .int b
  | _, _, _, .str b, _ => by simp only [D.toP]; exact .str b
  | _, _, n, .tup h r, e => by
    cases n with
    | zero => simp [dok] at e
    | succ n => simp only [dok] at e; simp only [D.toP]; exact .tup h.t (RDs.dp n r e)
  | _, _, n, .lst h r, e => by
    cases n with
    | zero => simp [dok] at e
    | succ n => simp only [dok] at e; simp only [D.toP]; exact .lst (SqL.of h) (RDs.dp n r e)
  | _, _, n, .ty _, e => by cases n <;> simp [dok] at e
  | _, _, n, .scr _, e => by cases n <;> simp [dok] at e
  | _, _, n, .cls _, e => by cases n <;> simp [dok] at e
  | _, _, n, .dic _ _ _, e => by cases n <;> simp [dok] at e
  | _, _, n, .dit _ _ _, e => by cases n <;> simp [dok] at e
  | _, _, n, .dkf _ _ _, e => by cases n <;> simp [dok] at e
  | _, _, n, .dig _ _ _ _, e => by cases n <;> simp [dok] at e
  | _, _, n, .dgf _ _ _ _, e => by cases n <;> simp [dok] at e
  | _, _, n, .obj _ _ _, e => by cases n <;> simp [dok] at e
theorem RDs.dp {k : Kn} {H : Hp} : ∀ {ds : List D} {vs : List V} (n : Nat), RDs k H ds vs → doks n ds = true → DpAll k.K H vs (D.toPs ds)
  | _, _, _, .nil, _ => by simp only [D.toPs]; exact .nil
  | _, _, n, .cons a b, e => by
    simp only [doks, Bool.and_eq_true] at e
    simp only [D.toPs]
    exact .cons (RD.dp n a e.1) (RDs.dp n b e.2)
end
theorem dok_shaped {d : D} (h : dok 60 d = true) : SeqAt.shaped d.toP = true := by
  have := dok_lay 60 d h
  unfold SeqAt.shaped
  simp only [this.1, Bool.true_and, decide_eq_true_eq]
  omega
def eqD (a b : D) : R D := if dok 60 a && dok 60 b then .ok (.bl (deq a b)) else .fail
def neD (a b : D) : R D := if dok 60 a && dok 60 b then .ok (.bl (!deq a b)) else .fail
section
variable {X : Cx} {k : Kn}
theorem o_eq (hk : k.K = X.K) (hu : X.A.units + 64 < cLine) : Op2 X k (compareOp .Eq) .st eqD := by
  refine ⟨_, op_eqD hu, ?_⟩
  intro G H x y u v d e nx ny hg Q q
  unfold eqD at hg
  split at hg
  · rename_i h
    simp only [Bool.and_eq_true] at h
    cases hg
    refine ⟨x.toP, y.toP, hk ▸ (nx.rd e).dp 60 h.1, hk ▸ (ny.rd e).dp 60 h.2, dok_shaped h.1, dok_shaped h.2, ?_⟩
    rw [deq_eqv 60 60 x y h.1 h.2]
    exact q _ G H (Step.refl e) (.bl _)
  · cases hg
theorem o_ne (hk : k.K = X.K) (hu : X.A.units + 64 < cLine) : Op2 X k (compareOp .NotEq) .st neD := by
  refine ⟨_, op_neD hu, ?_⟩
  intro G H x y u v d e nx ny hg Q q
  unfold neD at hg
  split at hg
  · rename_i h
    simp only [Bool.and_eq_true] at h
    cases hg
    refine ⟨x.toP, y.toP, hk ▸ (nx.rd e).dp 60 h.1, hk ▸ (ny.rd e).dp 60 h.2, dok_shaped h.1, dok_shaped h.2, ?_⟩
    rw [deq_eqv 60 60 x y h.1 h.2]
    exact q _ G H (Step.refl e) (.bl _)
  · cases hg
def addD : D → D → R D
  | .int i, .int j => .ok (.int (i + j))
  | .str x, .str y => if x.length + y.length ≤ sizeLine then .ok (.str (x ++ y)) else .fail
  | .lst xs, .lst ys => if xs.length + ys.length ≤ sizeLine then .ok (.lst (xs ++ ys)) else .fail
  | .tup xs, .tup ys => if xs.length + ys.length ≤ sizeLine then .ok (.tup (xs ++ ys)) else .fail
  | _, _ => .fail
theorem o_add (hk : k.K = X.K) : Op2 X k (binaryOp .Add) .st addD := by
  refine ⟨_, op_add.or (op_add_str.or (op_cat.or op_catA)), ?_⟩
  intro G H x y u v d e nx ny hg Q q
  unfold addD at hg
  split at hg
  · cases hg; obtain rfl := nx.int; obtain rfl := ny.int
    exact .inl ⟨_, _, rfl, rfl, q _ G H (Step.refl e) (.int _)⟩
  · split at hg
    · rename_i hl
      cases hg; obtain rfl := nx.str; obtain rfl := ny.str
      exact .inr (.inl ⟨_, _, rfl, rfl, hl, q _ G H (Step.refl e) (.str _)⟩)
    · cases hg
  · split at hg
    · rename_i hl
      cases hg
      obtain ⟨a, vs, rfl, ha, ra⟩ := nx.lst e
      obtain ⟨b, us, rfl, hb, rb⟩ := ny.lst e
      exact .inr (.inr (.inl ⟨a, b, vs, us, rfl, rfl, ha, hb, by rw [← ra.length, ← rb.length]; exact hl, fun p hp => q _ _ _ (Step.new e hp) (.lst upd_same ((ra.append rb).mono (Ex.new (e.free hp))))⟩))
    · cases hg
  · split at hg
    · rename_i hl
      cases hg
      obtain ⟨a, vs, rfl, ha, ra⟩ := nx.tup
      obtain ⟨b, us, rfl, hb, rb⟩ := ny.tup
      refine .inr (.inr (.inr ⟨a, b, vs, us, rfl, rfl, hk ▸ e.sqT ha.t, hk ▸ e.sqT hb.t, by rw [← ra.length, ← rb.length]; exact hl, fun z => ?_, fun z1 z2 => ?_, fun _ _ p hp => q _ _ _ (Step.new e hp) (.tup (SqU.of upd_same) ((ra.append rb).mono (Ex.new (e.free hp))))⟩))
      · subst z; cases ra; exact q _ _ _ (Step.refl e) (.tup hb rb)
      · subst z2; cases rb; rw [List.append_nil] at q; exact q _ _ _ (Step.refl e) (.tup ha ra)
    · cases hg
  · cases hg
theorem o_int {f : Value → Value → Sem Value} {C : Int → Int → Prop} [∀ i j, Decidable (C i j)] {gv : Int → Int → V} {gd : Int → Int → D} (h : OpR X f (rI C gv)) (r : ∀ i j G, RD k G (gd i j) (gv i j)) :
    Op2 X k f .st (fun x y => match x, y with | .int i, .int j => if C i j then .ok (gd i j) else .fail | _, _ => .fail) := by
  refine ⟨_, h, ?_⟩
  intro G H x y u v d e nx ny hg Q q
  dsimp only at hg
  split at hg
  · split at hg
    · rename_i hc
      cases hg; obtain rfl := nx.int; obtain rfl := ny.int
      exact ⟨_, _, rfl, rfl, hc, q _ G H (Step.refl e) (r _ _ _)⟩
    · cases hg
  · cases hg
theorem o_int0 {f : Value → Value → Sem Value} {gv : Int → Int → V} {gd : Int → Int → D} (h : OpR X f (rI0 gv)) (r : ∀ i j G, RD k G (gd i j) (gv i j)) :
    Op2 X k f .st (fun x y => match x, y with | .int i, .int j => .ok (gd i j) | _, _ => .fail) := by
  refine ⟨_, h, ?_⟩
  intro G H x y u v d e nx ny hg Q q
  dsimp only at hg
  split at hg
  · cases hg; obtain rfl := nx.int; obtain rfl := ny.int
    exact ⟨_, _, rfl, rfl, q _ G H (Step.refl e) (r _ _ _)⟩
  · cases hg
def subD : D → D → R D := fun x y => match x, y with | .int i, .int j => .ok (.int (i - j)) | _, _ => .fail
theorem o_sub : Op2 X k (binaryOp .Sub) .st subD := o_int0 op_sub fun _ _ _ => .int _
instance (i j : Int) : Decidable (CMul i j) := by unfold CMul; exact inferInstance
instance (i j : Int) : Decidable (CMulX i j) := by unfold CMulX; exact inferInstance
instance (i j : Int) : Decidable (CDiv i j) := by unfold CDiv; exact inferInstance
instance (i j : Int) : Decidable (CPow i j) := by unfold CPow; exact inferInstance
def fdivD : D → D → R D := fun x y => match x, y with | .int i, .int j => if CDiv i j then .ok (.int (i / j)) else .fail | _, _ => .fail
theorem o_fdiv : Op2 X k (binaryOp .FloorDiv) .st fdivD := o_int op_fdiv fun _ _ _ => .int _
def modD : D → D → R D := fun x y => match x, y with | .int i, .int j => if 0 < j then .ok (.int (i % j)) else .fail | _, _ => .fail
theorem o_mod : Op2 X k (binaryOp .Mod) .st modD := o_int (C := fun _ j => 0 < j) op_mod fun _ _ _ => .int _
def powD : D → D → R D := fun x y => match x, y with | .int i, .int j => if CPow i j then .ok (.int (i ^ j.toNat)) else .fail | _, _ => .fail
theorem o_pow : Op2 X k (binaryOp .Pow) .st powD := o_int op_pow fun _ _ _ => .int _
def mulD : D → D → R D
  | .int i, .int j => if CMul i j ∨ CMulX i j then .ok (.int (i * j)) else .fail
  | .lst xs, .int j => if -(2 ^ 63) ≤ j ∧ j < 2 ^ 63 ∧ xs.length * j.toNat ≤ sizeLine then .ok (.lst (List.replicate j.toNat xs).flatten) else .fail
  | .tup xs, .int j => if xs ≠ [] ∧ 2 ≤ j ∧ j ≤ 1000 ∧ xs.length ≤ 1000 then .ok (.tup (List.replicate j.toNat xs).flatten) else .fail
  | _, _ => .fail
theorem RDs.rep {G : Hp} {ds : List D} {vs : List V} (r : RDs k G ds vs) : ∀ n : Nat, RDs k G (List.replicate n ds).flatten (List.replicate n vs).flatten
  | 0 => by simpa using .nil
  | n + 1 => by rw [List.replicate_succ, List.replicate_succ, List.flatten_cons, List.flatten_cons]; exact r.append (RDs.rep r n)
theorem o_mul (hk : k.K = X.K) : Op2 X k (binaryOp .Mult) .st mulD := by
  refine ⟨_, (op_mul.or op_mulX).or (op_rep.or op_repT), ?_⟩
  intro G H x y u v d e nx ny hg Q q
  unfold mulD at hg
  split at hg
  · split at hg
    · rename_i hc
      cases hg; obtain rfl := nx.int; obtain rfl := ny.int
      rcases hc with hc | hc
      · exact .inl (.inl ⟨_, _, rfl, rfl, hc, q _ G H (Step.refl e) (.int _)⟩)
      · exact .inl (.inr ⟨_, _, rfl, rfl, hc, q _ G H (Step.refl e) (.int _)⟩)
    · cases hg
  · split at hg
    · rename_i hc
      cases hg; obtain rfl := ny.int
      obtain ⟨a, vs, rfl, ha, ra⟩ := nx.lst e
      exact .inr (.inl ⟨a, _, vs, rfl, rfl, ha, hc.1, hc.2.1, by rw [← ra.length]; exact hc.2.2, fun p hp => q _ _ _ (Step.new e hp) (.lst upd_same ((ra.rep _).mono (Ex.new (e.free hp))))⟩)
    · cases hg
  · split at hg
    · rename_i hc
      cases hg; obtain rfl := ny.int
      obtain ⟨a, vs, rfl, ha, ra⟩ := nx.tup
      exact .inr (.inr ⟨a, _, vs, rfl, rfl, hk ▸ e.sqT ha.t, fun z => hc.1 (by subst z; cases ra; rfl), hc.2.1, hc.2.2.1, by rw [← ra.length]; exact hc.2.2.2, fun p hp => q _ _ _ (Step.new e hp) (.tup (SqU.of upd_same) ((ra.rep _).mono (Ex.new (e.free hp))))⟩)
    · cases hg
  · cases hg
def ltD : D → D → R D := fun x y => match x, y with | .int i, .int j => .ok (.bl (decide (i < j))) | _, _ => .fail
theorem o_lt : Op2 X k (compareOp .Lt) .st ltD := o_int0 op_lt fun _ _ _ => .bl _
def leD : D → D → R D := fun x y => match x, y with | .int i, .int j => .ok (.bl (decide (i ≤ j))) | _, _ => .fail
theorem o_le : Op2 X k (compareOp .LtE) .st leD := o_int0 op_le fun _ _ _ => .bl _
def gtD : D → D → R D := fun x y => match x, y with | .int i, .int j => .ok (.bl (decide (j < i))) | _, _ => .fail
theorem o_gt : Op2 X k (compareOp .Gt) .st gtD := o_int0 op_gt fun _ _ _ => .bl _
def geD : D → D → R D := fun x y => match x, y with | .int i, .int j => .ok (.bl (decide (j ≤ i))) | _, _ => .fail
theorem o_ge : Op2 X k (compareOp .GtE) .st geD := o_int0 op_ge fun _ _ _ => .bl _
def negD : D → R D := fun x => match x with | .int i => .ok (.int (-i)) | _ => .fail
theorem o_neg : Un1 X k (unaryOp .USub) negD := by
  refine ⟨_, un_neg, ?_⟩
  intro G H x u d e nx hg Q q
  unfold negD at hg
  split at hg
  · cases hg; obtain rfl := nx.int
    exact ⟨_, rfl, q _ G H (Step.refl e) (.int _)⟩
  · cases hg
def D.isNon : D → Bool
  | .non => true
  | _ => false
def isD : D → D → R D := fun x y => match y with | .non => .ok (.bl x.isNon) | _ => .fail
theorem Now.isNon {G H : Hp} {x : D} {u : V} (n : Now k G H x u) : decide (u = V.non) = x.isNon := by
  rcases n with n | ⟨a, o, rfl, h, ct⟩
  · cases n <;> simp [D.isNon]
  · cases ct <;> simp [D.isNon]
theorem o_is : Op2 X k (compareOp .Is) .st isD := by
  refine ⟨_, op_isN, ?_⟩
  intro G H x y u v d e nx ny hg Q q
  unfold isD at hg
  split at hg
  · cases hg; obtain rfl := ny.non
    exact ⟨rfl, by rw [nx.isNon]; exact q _ G H (Step.refl e) (.bl _)⟩
  · cases hg
theorem RDs.atI {G : Hp} {ds : List D} {vs : List V} {i : Int} {d : D} (r : RDs k G ds vs) (h : L2.atI ds i = some d) : ∃ v, L2.atI vs i = some v ∧ RD k G d v := by
  unfold L2.atI at h ⊢
  rw [← r.length]
  cases e : ixN ds.length i with
  | none => rw [e] at h; cases h
  | some j => rw [e] at h; exact r.get h
def ixD : D → D → R D
  | .lst xs, .int i => match L2.atI xs i with | some d => .ok d | none => .fail
  | .tup xs, .int i => match L2.atI xs i with | some d => .ok d | none => .fail
  | .scr ns, .int i => match L2.atI ns i with | some d => .ok (.int d) | none => .fail
  | .str x, .int i => if x.length ≤ sizeLine then match L2.atI x.cps.toList i with | some c => .ok (.str ⟨#[c]⟩) | none => .fail else .fail
  | _, _ => .fail
theorem IxR.or {r r' : R2} (h : IxR X r) (h' : IxR X r') : IxR X (fun x y H Q => r x y H Q ∨ r' x y H Q) := fun v sl pins s σ H x y u w Q I rx ry q hs => by
  rcases q with q | q
  · exact h v sl pins s σ H x y u w Q I rx ry q hs
  · exact h' v sl pins s σ H x y u w Q I rx ry q hs
theorem atI_map {α β : Type} (f : α → β) (xs : List α) (i : Int) : L2.atI (xs.map f) i = (L2.atI xs i).map f := by
  unfold L2.atI
  rw [List.length_map]
  cases ixN xs.length i with
  | none => rfl
  | some j => simp
theorem o_ix (hk : k.K = X.K) : Ix2 X k ixD := by
  refine ⟨_, IxR.or ix_list (IxR.or ix_tup ix_str), ?_⟩
  intro G H x y u v d e nx ny hg Q q
  unfold ixD at hg
  split at hg
  · split at hg
    · rename_i d' hd
      cases hg; obtain rfl := ny.int
      obtain ⟨a, vs, rfl, ha, ra⟩ := nx.lst e
      obtain ⟨w, h1, h2⟩ := ra.atI hd
      exact .inl ⟨a, vs, _, w, rfl, rfl, SqL.of ha, h1, q _ G H (Step.refl e) h2⟩
    · cases hg
  · split at hg
    · rename_i d' hd
      cases hg; obtain rfl := ny.int
      obtain ⟨a, vs, rfl, ha, ra⟩ := nx.tup
      obtain ⟨w, h1, h2⟩ := ra.atI hd
      exact .inr (.inl ⟨a, vs, _, w, rfl, rfl, hk ▸ e.sqT ha.t, h1, q _ G H (Step.refl e) h2⟩)
    · cases hg
  · split at hg
    · rename_i d' hd
      cases hg; obtain rfl := ny.int
      obtain ⟨a, rfl, ha⟩ := nx.scr
      exact .inl ⟨a, _, _, .int d', rfl, rfl, hk ▸ e.sqL ha, by rw [atI_map, hd]; rfl, q _ G H (Step.refl e) (.int _)⟩
    · cases hg
  · split at hg
    · rename_i hl
      split at hg
      · rename_i d' hd
        cases hg; obtain rfl := ny.int; obtain rfl := nx.str
        exact .inr (.inr ⟨_, _, d', rfl, rfl, hl, hd, q _ G H (Step.refl e) (.str _)⟩)
      · cases hg
    · cases hg
  · cases hg
end
end M
set_option Elab.async false
set_option linter.all false
set_option maxRecDepth 100000
set_option maxHeartbeats 4000000
namespace M
open PySem L2
section
variable {X : Cx} {c : Cf} {kd k1 k2 k3 : Kd} {a b e : Expr} {f g h : FE} {pos : Pos}
def toB : D → R Bool
  | .bl b => .ok b
  | _ => .fail
def tB' (f : FE) : FT := fun S => f S >>= toB
def truD : D → R Bool
  | .non => .ok false
  | .bl b => .ok b
  | .int i => .ok (i != 0)
  | .str x => if x.length ≤ sizeLine then .ok (x.length != 0) else .fail
  | .tup xs => .ok (!xs.isEmpty)
  | .lst xs => .ok (!xs.isEmpty)
  | .dic ks _ => .ok (!ks.isEmpty)
  | _ => .fail
def tT' (f : FE) : FT := fun S => f S >>= truD
theorem Now.toB {k : Kn} {G H : Hp} {d : D} {v : V} {b : Bool} (n : Now k G H d v) (h : toB d = .ok b) : v = .bl b := by
  cases d <;> simp only [M.toB] at h <;> first | (cases h; done) | (cases h; exact n.bl)
theorem Nows.isEmpty {k : Kn} {G : Hp} {ds : List D} {vs : List V} (r : RDs k G ds vs) : (!ds.isEmpty) = !vs.isEmpty := by
  cases r <;> rfl
theorem Now.tru {k : Kn} {G H : Hp} {d : D} {v : V} {b : Bool} (e : Ex G H) (n : Now k G H d v) (h : truD d = .ok b) : TruV k.K v H b := by
  unfold truD at h
  split at h
  · cases h; obtain rfl := n.non; rfl
  · cases h; obtain rfl := n.bl; rfl
  · cases h; obtain rfl := n.int; rfl
  · split at h
    · rename_i hl
      cases h; obtain rfl := n.str
      exact ⟨hl, by simp [bne, BEq.beq]⟩
    · cases h
  · cases h; obtain ⟨p, vs, rfl, hp, r⟩ := n.tup
    exact .inr (.inl ⟨vs, e.sqT hp.t, Nows.isEmpty r⟩)
  · cases h; obtain ⟨p, vs, rfl, hp, r⟩ := n.lst e
    exact .inl ⟨vs, SqL.of hp, Nows.isEmpty r⟩
  · cases h; obtain ⟨p, vs, rfl, hp, l, r⟩ := n.dic e
    refine .inr (.inr ⟨_, hp, ?_⟩)
    have l2 := r.length
    rename_i ks ds
    cases ks with
    | nil => rfl
    | cons x xs =>
      cases vs with
      | nil => simp at l2; subst l2; simp at l
      | cons y ys => rfl
  · cases h
theorem d_tt {kd : Kd} (hk : c.k.K = X.K) (ha : PE' X c kd a f) (he : ∀ whole, isTrue a X.env whole = (do let v ← whole; standAt a.pos; holding [v] (truthy v)) := by intro _; rfl) : PT' X c a (tT' f) :=
  ptI (pt_truth ha he) fun σ H Q ⟨G, S, rel, p⟩ => by
    refine rdE_go (g := truD) (Post := PostT c G S σ H Q) rel p (fun _ z => z) (fun z => z) fun d v G' H' s q p1 => ?_
    cases e1 : truD d with
    | ok b => rw [e1] at p1; exact ⟨b, hk ▸ q.now.tru s.gh e1, p1 G' H' s⟩
    | exc x => cases d <;> simp only [truD] at e1 <;> first | (cases e1; done) | (split at e1 <;> cases e1)
    | fail => rw [e1] at p1; exact p1.elim
theorem tB_go {t : TE} {σ : St} {H : Hp} {Q : Bool → Hp → Prop} (ht : ∀ σ H Q, RdE c .st f σ H Q → t σ H Q) (q : RdT c (tB' f) σ H Q) : t σ H fun x H' => ∃ k, x = .bl k ∧ Q k H' := by
  obtain ⟨G, S, rel, p⟩ := q
  refine ht σ H _ (rdE_go (g := toB) (Post := PostT c G S σ H Q) rel p (fun _ z => z) (fun z => z) fun d v G' H' s q p1 => ?_)
  cases e1 : toB d with
  | ok b => rw [e1] at p1; exact ⟨b, q.now.toB e1, p1 G' H' s⟩
  | exc x => cases d <;> simp only [toB] at e1 <;> cases e1
  | fail => rw [e1] at p1; exact p1.elim
theorem d_tc {op : CmpOp} {o : D → D → R D} (ho : Op2 X c.k (compareOp op) .st o) (ha : PE' X c k1 a f) (hb : PE' X c k2 b g) (hm : behindInMarks op b = false := by rfl) : PT' X c (.Compare a [op] [b] pos) (tB' (e2 o f g)) := by
  obtain ⟨r, h1, h2⟩ := ho
  exact ptI (pt_cmpR h1 ha hb hm) fun σ H Q q => tB_go (t := tOp r (RdE c k1 f) (RdE c k2 g)) (fun σ H Q q => e2_go h2 q) q
def e3 (o o' : D → D → R D) (f g h : FE) : FE := fun S => do
  let x ← f S
  let y ← g S
  let b ← (o x y).nox
  let b ← toB b
  if b then do
    let z ← h S
    (o' y z).nox
  else .ok (.bl false)
theorem e3_go {o o' : D → D → R D} {r r' : R2} {σ : St} {H : Hp} {Q : VK} (hr : ∀ G H x y u v d, Ex G H → Now c.k G H x u → Now c.k G H y v → o x y = .ok d → ∀ Q : VK, (∀ w G' H', Step G H G' H' → Res c.k H G' H' d w .st → Q w H') → r u v H Q)
    (hr' : ∀ G H x y u v d, Ex G H → Now c.k G H x u → Now c.k G H y v → o' x y = .ok d → ∀ Q : VK, (∀ w G' H', Step G H G' H' → Res c.k H G' H' d w .st → Q w H') → r' u v H Q)
    (q : RdE c .st (e3 o o' f g h) σ H Q) : tChain r r' (RdE c k1 f) (RdE c k2 g) (RdE c k3 h) σ H Q := by
  obtain ⟨G, S, rel, p⟩ := q
  refine rdE_go (g := fun x => do let y ← g S; let b ← (o x y).nox; let b ← toB b; if b then do { let z ← h S; (o' y z).nox } else .ok (.bl false)) (Post := PostE c .st G S σ H Q) rel p (fun _ z => z) (fun z => z) fun d1 v1 G1 H1 s1 q1 p1 => ?_
  refine rdE_go (g := fun y => do let b ← (o d1 y).nox; let b ← toB b; if b then do { let z ← h S; (o' y z).nox } else .ok (.bl false)) (Post := PostE c .st G S σ H Q) (rel.grow s1) p1 (fun _ z => z) (fun z => z) fun d2 v2 G2 H2 s2 q2 p2 => ?_
  cases eo : o d1 d2 with
  | exc x => rw [eo] at p2; exact p2.elim
  | fail => rw [eo] at p2; exact p2.elim
  | ok db =>
    rw [eo] at p2
    refine hr G2 H2 d1 d2 v1 v2 db s2.gh (q1.now.grow s2) q2.now eo _ fun w G3 H3 s3 q3 => ?_
    cases eb : toB db with
    | exc x => cases db <;> simp only [toB] at eb <;> cases eb
    | fail => simp only [R.nox_ok, R.ok_bind, eb, R.fail_bind] at p2; exact p2.elim
    | ok kb =>
      simp only [R.nox_ok, R.ok_bind, eb] at p2
      refine ⟨kb, (Res.now (kd := .st) q3).toB eb, ?_⟩
      cases kb with
      | false =>
        rw [if_neg Bool.false_ne_true] at p2 ⊢
        exact p2 _ G3 H3 ((s1.trans s2).trans s3) (.bl _)
      | true =>
        rw [if_pos rfl] at p2 ⊢
        refine rdE_go (g := fun z => (o' d2 z).nox) (Post := PostE c .st G S σ H Q) (((rel.grow s1).grow s2).grow s3) p2 (fun _ z => z) (fun z => z) fun d4 v4 G4 H4 s4 q4 p4 => ?_
        cases eo' : o' d2 d4 with
        | exc x => rw [eo'] at p4; exact p4.elim
        | fail => rw [eo'] at p4; exact p4.elim
        | ok dr =>
          rw [eo'] at p4
          exact hr' G4 H4 d2 d4 v2 v4 dr s4.gh (q2.now.grow (s3.trans s4)) q4.now eo' Q fun w' G5 H5 s5 q5 => p4 w' G5 H5 ((((s1.trans s2).trans s3).trans s4).trans s5) q5
theorem d_ch {op op' : CmpOp} {cc : Expr} {o o' : D → D → R D} (ho : Op2 X c.k (compareOp op) .st o) (ho' : Op2 X c.k (compareOp op') .st o') (ha : PE' X c k1 a f) (hb : PE' X c k2 b g) (hc : PE' X c k3 cc h)
    (hm : lastMarks [op, op'] [b, cc] = false := by with_unfolding_all rfl) : PE' X c .st (.Compare a [op, op'] [b, cc] pos) (e3 o o' f g h) := by
  obtain ⟨r, h1, h2⟩ := ho
  obtain ⟨r', h1', h2'⟩ := ho'
  exact peI (pe_chain h1 h1' ha hb hc hm) fun σ H Q q => e3_go h2 h2' q
def tNo (t : FT) : FT := fun S => t S >>= fun b => .ok (!b)
def tA (t u : FT) : FT := fun S => t S >>= fun b => if b then u S else .ok false
def tO (t u : FT) : FT := fun S => t S >>= fun b => if b then .ok true else u S
variable {t u : FT}
theorem d_not (ha : PT' X c a t) : PT' X c (.UnaryOp .Not a pos) (tNo t) :=
  ptI (pt_not ha) fun σ H Q ⟨G, S, rel, p⟩ => rdT_go (g := fun b => .ok (!b)) (Post := PostT c G S σ H Q) rel p (fun _ z => z) (fun z => z) fun b G' H' s p1 => p1 G' H' s
abbrev PW' (X : Cx) (c : Cf) (e : Expr) (f : FT) : Prop := PW X e (RdT c f)
theorem PostT.grow {G H G' H' : Hp} {S : Env} {σ : St} {Q : Bool → Hp → Prop} {r : R Bool} (s : Step G H G' H') (p : PostT c G S σ H Q r) : PostT c G' S σ H' Q r := by
  cases r with
  | ok b => exact fun G2 H2 s2 => p G2 H2 (s.trans s2)
  | exc x => exact p
  | fail => exact p
theorem PostE.grow {G H G' H' : Hp} {S : Env} {σ : St} {Q : VK} {r : R D} (s : Step G H G' H') (p : PostE c kd G S σ H Q r) : PostE c kd G' S σ H' Q r := by
  cases r with
  | ok b => exact fun v G2 H2 s2 q => p v G2 H2 (s.trans s2) (q.mono s.h)
  | exc x => exact p
  | fail => exact p
theorem d_and1 (ha : PT' X c a t) : PW' X c (.BoolOp .And [a] pos) t := pw_and1 ha
theorem d_or1 (ha : PT' X c a t) : PW' X c (.BoolOp .Or [a] pos) t := pw_or1 ha
theorem d_and {rest : List Expr} (ha : PT' X c a t) (hb : PW' X c (.BoolOp .And (b :: rest) pos) u) : PW' X c (.BoolOp .And (a :: b :: rest) pos) (tA t u) :=
  pwI (pw_and ha hb) fun σ H Q ⟨G, S, rel, p⟩ => rdT_go (g := fun b => if b then u S else .ok false) (Post := PostT c G S σ H Q) rel p (fun _ z => z) (fun z => z) fun b G' H' s p1 => by
    cases b with
    | true => exact ⟨G', S, rel.grow s, PostT.grow s p1⟩
    | false => exact p1 G' H' s
theorem d_or {rest : List Expr} (ha : PT' X c a t) (hb : PW' X c (.BoolOp .Or (b :: rest) pos) u) : PW' X c (.BoolOp .Or (a :: b :: rest) pos) (tO t u) :=
  pwI (pw_or ha hb) fun σ H Q ⟨G, S, rel, p⟩ => rdT_go (g := fun b => if b then .ok true else u S) (Post := PostT c G S σ H Q) rel p (fun _ z => z) (fun z => z) fun b G' H' s p1 => by
    cases b with
    | true => exact p1 G' H' s
    | false => exact ⟨G', S, rel.grow s, PostT.grow s p1⟩
theorem d_pw (h : PW' X c a t) : PT' X c a t := h.pt
def eAnd (f g : FE) : FE := fun S => f S >>= toB >>= fun b => if b then g S else .ok (.bl false)
def eOr (f g : FE) : FE := fun S => f S >>= toB >>= fun b => if b then .ok (.bl true) else g S
def eNot (f : FE) : FE := fun S => f S >>= toB >>= fun b => .ok (.bl (!b))
def eIf (t : FT) (f g : FE) : FE := fun S => t S >>= fun b => if b then f S else g S
theorem bind_toB {β : Type} (r : R D) (k : Bool → R β) : (r >>= toB >>= k) = r >>= fun d => toB d >>= k := by cases r <;> rfl
theorem d_vone {op} (h : PE' X c .st a f) : PE' X c .st (.BoolOp op [a] pos) f := pe_one h
theorem d_vand {rest : List Expr} (ha : PE' X c .st a f) (hb : PE' X c .st (.BoolOp .And (b :: rest) pos) g) : PE' X c .st (.BoolOp .And (a :: b :: rest) pos) (eAnd f g) :=
  peI (pe_and ha hb) fun σ H Q ⟨G, S, rel, p⟩ => by
    unfold eAnd at p
    rw [bind_toB] at p
    refine rdE_go (Post := PostE c .st G S σ H Q) rel p (fun _ z => z) (fun z => z) fun d v G' H' s q p1 => ?_
    cases d with
    | bl k =>
      refine ⟨k, (Res.now (kd := .st) q).bl, ?_⟩
      cases k with
      | true => exact ⟨G', S, rel.grow s, PostE.grow s p1⟩
      | false => exact p1 _ G' H' s (.bl _)
    | _ => exact p1.elim
theorem d_vor {rest : List Expr} (ha : PE' X c .st a f) (hb : PE' X c .st (.BoolOp .Or (b :: rest) pos) g) : PE' X c .st (.BoolOp .Or (a :: b :: rest) pos) (eOr f g) :=
  peI (pe_or ha hb) fun σ H Q ⟨G, S, rel, p⟩ => by
    unfold eOr at p
    rw [bind_toB] at p
    refine rdE_go (Post := PostE c .st G S σ H Q) rel p (fun _ z => z) (fun z => z) fun d v G' H' s q p1 => ?_
    cases d with
    | bl k =>
      refine ⟨k, (Res.now (kd := .st) q).bl, ?_⟩
      cases k with
      | true => exact p1 _ G' H' s (.bl _)
      | false => exact ⟨G', S, rel.grow s, PostE.grow s p1⟩
    | _ => exact p1.elim
theorem d_vnot (ha : PE' X c .st a f) : PE' X c .st (.UnaryOp .Not a pos) (eNot f) :=
  peI (pe_not ha) fun σ H Q ⟨G, S, rel, p⟩ => by
    unfold eNot at p
    rw [bind_toB] at p
    refine rdE_go (Post := PostE c .st G S σ H Q) rel p (fun _ z => z) (fun z => z) fun d v G' H' s q p1 => ?_
    cases d with
    | bl k => exact ⟨k, (Res.now (kd := .st) q).bl, p1 _ G' H' s (.bl _)⟩
    | _ => exact p1.elim
end
end M
set_option Elab.async false
set_option linter.all false
set_option maxRecDepth 100000
set_option maxHeartbeats 4000000
namespace M
open PySem L2
abbrev PS' (X : Cx) (c : Cf) (fr : Bool) (as : List Nat) (st : Stmt) (s : FS) : Prop := PS X st (RdS c fr as s)
abbrev PB' (X : Cx) (c : Cf) (fr : Bool) (as : List Nat) (st : List Stmt) (s : FS) : Prop := PSs X st (RdS c fr as s)
section
variable {X : Cx} {c : Cf} {kd k1 k2 k3 : Kd} {a b e : Expr} {f g h : FE} {t u : FT} {pos : Pos} {fr : Bool} {as bs : List Nat} {s r : FS} {st : Stmt} {sts : List Stmt}
theorem PostS.mv {G G' H H' : Hp} {S S' : Env} {σ σ' : St} {Dn : Ends} {q : R (Fl × Env)} (hg : Ex G G') (fm : Frm as S σ H S' σ' H') (hs : ∀ i, i ∈ as ++ bs → i ∈ as ∨ i ∈ bs) (p : PostS c fr (as ++ bs) G S σ H Dn q) : PostS c fr bs G' S' σ' H' Dn q := by
  cases q with
  | exc x => exact p
  | fail => exact p
  | ok z =>
    obtain ⟨fl, S2⟩ := z
    cases fl with
    | nx => exact fun G2 σ2 H2 e r2 f2 => p G2 σ2 H2 (hg.trans e) r2 (fm.trans f2)
    | bk => exact fun G2 σ2 H2 e r2 f2 => p G2 σ2 H2 (hg.trans e) r2 (fm.trans f2)
    | ct => exact fun G2 σ2 H2 e r2 f2 => p G2 σ2 H2 (hg.trans e) r2 (fm.trans f2)
    | rt d => exact fun v G2 H2 st rv ow => p v G2 H2 st rv (ow.mv fm)
theorem PostS.sub {as' : List Nat} {G H : Hp} {S : Env} {σ : St} {Dn : Ends} {q : R (Fl × Env)} (hs : ∀ i, i ∈ as' → i ∈ as) (p : PostS c fr as G S σ H Dn q) : PostS c fr as' G S σ H Dn q := by
  cases q with
  | exc x => exact p
  | fail => exact p
  | ok z =>
    obtain ⟨fl, S2⟩ := z
    cases fl with
    | nx => exact fun G2 σ2 H2 e r2 f2 => p G2 σ2 H2 e r2 (f2.mono hs)
    | bk => exact fun G2 σ2 H2 e r2 f2 => p G2 σ2 H2 e r2 (f2.mono hs)
    | ct => exact fun G2 σ2 H2 e r2 f2 => p G2 σ2 H2 e r2 (f2.mono hs)
    | rt d => exact fun v G2 H2 st rv ow => p v G2 H2 st rv (ow.sub hs)
theorem PostS.gr {G H G' H' : Hp} {S : Env} {σ : St} {Dn : Ends} {q : R (Fl × Env)} (rel : Rel c G S σ H) (sp : Step G H G' H') (p : PostS c fr as G S σ H Dn q) : PostS c fr as G' S σ H' Dn q :=
  PostS.mv (as := []) (bs := as) sp.g (Frm.step rel sp) (fun i h => .inr (by simpa using h)) p
def sNil : FS := fun S => .ok (.nx, S)
def sSeq (s r : FS) : FS := fun S => s S >>= fun z => match z.1 with | .nx => r z.2 | _ => .ok z
def sSet (i : Nat) (f : FE) : FS := fun S => f S >>= fun d => .ok (.nx, S.set i (some ⟨false, d⟩))
def sOwn (i : Nat) (f : FE) : FS := fun S => f S >>= fun d => .ok (.nx, S.set i (some ⟨true, d⟩))
def sDrop (f : FE) : FS := fun S => f S >>= fun _ => .ok (.nx, S)
def sRet (f : FE) : FS := fun S => f S >>= fun d => .ok (.rt d, S)
def sRetN : FS := fun S => .ok (.rt .non, S)
def eO (i : Nat) : FE := fun S => match S[i]? with
  | some (some ⟨true, d⟩) => .ok d
  | _ => .fail
def sRetO (i : Nat) : FS := fun S => eO i S >>= fun d => .ok (.rt d, S)
def sIf (t : FT) (s r : FS) : FS := fun S => t S >>= fun b => if b then s S else r S
def sNo : FS := fun _ => .fail
def fzS (S : Env) (i : Nat) : Env := match S[i]? with
  | some (some ⟨true, d⟩) => S.set i (some ⟨false, d⟩)
  | _ => S
def sFz (i : Nat) (s : FS) : FS := fun S => s (fzS S i)
theorem b_nil : PB' X c fr [] [] sNil := pssI pss_nil fun Dn σ H ⟨G, S, rel, p⟩ => p G σ H (Ex.refl _) rel (Frm.refl _ _ _ _)
theorem b_cons (h1 : PS' X c fr as st s) (h2 : PB' X c fr bs sts r) : PB' X c fr (as ++ bs) (st :: sts) (sSeq s r) :=
  pssI (pss_cons h1 h2) fun Dn σ H ⟨G, S, rel, p⟩ => ⟨G, S, rel, by
    have p : PostS c fr (as ++ bs) G S σ H Dn (s S >>= fun z => match z.1 with | .nx => r z.2 | _ => .ok z) := p
    cases e1 : s S with
    | exc x => rw [e1] at p; exact p
    | fail => rw [e1] at p; exact p
    | ok z =>
      rw [e1] at p
      obtain ⟨fl, S1⟩ := z
      cases fl with
      | nx => exact fun G1 σ1 H1 ex r1 f1 => ⟨G1, S1, r1, PostS.mv (as := as) (bs := bs) ex f1 (fun i => List.mem_append.mp) p⟩
      | bk => exact PostS.sub (fun i q => List.mem_append_left _ q) p
      | ct => exact PostS.sub (fun i q => List.mem_append_left _ q) p
      | rt d => exact PostS.sub (fun i q => List.mem_append_left _ q) p⟩
theorem b_one (h1 : PS' X c fr as st s) : PB' X c fr as [st] s := pss_one h1
theorem s_fz (i : Nat) (h1 : PS' X c fr as st s) : PS' X c fr (i :: as) st (sFz i s) :=
  psI h1 fun Dn σ H ⟨G, S, rel, p⟩ => by
    have p : PostS c fr (i :: as) G S σ H Dn (s (fzS S i)) := p
    unfold fzS at p
    split at p
    · rename_i d hd
      obtain ⟨G', ex, rel'⟩ := rel.frz hd
      refine ⟨G', _, rel', PostS.mv (as := [i]) (bs := as) ex ⟨rfl, fun _ _ => rfl, fun j hj _ => ?_, fun _ _ _ _ _ => rfl⟩ (fun j q => by simpa using q) p⟩
      rw [List.getElem?_set_ne (fun z => hj (by simp [z]))]
    · exact ⟨G, S, rel, PostS.sub (fun j q => List.mem_cons_of_mem _ q) p⟩
abbrev PG' (X : Cx) (c : Cf) (as : List Nat) (e : Expr) (g : FG) : Prop := PG X e (RdG c as g)
abbrev FGs := List D → Env → R Env
def RdGs (c : Cf) (as : List Nat) (g : FGs) : TGs := fun vs σ H Q => ∃ G S ds, Rel c G S σ H ∧ RDs c.k G ds vs ∧ PostG c as G S σ H Q (g ds S)
abbrev PGs' (X : Cx) (c : Cf) (as : List Nat) (e : List Expr) (g : FGs) : Prop := PGs X e (RdGs c as g)
def gN (i : Nat) : FG := fun d S => .ok (S.set i (some ⟨false, d⟩))
def gsN : FGs := fun ds S => match ds with | [] => .ok S | _ => .fail
def gsC (g : FG) (r : FGs) : FGs := fun ds S => match ds with | d :: ds => g d S >>= r ds | [] => .fail
def gT (n : Nat) (r : FGs) : FG := fun d S => match d with | .tup ds => if ds.length = n then r ds S else .fail | _ => .fail
theorem Frm.set {S : Env} {σ : St} {H : Hp} (i : Nat) (x : Option Sl) (v : Option V) : Frm [i] S σ H (S.set i x) (σ.set i v) H :=
  ⟨by simp, fun j hj => List.getElem?_set_ne (fun z => hj (by simp [z])), fun j hj _ => List.getElem?_set_ne (fun z => hj (by simp [z])), fun _ _ _ _ _ => rfl⟩
theorem g_n (i : Nat) {x : Str} (hN : X.N.Nodup) (hi : X.N[i]? = some x := by rfl) (hx : Loc X.env.scope x := by first | exact Or.inl rfl | exact Or.inr rfl) (hf : X.fn x = true ∨ X.env.scope.names.lookup x = some .local := by first | exact .inl rfl | exact .inr rfl) : PG' X c [i] (.Name x pos) (gN i) :=
  pgI (pg_name hN hi hx hf) fun v σ H Q ⟨G, S, d, rel, q, p⟩ => p G _ H (Step.refl rel.st.gh) (rel.setS i q) (Frm.set i _ _)
theorem gs_n : PGs' X c [] [] gsN :=
  pgsI pgs_nil fun vs σ H Q ⟨G, S, ds, rel, q, p⟩ => by
    cases q with
    | nil => exact ⟨rfl, p G σ H (Step.refl rel.st.gh) rel (Frm.refl _ _ _ _)⟩
    | cons _ _ => exact p.elim
theorem gs_c {e : Expr} {es : List Expr} {ga : FG} {ra : FGs} (h1 : PG' X c as e ga) (h2 : PGs' X c bs es ra) (hs : (assignEach (e :: es) X.env).map (·.2) = assign e X.env :: (assignEach es X.env).map (·.2) := by rfl) : PGs' X c (as ++ bs) (e :: es) (gsC ga ra) :=
  pgsI (pgs_cons h1 h2 hs) fun vs σ H Q ⟨G, S, ds, rel, q, p⟩ => by
    cases q with
    | nil => exact p.elim
    | @cons d ds v vs q1 q2 =>
      refine ⟨v, vs, rfl, G, S, d, rel, q1, ?_⟩
      have p : PostG c (as ++ bs) G S σ H Q (ga d S >>= ra ds) := p
      cases e1 : ga d S with
      | exc x => rw [e1] at p; exact p.elim
      | fail => rw [e1] at p; exact p.elim
      | ok S1 =>
        rw [e1] at p
        refine fun G1 σ1 H1 ex r1 f1 => ⟨G1, S1, ds, r1, q2.mono ex.g, ?_⟩
        have p : PostG c (as ++ bs) G S σ H Q (ra ds S1) := p
        cases e2 : ra ds S1 with
        | exc x => rw [e2] at p; exact p.elim
        | fail => rw [e2] at p; exact p.elim
        | ok S2 => rw [e2] at p; exact fun G2 σ2 H2 ex2 r2 f2 => p G2 σ2 H2 (ex.trans ex2) r2 (f1.trans f2)
theorem g_t {es : List Expr} {k : Nat} {ra : FGs} {n : Nat} (hk : c.k.K = X.K) (hc : X.calm = true) (h : PGs' X c as es ra) (hn : (assignEach es X.env).length = n := by rfl) (hst : (assignEach es X.env).findIdx? (·.1) = none := by rfl) : PG' X c as (.Tuple es k pos) (gT n ra) :=
  pgI (pg_tup hc h hn hst) fun v σ H Q ⟨G, S, d, rel, q, p⟩ => by
    cases q with
    | @tup ds a vs hs hr =>
      have p : PostG c as G S σ H Q (if ds.length = n then ra ds S else .fail) := p
      by_cases hl : ds.length = n
      · rw [if_pos hl] at p
        exact ⟨a, vs, rfl, hk ▸ rel.st.gh.sqT hs.t, by rw [← hr.length]; exact hl, G, S, ds, rel, hr, p⟩
      · rw [if_neg hl] at p; exact p.elim
    | _ => exact p.elim
def sAsg (g : FG) (f : FE) : FS := fun S => f S >>= fun d => (g d S).nox >>= fun S' => .ok (Fl.nx, S')
theorem asg_go {ga : FG} {tg : TG} {Dn : Ends} {σ : St} {H : Hp} (hg : ∀ v σ H Q, RdG c as ga v σ H Q → tg v σ H Q) (q : RdS c fr as (sAsg ga f) Dn σ H) : RdE c .st f σ H fun x H1 => tg x σ H1 Dn.nx := by
  obtain ⟨G, S, rel, p⟩ := q
  refine rdE_go (g := fun d => (ga d S).nox >>= fun S' => .ok (Fl.nx, S')) (Post := PostS c fr as G S σ H Dn) rel p (fun _ z => z _) (fun z => z) fun d v G' H' sp q p1 => ?_
  refine hg v σ H' _ ⟨G', S, d, rel.grow sp, q, ?_⟩
  cases e1 : ga d S with
  | exc x => rw [e1] at p1; exact p1.elim
  | fail => rw [e1] at p1; exact p1.elim
  | ok S1 =>
    rw [e1] at p1
    exact fun G2 σ2 H2 ex r2 f2 => p1 G2 σ2 H2 (sp.g.trans ex.g) r2 ((Frm.step (as := []) rel sp).trans f2)
theorem s_asg {tg : Expr} {ga : FG} (he : PE' X c .st e f) (hg : PG' X c as tg ga) (hs : swapsWithSole [tg] e pos.line X.env = pure false := by rfl) (hw : swappedStores [tg] e X.env = pure none := by rfl) (h1 : (assignEach [tg] X.env).map (·.2) = [assign tg X.env] := by rfl) : PS' X c fr as (.Assign [tg] e pos) (sAsg ga f) :=
  psI (ps_asg he hg hs hw h1) fun Dn σ H q => asg_go (fun _ _ _ _ z => z) q
theorem s_set (i : Nat) {x : Str} {pos' : Pos} (hN : X.N.Nodup) (he : PE' X c .st e f) (hi : X.N[i]? = some x := by rfl) (hx : Loc X.env.scope x := by first | exact Or.inl rfl | exact Or.inr rfl) (hs : swapsWith e (some (.Name x pos')) pos.line X.env = pure false := by rfl)
    (hf : X.fn x = true ∨ X.env.scope.names.lookup x = some .local := by first | exact .inl rfl | exact .inr rfl) : PS' X c fr [i] (.Assign [.Name x pos'] e pos) (sSet i f) :=
  psI (ps_set hN hi hx he hs hf) fun Dn σ H ⟨G, S, rel, p⟩ => by
    refine rdE_go (g := fun d => .ok (Fl.nx, S.set i (some ⟨false, d⟩))) (Post := PostS c fr [i] G S σ H Dn) rel p (fun _ z => z _) (fun z => z) fun d v G' H' sp q p1 => ?_
    exact p1 G' _ H' sp.g ((rel.grow sp).setS i q) ((Frm.step (as := []) rel sp).trans (Frm.set i _ _))
theorem own_go {i : Nat} {Dn : Ends} {σ : St} {H : Hp} (q : RdS c fr [i] (sOwn i f) Dn σ H) : RdE c .fr f σ H fun x H1 => gName i x σ H1 Dn.nx := by
  obtain ⟨G, S, rel, p⟩ := q
  refine rdE_go (g := fun d => .ok (Fl.nx, S.set i (some ⟨true, d⟩))) (Post := PostS c fr [i] G S σ H Dn) rel p (fun _ z => z _) (fun z => z) fun d v G' H' sp q p1 => ?_
  obtain ⟨a, o, rfl, hg, hn, ha, ct⟩ := q
  refine p1 G' _ H' sp.g ((rel.grow sp).setO i ha hg (rel.st.h.free hn) ct (fun j ow => ?_) (fun _ _ => rfl)) ((Frm.step (as := []) rel sp).trans (Frm.set i _ _))
  obtain ⟨_, _, u, _, q, _⟩ := rel.own ow
  rw [hn] at q; cases q
theorem s_own (i : Nat) {x : Str} {pos' : Pos} (hN : X.N.Nodup) (he : PE' X c .fr e f) (hi : X.N[i]? = some x := by rfl) (hx : Loc X.env.scope x := by first | exact Or.inl rfl | exact Or.inr rfl) (hs : swapsWith e (some (.Name x pos')) pos.line X.env = pure false := by rfl)
    (hf : X.fn x = true ∨ X.env.scope.names.lookup x = some .local := by first | exact .inl rfl | exact .inr rfl) : PS' X c fr [i] (.Assign [.Name x pos'] e pos) (sOwn i f) :=
  psI (ps_set hN hi hx he hs hf) fun Dn σ H q => own_go q
theorem s_ret (he : PE' X c .st e f) : PS' X c false [] (.Return (some e) pos) (sRet f) :=
  psI (ps_ret he) fun Dn σ H ⟨G, S, rel, p⟩ => by
    refine rdE_go (g := fun d => .ok (Fl.rt d, S)) (Post := PostS c false [] G S σ H Dn) rel p (fun _ z => z _) (fun z => z) fun d v G' H' sp q p1 => ?_
    exact p1 v G' H' (rel.st.trans sp) q (rel.grow sp).owR
theorem s_if {cc : Expr} {aa bb : List Stmt} (hc : PT' X c cc t) (ha : PB' X c fr as aa s) (hb : PB' X c fr bs bb r) : PS' X c fr (as ++ bs) (.If cc aa bb pos) (sIf t s r) :=
  psI (ps_if hc ha hb) fun Dn σ H ⟨G, S, rel, p⟩ => rdT_go (g := fun b => if b then s S else r S) (Post := PostS c fr (as ++ bs) G S σ H Dn) rel p (fun _ z => z _) (fun z => z) fun b G' H' sp p1 => by
    cases b with
    | true => exact ⟨G', S, rel.grow sp, PostS.sub (fun i q => List.mem_append_left _ q) (PostS.gr rel sp p1)⟩
    | false => exact ⟨G', S, rel.grow sp, PostS.sub (fun i q => List.mem_append_right _ q) (PostS.gr rel sp p1)⟩
def whileF (t : FT) (s : FS) : Nat → FS
  | 0 => fun _ => .fail
  | n + 1 => fun S => t S >>= fun b => if b then s S >>= fun z => match z.1 with
    | .nx => whileF t s n z.2
    | .ct => whileF t s n z.2
    | .bk => .ok (.nx, z.2)
    | .rt d => .ok (.rt d, z.2) else .ok (.nx, S)
theorem s_while (n : Nat) {cc : Expr} {body : List Stmt} (hp : PassesOwn (model X.prog X.w) X.A X.env X.xe) (hc : PT' X c cc t) (hb : PB' X c fr as body s) : PS' X c fr as (.While cc body [] pos) (whileF t s n) :=
  psI (ps_while hp hc hb) fun Dn σ H ⟨G, S, rel, p⟩ => by
    refine ⟨fun m σ1 H1 => ∃ G1 S1, Rel c G1 S1 σ1 H1 ∧ Ex G G1 ∧ Frm as S σ H S1 σ1 H1 ∧ PostS c fr as G S σ H Dn (whileF t s m S1), ⟨n, G, S, rel, Ex.refl _, Frm.refl _ _ _ _, p⟩, ?_⟩
    rintro m σ1 H1 ⟨G1, S1, r1, ex1, f1, p1⟩
    cases m with
    | zero => exact p1.elim
    | succ m =>
      refine rdT_go (g := fun b => if b then s S1 >>= fun z => match z.1 with
        | .nx => whileF t s m z.2
        | .ct => whileF t s m z.2
        | .bk => .ok (.nx, z.2)
        | .rt d => .ok (.rt d, z.2) else .ok (.nx, S1)) (Post := PostS c fr as G S σ H Dn) r1 p1 (fun _ z => z _) (fun z => z) fun b G2 H2 sp p2 => ?_
      have f2 : Frm as S σ H S1 σ1 H2 := (f1.trans (Frm.step (as := []) r1 sp)).mono (fun i q => by simpa using q)
      cases b with
      | false => exact p2 G2 σ1 H2 (ex1.trans sp.g) (r1.grow sp) f2
      | true =>
        rw [if_pos rfl] at p2 ⊢
        refine ⟨fun σ' H' => ∃ G3 S3, Rel c G3 S3 σ' H' ∧ Ex G G3 ∧ Frm as S σ H S3 σ' H' ∧ PostS c fr as G S σ H Dn (whileF t s m S3), fun σ' H' q => ⟨m, Nat.lt_succ_self m, q⟩, G2, S1, r1.grow sp, ?_⟩
        cases e1 : s S1 with
        | exc x => rw [e1] at p2; exact p2
        | fail => rw [e1] at p2; exact p2
        | ok z =>
          rw [e1] at p2
          obtain ⟨fl, S3⟩ := z
          have fin : ∀ {σ3 : St} {H3 : Hp}, Frm as S1 σ1 H2 S3 σ3 H3 → Frm as S σ H S3 σ3 H3 := fun f3 => (f2.trans f3).mono (fun i q => by simpa using q)
          cases fl with
          | nx => exact fun G3 σ3 H3 e3 r3 f3 => ⟨G3, S3, r3, (ex1.trans sp.g).trans e3, fin f3, p2⟩
          | ct => exact fun G3 σ3 H3 e3 r3 f3 => ⟨G3, S3, r3, (ex1.trans sp.g).trans e3, fin f3, p2⟩
          | bk => exact fun G3 σ3 H3 e3 r3 f3 => p2 G3 σ3 H3 ((ex1.trans sp.g).trans e3) r3 (fin f3)
          | rt d => exact fun v G3 H3 st rv ow => p2 v G3 H3 st rv ((ow.mv f2).sub fun i q => by simpa using q)
def Itm (k : Kn) (ki : List Nat) (G1 : Hp) (S : Env) (σ : St) (H1 : Hp) (J : It) (ds : List D) : Prop :=
  ∀ G H, Ex G1 G → Ex G H → (∀ i, i ∈ ki → ∀ a, OwnAt S σ i a → H a = H1 a) → (∀ i : Nat, ds.length ≤ i → J.stop i H) ∧ ∀ (i : Nat) (d : D), ds[i]? = some d → J.go i H ∧ ∀ x H', J.yld i H x H' → ∃ G', Step G H G' H' ∧ RD k G' d x
abbrev FI := Env → R (List D)
def PostI (c : Cf) (ki : List Nat) (G : Hp) (S : Env) (σ : St) (H : Hp) (Q : It → Hp → Prop) : R (List D) → Prop
  | .ok ds => ∀ J G' H', Step G H G' H' → Itm c.k ki G' S σ H' J ds → Q J H'
  | .exc x => PX c σ x
  | .fail => False
def RdI (c : Cf) (ki : List Nat) (f : FI) : TI := fun σ H Q => ∃ G S, Rel c G S σ H ∧ PostI c ki G S σ H Q (f S)
abbrev PI' (X : Cx) (c : Cf) (ki : List Nat) (tg e : Expr) (f : FI) : Prop := PI X tg e (RdI c ki f)
def forF (g : FG) (s : FS) : List D → FS
  | [] => fun S => .ok (.nx, S)
  | d :: ds => fun S => (g d S).nox >>= fun S1 => s S1 >>= fun z => match z.1 with
    | .nx => forF g s ds z.2
    | .ct => forF g s ds z.2
    | .bk => .ok (.nx, z.2)
    | .rt d => .ok (.rt d, z.2)
def sFor (i : FI) (g : FG) (s : FS) : FS := fun S => i S >>= fun ds => forF g s ds S
theorem s_for {tg iter : Expr} {body : List Stmt} {ki gs : List Nat} {fi : FI} {ga : FG} (hp : PassesOwn (model X.prog X.w) X.A X.env X.xe) (hc : X.calm = true) (hi : PI' X c ki tg iter fi) (hg : PG' X c gs tg ga) (hb : PB' X c fr as body s)
    (hki : ∀ i, i ∈ ki → i ∉ gs ++ as ∧ i + 1000 ∉ gs ++ as := by decide) (hs : ∀ x, foldedSetIterable iter X.env x = pure x := by intro _; rfl) : PS' X c fr (gs ++ as) (.For tg iter body [] pos) (sFor fi ga s) :=
  psI (ps_for hp hc hi hg hb hs) fun Dn σ H ⟨G, S, rel, p⟩ => by
    refine ⟨G, S, rel, ?_⟩
    have p : PostS c fr (gs ++ as) G S σ H Dn (fi S >>= fun ds => forF ga s ds S) := p
    cases e0 : fi S with
    | exc x => rw [e0] at p; exact p _
    | fail => rw [e0] at p; exact p
    | ok ds =>
      rw [e0] at p
      have p : PostS c fr (gs ++ as) G S σ H Dn (forF ga s ds S) := p
      intro J G0 H0 sp it
      refine ⟨fun i m σ1 H1 => m = ds.length - i ∧ i ≤ ds.length ∧ ∃ G1 S1, Rel c G1 S1 σ1 H1 ∧ Ex G0 G1 ∧ Frm (gs ++ as) S σ H0 S1 σ1 H1 ∧ PostS c fr (gs ++ as) G S σ H Dn (forF ga s (ds.drop i) S1),
        ⟨_, rfl, Nat.zero_le _, G0, S, rel.grow sp, Ex.refl _, Frm.refl _ _ _ _, by simpa using p⟩, ?_⟩
      rintro i m σ1 H1 ⟨rfl, hle, G1, S1, r1, ex1, f1, p1⟩
      have keep : ∀ j, j ∈ ki → ∀ a, OwnAt S σ j a → H1 a = H0 a := fun j hj a ow => f1.ow j a (hki j hj).1 (hki j hj).2 ow
      have itm := it G1 H1 ex1 r1.st.gh keep
      have fm : Frm (gs ++ as) S σ H S1 σ1 H1 := ((Frm.step (as := []) rel sp).trans f1).mono (fun i q => by simpa using q)
      by_cases hlt : i < ds.length
      · obtain ⟨d, hd⟩ : ∃ d, ds[i]? = some d := ⟨ds[i], List.getElem?_eq_getElem hlt⟩
        have hdrop : ds.drop i = d :: ds.drop (i + 1) := by
          rw [List.drop_eq_getElem_cons hlt]; congr 1; rw [List.getElem?_eq_getElem hlt] at hd; exact Option.some.inj hd
        rw [hdrop] at p1
        obtain ⟨hgo, hy⟩ := itm.2 i d hd
        refine .inr ⟨hgo, fun σ' H' => ∃ G3 S3, Rel c G3 S3 σ' H' ∧ Ex G0 G3 ∧ Frm (gs ++ as) S σ H0 S3 σ' H' ∧ PostS c fr (gs ++ as) G S σ H Dn (forF ga s (ds.drop (i + 1)) S3), fun σ' H' q => ⟨ds.length - (i + 1), by omega, rfl, hlt, q⟩, fun x H2 hx => ?_⟩
        obtain ⟨G2, sp2, hd2⟩ := hy x H2 hx
        refine ⟨G2, S1, d, r1.grow sp2, hd2, ?_⟩
        have p1 : PostS c fr (gs ++ as) G S σ H Dn ((ga d S1).nox >>= fun S1 => s S1 >>= fun z => match z.1 with
          | .nx => forF ga s (ds.drop (i + 1)) z.2
          | .ct => forF ga s (ds.drop (i + 1)) z.2
          | .bk => .ok (.nx, z.2)
          | .rt d => .ok (.rt d, z.2)) := p1
        cases e1 : ga d S1 with
        | exc x => rw [e1] at p1; exact p1.elim
        | fail => rw [e1] at p1; exact p1.elim
        | ok S2 =>
          rw [e1] at p1
          refine fun G3 σ3 H3 e3 r3 f3 => ⟨G3, S2, r3, ?_⟩
          have f03 : Frm (gs ++ as) S σ H0 S2 σ3 H3 := (f1.trans ((Frm.step (as := []) r1 sp2).trans f3)).mono (fun i q => by simp only [List.mem_append, List.not_mem_nil, false_or] at q ⊢; rcases q with q | q; exact q; exact .inl q)
          have p1 : PostS c fr (gs ++ as) G S σ H Dn (s S2 >>= fun z => match z.1 with
            | .nx => forF ga s (ds.drop (i + 1)) z.2
            | .ct => forF ga s (ds.drop (i + 1)) z.2
            | .bk => .ok (.nx, z.2)
            | .rt d => .ok (.rt d, z.2)) := p1
          have g03 : Ex G0 G3 := (ex1.trans sp2.g).trans e3.g
          cases e2 : s S2 with
          | exc x => rw [e2] at p1; exact p1
          | fail => rw [e2] at p1; exact p1
          | ok z =>
            rw [e2] at p1
            obtain ⟨fl, S4⟩ := z
            have fin : ∀ {σ4 : St} {H4 : Hp}, Frm as S2 σ3 H3 S4 σ4 H4 → Frm (gs ++ as) S σ H0 S4 σ4 H4 := fun f4 => (f03.trans f4).mono (fun i q => by simp only [List.mem_append] at q ⊢; rcases q with q | q; exact q; exact .inr q)
            have fin2 : ∀ {σ4 : St} {H4 : Hp}, Frm as S2 σ3 H3 S4 σ4 H4 → Frm (gs ++ as) S σ H S4 σ4 H4 := fun f4 => ((Frm.step (as := []) rel sp).trans (fin f4)).mono (fun i q => by simpa using q)
            cases fl with
            | nx => exact fun G4 σ4 H4 e4 r4 f4 => ⟨G4, S4, r4, g03.trans e4, fin f4, p1⟩
            | ct => exact fun G4 σ4 H4 e4 r4 f4 => ⟨G4, S4, r4, g03.trans e4, fin f4, p1⟩
            | bk => exact fun G4 σ4 H4 e4 r4 f4 => p1 G4 σ4 H4 ((sp.g.trans g03).trans e4) r4 (fin2 f4)
            | rt d => exact fun v G4 H4 st rv ow => p1 v G4 H4 st rv ((ow.mv f03).sub fun i q => by simp only [List.mem_append] at q ⊢; rcases q with q | q; exact q; exact .inr q)
      · have hi : i = ds.length := by omega
        subst hi
        rw [List.drop_length] at p1
        exact .inl ⟨itm.1 _ (Nat.le_refl _), p1 G1 σ1 H1 (sp.g.trans ex1) r1 fm⟩
end
end M
set_option Elab.async false
set_option linter.all false
set_option maxRecDepth 100000
set_option maxHeartbeats 4000000
namespace M
open PySem L2
section
variable {X : Cx} {c : Cf} {kd k1 k2 k3 : Kd} {a b e tg : Expr} {f g h : FE} {t u : FT} {pos : Pos} {fr : Bool} {as bs : List Nat} {s r : FS}
def chrs (x : Str) : List D := x.cps.toList.map fun n => .str ⟨#[n]⟩
def itemsD : D → R (List D)
  | .lst ds => .ok ds
  | .tup ds => .ok ds
  | .scr ns => .ok (ns.map .int)
  | .str x => .ok (chrs x)
  | _ => .fail
theorem itm_list {k : Kn} {ki : List Nat} {G1 H1 : Hp} {S : Env} {σ : St} {K : PySem.W.Frag} {ds : List D} {vs : List V} {p : Addr} (hr : RDs k G1 ds vs) (hs : ∀ G H, Ex G1 G → Ex G H → (∀ i, i ∈ ki → ∀ a, OwnAt S σ i a → H a = H1 a) → SqL K H p vs)
    : Itm k ki G1 S σ H1 (Itl K p) ds := fun G H e1 e2 kp => by
  have q := hs G H e1 e2 kp
  refine ⟨fun i hi => ⟨vs, q, by rw [← hr.length]; exact hi⟩, fun i d hd => ?_⟩
  obtain ⟨v, hv, r⟩ := (hr.mono e1).get hd
  refine ⟨⟨vs, v, q, hv⟩, fun x H' hx => ?_⟩
  obtain ⟨rfl, hy⟩ := hx
  have := hy vs q
  rw [hv] at this; cases this
  exact ⟨G, Step.refl e2, r⟩
theorem itm_tup {k : Kn} {ki : List Nat} {G1 H1 : Hp} {S : Env} {σ : St} {K : PySem.W.Frag} {ds : List D} {vs : List V} {p : Addr} (hr : RDs k G1 ds vs) (hs : SqT K G1 p vs) : Itm k ki G1 S σ H1 (Itt K p) ds := fun G H e1 e2 kp => by
  have q := e2.sqT (e1.sqT hs)
  refine ⟨fun i hi => ⟨vs, q, by rw [← hr.length]; exact hi⟩, fun i d hd => ?_⟩
  obtain ⟨v, hv, r⟩ := (hr.mono e1).get hd
  refine ⟨⟨vs, v, q, hv⟩, fun x H' hx => ?_⟩
  obtain ⟨rfl, hy⟩ := hx
  have := hy vs q
  rw [hv] at this; cases this
  exact ⟨G, Step.refl e2, r⟩
theorem itm_str {k : Kn} {ki : List Nat} {G1 H1 : Hp} {S : Env} {σ : St} (x : Str) : Itm k ki G1 S σ H1 (Its x) (chrs x) := fun G H e1 e2 kp => by
  refine ⟨fun i hi => ?_, fun i d hd => ?_⟩
  · show x.cps.size ≤ i
    simpa [chrs] using hi
  · unfold chrs at hd
    rw [List.getElem?_map] at hd
    cases q : x.cps.toList[i]? with
    | none => rw [q] at hd; cases hd
    | some n =>
      rw [q] at hd; cases hd
      have q' : x.cps[i]? = some n := by simpa using q
      refine ⟨?_, fun y H' hy => ?_⟩
      · have := (Array.getElem?_eq_some_iff.mp q').1
        exact this
      · obtain ⟨e3, n', q2, e4⟩ := hy
        subst e3; subst e4
        rw [q'] at q2; cases q2
        exact ⟨G, Step.refl e2, .str _⟩
theorem i_seq (hk : c.k.K = X.K) (he : PE' X c .st e f) : PI' X c [] tg e (fun S => f S >>= itemsD) := by
  refine ⟨fun pins st σ H Rq I q => ?_⟩
  obtain ⟨G, S, rel, p⟩ := q
  have p : PostI c [] G S σ H Rq (f S >>= itemsD) := p
  cases e1 : f S with
  | exc x => exact (pi_list he).run pins st σ H Rq I ⟨G, S, rel, by rw [e1] at p ⊢; exact p⟩
  | fail => rw [e1] at p; exact p.elim
  | ok d =>
    rw [e1] at p
    cases d with
    | lst ds =>
      refine (pi_list he).run pins st σ H Rq I ⟨G, S, rel, ?_⟩
      rw [e1]
      intro v G' H' sp q
      cases q with
      | lst h r => exact ⟨_, rfl, ⟨_, SqL.of (sp.gh _ _ h)⟩, p _ G' H' sp (itm_list r fun G2 H2 a1 a2 _ => SqL.of (a2 _ _ (a1 _ _ h)))⟩
    | scr ns =>
      refine (pi_list he).run pins st σ H Rq I ⟨G, S, rel, ?_⟩
      rw [e1]
      intro v G' H' sp q
      cases q with
      | scr h => exact ⟨_, rfl, ⟨_, hk ▸ sp.gh.sqL h⟩, p _ G' H' sp (itm_list (RDs.ints ns) fun G2 H2 a1 a2 _ => hk ▸ a2.sqL (a1.sqL h))⟩
    | tup ds =>
      refine (pi_tup he).run pins st σ H Rq I ⟨G, S, rel, ?_⟩
      rw [e1]
      intro v G' H' sp q
      cases q with
      | tup h r => exact ⟨_, rfl, ⟨_, hk ▸ sp.gh.sqT h.t⟩, p _ G' H' sp (itm_tup r (hk ▸ h.t))⟩
    | str x =>
      refine (pi_str he).run pins st σ H Rq I ⟨G, S, rel, ?_⟩
      rw [e1]
      intro v G' H' sp q
      cases q with
      | str => exact ⟨_, rfl, p _ G' H' sp (itm_str x)⟩
    | _ => exact p.elim
def rngL (lo : Int) (n : Nat) : List D := (List.range n).map fun (i : Nat) => .int (lo + i)
def rng1 : List D → R (List D)
  | [.int j] => if -(2 ^ 62) ≤ j ∧ j < 2 ^ 62 then .ok (rngL 0 j.toNat) else .fail
  | _ => .fail
theorem itm_rng {k : Kn} {ki : List Nat} {G1 H1 : Hp} {S : Env} {σ : St} (lo : Int) (n : Nat) : Itm k ki G1 S σ H1 (Itr lo n) (rngL lo n) := fun G H e1 e2 kp => by
  refine ⟨fun i hi => (by simpa [rngL] using hi : n ≤ i), fun i d hd => ?_⟩
  unfold rngL at hd
  rw [List.getElem?_map] at hd
  have hi : i < n := by
    rcases Nat.lt_or_ge i n with z | z
    · exact z
    · rw [List.getElem?_eq_none (by simpa using z)] at hd; cases hd
  rw [List.getElem?_range hi] at hd
  cases hd
  refine ⟨hi, fun x H' hx => ?_⟩
  obtain ⟨rfl, rfl⟩ := hx
  exact ⟨G, Step.refl e2, .int _⟩
theorem i_rng1 {p : Pos} {fa : FA} {ba : Bool} (hm : X.mg "range" = none) (ha : PA' X c ba [a] fa) (hg : Gl X "range" := by rfl) (hs : starEach [a] X.env = [(false, eval a X.env)] := by rfl) : PI' X c [] tg (.Call (.Name "range" p) [a] [] pos) (fun S => fa S >>= rng1) :=
  piI (pi_range1 hg hm ha hs) fun σ H Rq ⟨G, S, rel, p⟩ => by
    refine rdA_go (g := rng1) (Post := PostI c [] G S σ H Rq) rel p (fun _ z => z) (fun z => z) fun ds vs G' H' sp q p1 => ?_
    rcases ds with _ | ⟨d1, _ | ⟨d2, dr⟩⟩
    · exact p1.elim
    · cases d1 with
      | int j =>
        have p1 : PostI c [] G S σ H Rq (if -(2 ^ 62) ≤ j ∧ j < 2 ^ 62 then .ok (rngL 0 j.toNat) else .fail) := p1
        cases q.nows with
        | cons n1 n2 =>
          cases n2
          obtain rfl := n1.int
          by_cases hj : -(2 ^ 62) ≤ j ∧ j < 2 ^ 62
          · rw [if_pos hj] at p1
            exact ⟨j, rfl, hj.1, hj.2, p1 _ G' H' sp (itm_rng 0 _)⟩
          · rw [if_neg hj] at p1; exact p1.elim
      | _ => exact p1.elim
    · cases d1 <;> exact p1.elim
theorem Rel.cw {c : Cf} {W : WX} {G H : Hp} {S : Env} {σ : St} (r : Rel c G S σ H) : Rel { c with W := W } G S σ H := ⟨r.st, r.len, r.fz, r.ow, r.nd⟩
theorem wipe_in {i : Nat} : ∀ {vs : List Nat} {σ : St}, i ∈ vs → i < σ.length → (L2.wipe σ vs)[i]? = some none
  | v :: vs, σ, hm, hi => by
    unfold L2.wipe
    by_cases h : v = i
    · subst h; rw [List.getElem?_set_self (by rw [wipe_length]; exact hi)]
    · rw [List.getElem?_set_ne h]
      exact wipe_in (by rcases List.mem_cons.mp hm with z | z; exact absurd z.symm h; exact z) hi
theorem wipe_eq {vs : List Nat} {σ σ' : St} (hl : σ'.length = σ.length) (h : ∀ (i : Nat), i ∉ vs → σ'[i]? = (L2.wipe σ vs)[i]?) : L2.wipe σ' vs = L2.wipe σ vs := by
  apply List.ext_getElem?
  intro i
  by_cases hm : i ∈ vs
  · by_cases hi : i < σ.length
    · rw [wipe_in hm hi, wipe_in hm (by rw [hl]; exact hi)]
    · rw [List.getElem?_eq_none (by rw [wipe_length, hl]; omega), List.getElem?_eq_none (by rw [wipe_length]; omega)]
  · rw [wipe_out hm, h i hm]
abbrev Cf.nx (c : Cf) : Cf := { c with W := liftX E0 }
abbrev PTs' (X : Cx) (c : Cf) (ifs : List Expr) (t : FT) : Prop := PTs X ifs (RdT c t)
def tY : FT := fun _ => .ok true
theorem ts_n : PTs' X c [] tY := ptsI pts_nil fun σ H Q ⟨G, S, rel, p⟩ => p G H (Step.refl rel.st.gh)
theorem ts_1 (h : PT' X c a t) : PTs' X c [a] t := pts_one h
def lcF (ga : FG) (t : FT) (fe : FE) (S : Env) : List D → R (List D)
  | [] => .ok []
  | d :: ds => (ga d S).nox >>= fun S1 => (t S1).nox >>= fun b => if b then (fe S1).nox >>= fun y => lcF ga t fe S ds >>= fun ys => .ok (y :: ys) else lcF ga t fe S ds
def lcE (fi : FI) (ga : FG) (t : FT) (fe : FE) (vs : List Nat) : FE := fun S => fi S >>= fun ds => if ds.length ≤ sizeLine then lcF ga t fe (wipeS S vs) ds >>= fun ys => .ok (.lst ys) else .fail
theorem lcF_exc {ga : FG} {t : FT} {fe : FE} {S : Env} {x : Exc} : ∀ ds, lcF ga t fe S ds ≠ .exc x
  | [] => by intro h; cases h
  | d :: ds => by
    intro h
    unfold lcF at h
    cases e1 : ga d S <;> rw [e1] at h <;> first | (cases h; done) | skip
    simp only [R.nox_ok, R.ok_bind] at h
    rename_i S1
    cases e2 : t S1 <;> rw [e2] at h <;> first | (cases h; done) | skip
    simp only [R.nox_ok, R.ok_bind] at h
    rename_i b
    cases b with
    | false => exact lcF_exc ds h
    | true =>
      rw [if_pos rfl] at h
      cases e3 : fe S1 <;> rw [e3] at h <;> first | (cases h; done) | skip
      simp only [R.nox_ok, R.ok_bind] at h
      cases e4 : lcF ga t fe S ds with
      | ok ys => rw [e4] at h; cases h
      | exc y => exact lcF_exc ds e4
      | fail => rw [e4] at h; cases h
theorem lc_go {ki gs vs : List Nat} {fi : FI} {ga : FG} {fe : FE} {σ : St} {H : Hp} {Q : VK} {gi : TG} {tt : TT} {te : TE} (hg : ∀ v σ H Q, RdG c.nx gs ga v σ H Q → gi v σ H Q) (ht : ∀ σ H Q, RdT c.nx t σ H Q → tt σ H Q) (he : ∀ σ H Q, RdE c.nx .st fe σ H Q → te σ H Q)
    (hgs : ∀ i, i ∈ gs → i ∈ vs) (q : RdE c .fr (lcE fi ga t fe vs) σ H Q) : tLc (RdI c ki fi) gi tt te vs σ H Q := by
  obtain ⟨G, S, rel, p⟩ := q
  refine ⟨G, S, rel, ?_⟩
  have p : PostE c .fr G S σ H Q (fi S >>= fun ds => if ds.length ≤ sizeLine then lcF ga t fe (wipeS S vs) ds >>= fun ys => .ok (.lst ys) else .fail) := p
  cases e0 : fi S with
  | exc x => rw [e0] at p; exact p
  | fail => rw [e0] at p; exact p
  | ok ds =>
    rw [e0, R.ok_bind] at p
    by_cases hz : ds.length ≤ sizeLine
    · rw [if_pos hz] at p
      intro J G1 H1 sp it Dl hD
      have relb := ((rel.grow sp).wipe vs).cw (W := liftX E0)
      have hD0 : H Dl = none := sp.h.free hD
      refine ⟨fun i m H2 => m = ds.length - i ∧ i ≤ ds.length ∧ ∃ G2 ac av, Step G1 H1 G2 H2 ∧ G2 Dl = none ∧ H2 Dl = some (.lst av) ∧ RDs c.k G2 ac av ∧ ac.length ≤ i ∧
          PostE c .fr G S σ H Q (lcF ga t fe (wipeS S vs) (ds.drop i) >>= fun ys => .ok (.lst (ac ++ ys))),
        ⟨_, rfl, Nat.zero_le _, G1, [], [], Step.new' sp.gh hD, sp.gh.free hD, upd_same, .nil, Nat.zero_le _, by simpa using p⟩, ?_⟩
      rintro i m H2 ⟨rfl, hle, G2, ac, av, sp2, hGD, hHD, hr, hal, p2⟩
      have rel2 : Rel c.nx G2 (wipeS S vs) (L2.wipe σ vs) H2 := relb.grow sp2
      have itm := it G2 H2 sp2.g sp2.gh fun j hj x ow => by
        obtain ⟨_, _, o, _, ho, _⟩ := (rel.grow sp).own ow
        rw [ho, sp2.h _ _ ho]
      by_cases hlt : i < ds.length
      · obtain ⟨d, hd⟩ : ∃ d, ds[i]? = some d := ⟨ds[i], List.getElem?_eq_getElem hlt⟩
        have hdrop : ds.drop i = d :: ds.drop (i + 1) := by
          rw [List.drop_eq_getElem_cons hlt]; congr 1; rw [List.getElem?_eq_getElem hlt] at hd; exact Option.some.inj hd
        rw [hdrop] at p2
        obtain ⟨hgo, hy⟩ := itm.2 i d hd
        refine .inr ⟨hgo, fun H' => ∃ G3 ac av, Step G1 H1 G3 H' ∧ G3 Dl = none ∧ H' Dl = some (.lst av) ∧ RDs c.k G3 ac av ∧ ac.length ≤ i + 1 ∧
          PostE c .fr G S σ H Q (lcF ga t fe (wipeS S vs) (ds.drop (i + 1)) >>= fun ys => .ok (.lst (ac ++ ys))), fun H' ⟨G3, r3⟩ => ⟨_, by omega, rfl, hlt, G3, r3⟩, fun x H3 hx => ?_⟩
        obtain ⟨G3, sp3, hd3⟩ := hy x H3 hx
        refine hg x _ H3 _ ⟨G3, wipeS S vs, d, rel2.grow sp3, hd3, ?_⟩
        unfold lcF at p2
        cases e1 : ga d (wipeS S vs) with
        | exc x => rw [e1] at p2; exact p2.elim
        | fail => rw [e1] at p2; exact p2.elim
        | ok S1 =>
          rw [e1, R.nox_ok, R.ok_bind] at p2
          intro G4 σ4 H4 sp4 rel4 f4
          refine ⟨wipe_eq (by rw [f4.len, wipe_length]) fun j hj => f4.sg j fun z => hj (hgs j z), ht σ4 H4 _ ⟨G4, S1, rel4, ?_⟩⟩
          cases e2 : t S1 with
          | exc x => rw [e2] at p2; exact p2.elim
          | fail => rw [e2] at p2; exact p2.elim
          | ok b =>
            rw [e2, R.nox_ok, R.ok_bind] at p2
            intro G5 H5 sp5
            have spA : Step G2 H2 G5 H5 := (sp3.trans sp4).trans sp5
            have nD : ∀ {G6 H6 : Hp}, Step G2 H2 G6 H6 → G6 Dl = none ∧ H6 Dl = some (.lst av) := fun {G6 H6} z => by
              refine ⟨?_, z.h _ _ hHD⟩
              cases q : G6 Dl with
              | none => rfl
              | some o =>
                rcases z.gr _ _ q with w | w
                · rw [hGD] at w; cases w
                · rw [hHD] at w; cases w
            cases b with
            | false =>
              rw [if_neg Bool.false_ne_true] at p2 ⊢
              exact ⟨G5, ac, av, sp2.trans spA, (nD spA).1, (nD spA).2, hr.mono spA.g, by omega, p2⟩
            | true =>
              rw [if_pos rfl] at p2 ⊢
              refine he σ4 H5 _ ⟨G5, S1, rel4.grow sp5, ?_⟩
              cases e3 : fe S1 with
              | exc x => rw [e3] at p2; exact p2.elim
              | fail => rw [e3] at p2; exact p2.elim
              | ok y =>
                rw [e3, R.nox_ok, R.ok_bind] at p2
                intro v G6 H6 sp6 hv
                have spB := spA.trans sp6
                refine ⟨av, (nD spB).2, by rw [← hr.length]; omega, ?_⟩
                have spC : Step G1 H1 G6 (upd H6 Dl (.lst (av ++ [v]))) := by
                  have z := sp2.trans spB
                  exact ⟨z.g, z.h.upd hD, z.gh.upd (nD spB).1, z.gr⟩
                refine ⟨G6, ac ++ [y], av ++ [v], spC, (nD spB).1, upd_same, (hr.mono spB.g).append (.cons hv .nil), by rw [List.length_append]; simp; omega, ?_⟩
                cases e4 : lcF ga t fe (wipeS S vs) (ds.drop (i + 1)) with
                | exc x => exact absurd e4 (lcF_exc _)
                | fail => rw [e4] at p2; exact p2.elim
                | ok ys => rw [e4] at p2; simpa using p2
      · have hi : i = ds.length := by omega
        subst hi
        rw [List.drop_length] at p2
        refine .inl ⟨itm.1 _ (Nat.le_refl _), ?_⟩
        have p2 : PostE c .fr G S σ H Q (.ok (.lst (ac ++ []))) := p2
        rw [List.append_nil] at p2
        exact p2 _ G2 H2 (sp.trans sp2) ⟨Dl, _, rfl, hGD, hD0, hHD, .lst hr⟩
    · rw [if_neg hz] at p; exact p.elim
theorem d_lc {elt iter : Expr} {ifs : List Expr} {scope : Scope} (own : List (Str × Nat)) {ki gs : List Nat} {fi : FI} {ga : FG} {fe : FE} (hc : X.calm = true) (hN : X.N.Nodup) (hi : PI' X c ki tg iter fi) (ok : BlkOk X.N X.env.scope scope own)
    (hg : ∀ (s : Shared) (H : Hp) (C : Addr) (cl : List (Str × Addr)) (fp : List Addr), PG' (X.blk s H scope (compEnvC scope cl C X.env) fp) c.nx gs tg ga) (ht : ∀ (s : Shared) (H : Hp) (C : Addr) (cl : List (Str × Addr)) (fp : List Addr), PTs' (X.blk s H scope (compEnvC scope cl C X.env) fp) c.nx ifs t)
    (he : ∀ (s : Shared) (H : Hp) (C : Addr) (cl : List (Str × Addr)) (fp : List Addr), PE' (X.blk s H scope (compEnvC scope cl C X.env) fp) c.nx .st elt fe) (hgs : ∀ i, i ∈ gs → i ∈ own.map (·.2) := by decide) (hs : ∀ x, foldedSetIterable iter X.env x = pure x := by intro _; rfl) :
    PE' X c .fr (.ListComp elt [⟨tg, iter, ifs, 0⟩] scope pos) (lcE fi ga t fe (own.map (·.2))) :=
  peI (pe_lc hc hN hi ok hg ht he hs) fun σ H Q q => lc_go (fun _ _ _ _ z => z) (fun _ _ _ z => z) (fun _ _ _ z => z) hgs q
end
end M
set_option Elab.async false
set_option linter.all false
set_option maxRecDepth 100000
set_option maxHeartbeats 4000000
namespace M
open PySem L2
abbrev kdOf (fr : Bool) : Kd := if fr then .fr else .st
def PostF (k : Kn) (fr : Bool) (G0 H : Hp) (Q : VK) (E : XK) : R D → Prop
  | .ok d => ∀ v G' H', Step G0 H G' H' → Res k H G' H' d v (kdOf fr) → Q v H'
  | .exc x => PXs ⟨k, H, G0, liftX E⟩ x
  | .fail => False
def SpF (k : Kn) (fr : Bool) (n : Nat) (den : List D → R D) : Sp := fun vs H Q E => vs.length = n ∧ ∃ G0 ds, Ex G0 H ∧ RDs k G0 ds vs ∧ PostF k fr G0 H Q E (den ds)
def startS (n : Nat) (ds : List D) : Env := ds.map (fun d => some ⟨false, d⟩) ++ List.replicate (n - ds.length) none
def endF (fr : Bool) : R (Fl × Env) → R D
  | .ok (.rt d, _) => .ok d
  | .ok (.nx, _) => if fr then .fail else .ok .non
  | .ok _ => .fail
  | .exc x => .exc x
  | .fail => .fail
def runF (fr : Bool) (n : Nat) (s : FS) (ds : List D) : R D := endF fr (s (startS n ds))
theorem rel_start {c : Cf} {N : List Str} {ds : List D} {vs : List V} (e : Ex c.G0 c.H0) (r : RDs c.k c.G0 ds vs) : Rel c c.G0 (startS N.length ds) (L2.start N vs) c.H0 := by
  have own : ∀ (i : Nat) (d : D), (startS N.length ds)[i]? ≠ some (some ⟨true, d⟩) := fun i d q => by
    unfold startS at q
    rw [List.getElem?_append] at q
    split at q
    · rw [List.getElem?_map] at q
      cases h : ds[i]? <;> rw [h] at q <;> cases q
    · rw [List.getElem?_replicate] at q
      split at q <;> cases q
  refine ⟨Step.refl e, by simp [startS, L2.start, r.length], fun i d q => ?_, fun i d q => absurd q (own i d), fun i j a o => ?_⟩
  · unfold startS at q
    rw [List.getElem?_append] at q
    split at q
    · rename_i hlt
      rw [List.getElem?_map] at q
      cases h : ds[i]? with
      | none => rw [h] at q; cases q
      | some d' =>
        rw [h] at q; cases q
        obtain ⟨v, h1, h2⟩ := r.get h
        refine ⟨v, ?_, h2⟩
        unfold L2.start
        rw [List.getElem?_append_left (by rw [List.length_map]; exact (List.getElem?_eq_some_iff.mp h1).1), List.getElem?_map, h1]; rfl
    · rw [List.getElem?_replicate] at q
      split at q <;> cases q
  · obtain ⟨⟨d, q⟩, _⟩ := o
    exact absurd q (own i d)
theorem body_ok {k : Kn} {fr : Bool} {as : List Nat} {N : List Str} {X : Cx} {body : List Stmt} {s : FS} {H : Hp} {vs : List V} {Q : VK} {E : XK} {n : Nat} (hb : ∀ G0, PB' X ⟨k, H, G0, liftX E⟩ fr as body s) (q : SpF k fr n (runF fr N.length s) vs H Q E) :
    ∃ t, PSs X body t ∧ t { nx := fun _ H' => Q .non H', rt := Q } (L2.start N vs) H := by
  obtain ⟨hl, G0, ds, e, r, p⟩ := q
  refine ⟨_, hb G0, G0, _, rel_start (c := ⟨k, H, G0, liftX E⟩) e r, ?_⟩
  unfold runF at p
  cases e1 : s (startS N.length ds) with
  | exc x => rw [e1] at p; exact p
  | fail => rw [e1] at p; exact p.elim
  | ok z =>
    rw [e1] at p
    obtain ⟨fl, S1⟩ := z
    cases fl with
    | nx =>
      cases fr with
      | true => exact p.elim
      | false => exact fun G' σ' H' _ rel _ => p .non G' H' rel.st .non
    | bk => exact p.elim
    | ct => exact p.elim
    | rt d =>
      intro v G' H' st rv _
      refine p v G' H' st ?_
      cases fr with
      | true => exact rv
      | false => exact rv
section
variable {P : Program} {w : World} {K : PySem.W.Frag} {mg : Str → Option Value} {base : Heap}
theorem fn_ok {k : Kn} {fr : Bool} {as : List Nat} {x qual : Str} {params : Arguments} {body : List Stmt} {scope : Scope} {dvs : List V} {kws : List (Str × V)} {f : Addr} {fd : FuncData} {N ps : List Str} {lv : Nat} {s : FS} (F : FunD K x qual params body scope dvs kws f fd) (S : FnScope N ps scope)
    (hb : ∀ (cdv : Value) (A : Around) (outer : List PySem.Env) (sh : Shared) (H G0 : Hp), Room lv (A.deeper (PyProof.Rows.envOfC qual scope sh.heap.objs.size f cdv)) → PB' (cxOf CX0 P w K mg base N qual scope f cdv A outer sh H E0).nox ⟨k, H, G0, liftX E0⟩ fr as body s) :
    FnOk P w K mg base CX0 (lv + 1) f fd ps (SpF k fr ps.length (fun ds => (runF fr N.length s ds).nox)) := by
  refine F.ok S (fun vs H Q E q => q.1) fun cdv A outer sh H vs Q E hr q => ?_
  have q' : SpF k fr ps.length (runF fr N.length s) vs H Q E0 := by
    obtain ⟨hl, G0, ds, e, r, p⟩ := q
    refine ⟨hl, G0, ds, e, r, ?_⟩
    dsimp only at p
    cases e1 : runF fr N.length s ds with
    | ok d => rw [e1] at p; exact p
    | exc x => rw [e1] at p; exact p.elim
    | fail => rw [e1] at p; exact p.elim
  obtain ⟨t, h1, h2⟩ := body_ok (X := (cxOf CX0 P w K mg base N qual scope f cdv A outer sh H E0).nox) (fun G0 => hb cdv A outer sh H G0 hr) q'
  exact ⟨t, h1.nox, h2⟩
end
structure Fn0 (X : Cx) (k : Kn) (x : Str) (n : Nat) (fr : Bool) (den : List D → R D) : Prop where
  ex : ∃ (f : Addr) (fd : FuncData) (lv : Nat) (ps : List Str), ps.length = n ∧ FnOk X.prog X.w X.K X.mg X.base CX0 lv f fd ps (SpF k fr n den) ∧ Room lv X.A ∧ X.mg x = some (.ref f) ∧ PySem.W.keepIn X.K (.ref f) = true ∧ Binds X.K fd ps []
section
variable {X : Cx} {c : Cf} {kd k1 k2 k3 : Kd} {a b e : Expr} {pos : Pos} {fr : Bool} {den : List D → R D}
theorem call_go {n : Nat} {fa : FA} {σ : St} {H : Hp} {Q : VK} (hl : ∀ S ds, fa S = .ok ds → ds.length = n) (q : RdE c (kdOf fr) (eC den fa) σ H Q) : RdA c false fa σ H fun vs H1 => SpF c.k fr n den (vs ++ []) H1 Q E0 := by
  obtain ⟨G, S, rel, p⟩ := q
  have p : PostE c (kdOf fr) G S σ H Q (fa S >>= fun ds => (den ds).nox) := p
  refine ⟨G, S, rel, ?_⟩
  cases e0 : fa S with
  | exc x => rw [e0] at p; exact p
  | fail => rw [e0] at p; exact p
  | ok ds =>
    rw [e0] at p
    intro vs G1 H1 s1 q1
    have q1 : RDs c.k G1 ds vs := q1
    rw [List.append_nil]
    refine ⟨by rw [← q1.length]; exact hl S ds e0, G1, ds, s1.gh, q1, ?_⟩
    have p : PostE c (kdOf fr) G S σ H Q (den ds).nox := p
    cases e1 : den ds with
    | ok d => rw [e1] at p; exact fun v G' H' s2 r2 => p v G' H' (s1.trans s2) (r2.mono s1.h)
    | exc x => rw [e1] at p; exact p.elim
    | fail => rw [e1] at p; exact p.elim
def Len (n : Nat) (fa : FA) : Prop := ∀ S ds, fa S = .ok ds → ds.length = n
theorem len_n : Len 0 aN := fun S ds h => by cases h; rfl
theorem len_c {n : Nat} {f : FE} {fa : FA} (h : Len n fa) : Len (n + 1) (aC f fa) := fun S ds q => by
  unfold aC at q
  cases e1 : f S with
  | exc x => rw [e1] at q; cases q
  | fail => rw [e1] at q; cases q
  | ok d =>
    rw [e1] at q
    have q : (fa S >>= fun xs => R.ok (d :: xs)) = .ok ds := q
    cases e2 : fa S with
    | exc x => rw [e2] at q; cases q
    | fail => rw [e2] at q; cases q
    | ok xs => rw [e2] at q; cases q; simp [h S xs e2]
theorem d_call {x : Str} {n : Nat} {p : Pos} {es : List Expr} {fa : FA} (F : Fn0 X c.k x n fr den) (ha : PA' X c false (e :: es) fa) (hl : Len n fa) (hg : Gl X x := by rfl) (hdb : (x == ("__debug__" : Str)) = false := by decide)
    (hs : starEach (e :: es) X.env = (false, eval e X.env) :: starEach es X.env := by rfl) (hs2 : ((backTo pos (starEach es X.env)).any fun x => x.1) = false := by rfl) : PE' X c (kdOf fr) (.Call (.Name x p) (e :: es) [] pos) (eC den fa) := by
  obtain ⟨f, fd, lv, ps, hn, ok, hr, hm, hk, hb⟩ := F.ex
  exact peI (pe_call ok hr hg hm hk hb .nil pass0 ha hdb hs hs2) fun σ H Q q => call_go hl q
mutual
def D.noMut : D → Bool
  | .lst _ => false
  | .dic _ _ => false
  | .dit _ _ => false
  | .dkf _ _ => false
  | .dig _ _ => false
  | .dgf _ _ => false
  | .tup xs => D.noMuts xs
  | .obj _ _ => false
  | .scr _ => false
  | _ => true
def D.noMuts : List D → Bool
  | [] => true
  | x :: xs => x.noMut && D.noMuts xs
end
noncomputable def cut (S : Env) (σ : St) (H : Hp) : Hp := fun b => open Classical in if ∃ i, OwnAt S σ i b then none else H b
theorem cut_get {S : Env} {σ : St} {H : Hp} {b : Addr} (h : ∀ i, ¬ OwnAt S σ i b) : cut S σ H b = H b := by
  unfold cut; rw [if_neg (fun ⟨i, q⟩ => h i q)]
theorem Cont.notup {k : Kn} {G : Hp} {d : D} {o : HO} (c : Cont k G d o) : (∀ vs, o ≠ .tup vs) ∧ (∀ q vs, o ≠ .frz q vs) := by
  cases c <;> exact ⟨fun _ z => (by cases z), fun _ _ z => (by cases z)⟩
mutual
theorem RD.cut {c : Cf} {G H H' : Hp} {S : Env} {σ : St} (rel : Rel c G S σ H) (e : Ex H H') : ∀ {d : D} {v : V}, RD c.k H' d v → d.noMut = true → RD c.k (M.cut S σ H') d v
  | _, _, .non, _ => .non
  | _, _, .bl b, _ => .bl b
  | _, _, .int b, _ => .int b
  | _, _, .str b, _ => .str b
  | _, _, .ty b, _ => .ty b
  | _, _, .cls b, _ => .cls b
  | _, _, .tup h r, q => by
    simp only [D.noMut] at q
    refine .tup ?_ (RDs.cut rel e r q)
    rcases h with h | h
    · refine .inl ?_
      rw [cut_get]; exact h
      intro i ow
      obtain ⟨_, _, o, d, ho, _, ct⟩ := rel.own ow
      have := e _ _ ho
      rw [h] at this; cases this
      exact ct.notup.1 _ rfl
    · exact .inr h
  | _, _, .scr _, q => by simp [D.noMut] at q
  | _, _, .lst _ _, q => by simp [D.noMut] at q
  | _, _, .dic _ _ _, q => by simp [D.noMut] at q
  | _, _, .dit _ _ _, q => by simp [D.noMut] at q
  | _, _, .dkf _ _ _, q => by simp [D.noMut] at q
  | _, _, .dig _ _ _ _, q => by simp [D.noMut] at q
  | _, _, .dgf _ _ _ _, q => by simp [D.noMut] at q
  | _, _, .obj _ _ _, q => by simp [D.noMut] at q
theorem RDs.cut {c : Cf} {G H H' : Hp} {S : Env} {σ : St} (rel : Rel c G S σ H) (e : Ex H H') : ∀ {ds : List D} {vs : List V}, RDs c.k H' ds vs → D.noMuts ds = true → RDs c.k (M.cut S σ H') ds vs
  | _, _, .nil, _ => .nil
  | _, _, .cons a b, q => by
    simp only [D.noMuts, Bool.and_eq_true] at q
    exact .cons (RD.cut rel e a q.1) (RDs.cut rel e b q.2)
end
end
end M
set_option Elab.async false
set_option linter.all false
set_option maxRecDepth 100000
set_option maxHeartbeats 4000000
namespace M
open PySem L2
section
variable {X : Cx} {k : Kn}
theorem CallR.or {f : Value} {r r' : List V → Hp → VK → Prop} (h : CallR X f r) (h' : CallR X f r') : CallR X f (fun xs H Q => r xs H Q ∨ r' xs H Q) := fun pins s σ H xs us Q I rx q => by
  rcases q with q | q
  · exact h pins s σ H xs us Q I rx q
  · exact h' pins s σ H xs us Q I rx q
theorem cl1 {f : Value} {kd : Kd} {g : D → R D} {r : List V → Hp → VK → Prop} (h : CallR X f r) (q : ∀ G H x v d, Ex G H → Now k G H x v → g x = .ok d → ∀ Q : VK, (∀ w G' H', Step G H G' H' → Res k H G' H' d w kd → Q w H') → r [v] H Q) :
    ClR X k f kd (fun xs => match xs with | [x] => g x | _ => .fail) := by
  refine ⟨r, h, ?_⟩
  intro G H ds vs d e ns hg Q p
  cases ns with
  | nil => cases hg
  | cons n1 n2 =>
    cases n2 with
    | nil => exact q G H _ _ d e n1 hg Q p
    | cons _ _ => cases hg
theorem cl2 {f : Value} {kd : Kd} {g : D → D → R D} {r : List V → Hp → VK → Prop} (h : CallR X f r) (q : ∀ G H x v y u d, Ex G H → Now k G H x v → Now k G H y u → g x y = .ok d → ∀ Q : VK, (∀ w G' H', Step G H G' H' → Res k H G' H' d w kd → Q w H') → r [v, u] H Q) :
    ClR X k f kd (fun xs => match xs with | [x, y] => g x y | _ => .fail) := by
  refine ⟨r, h, ?_⟩
  intro G H ds vs d e ns hg Q p
  cases ns with
  | nil => cases hg
  | cons n1 n2 =>
    cases n2 with
    | nil => cases hg
    | cons n2 n3 =>
      cases n3 with
      | nil => exact q G H _ _ _ _ d e n1 n2 hg Q p
      | cons _ _ => cases hg
def f1 (g : D → R D) : List D → R D := fun xs => match xs with | [x] => g x | _ => .fail
def f2 (g : D → D → R D) : List D → R D := fun xs => match xs with | [x, y] => g x y | _ => .fail
def lenD : D → R D
  | .str x => if x.length ≤ sizeLine then .ok (.int x.length) else .fail
  | .lst xs => .ok (.int xs.length)
  | .tup xs => .ok (.int xs.length)
  | .scr ns => .ok (.int ns.length)
  | .dic ks _ => .ok (.int ks.length)
  | .dkf ks _ => .ok (.int ks.length)
  | _ => .fail
theorem call_lenFz : CallR X (.builtin "len") (fun xs H Q => ∃ a o kvs, xs = [V.ref a] ∧ H a = some (.frz o (.dK kvs)) ∧ Q (.int kvs.length) H) := by
  intro pins s σ H xs us Q I r h
  obtain ⟨a, o, kvs, rfl, ha, q⟩ := h
  obtain ⟨u, rfl, ru⟩ := vals1 r
  cases ru
  exact d_len I (.inr ⟨o, ha⟩) fun t s' I' => ⟨.int kvs.length, H, I', ⟨t, rfl⟩, q⟩
theorem c_len (hk : k.K = X.K) : ClR X k (.builtin "len") .st (f1 lenD) := cl1 ((call_len.or call_lenD).or call_lenFz) fun G H x v d e n hg Q p => by
  unfold lenD at hg
  split at hg
  · split at hg
    · rename_i hl
      cases hg; obtain rfl := n.str
      exact .inl (.inl ⟨_, _, rfl, ⟨hl, rfl⟩, p _ G H (Step.refl e) (.int _)⟩)
    · cases hg
  · cases hg; obtain ⟨a, vs, rfl, ha, r⟩ := n.lst e
    exact .inl (.inl ⟨_, _, rfl, .inl ⟨vs, SqL.of ha, rfl⟩, by rw [← r.length]; exact p _ G H (Step.refl e) (.int _)⟩)
  · cases hg; obtain ⟨a, vs, rfl, ha, r⟩ := n.tup
    exact .inl (.inl ⟨_, _, rfl, .inr ⟨vs, hk ▸ e.sqT ha.t, rfl⟩, by rw [← r.length]; exact p _ G H (Step.refl e) (.int _)⟩)
  · cases hg; obtain ⟨a, rfl, ha⟩ := n.scr
    exact .inl (.inl ⟨_, _, rfl, .inl ⟨_, hk ▸ e.sqL ha, rfl⟩, by rw [List.length_map]; exact p _ G H (Step.refl e) (.int _)⟩)
  · cases hg; obtain ⟨a, vs, rfl, ha, l, r⟩ := n.dic e
    refine .inl (.inr ⟨a, _, rfl, ha, ?_⟩)
    rw [List.length_zip, ← r.length, ← l, Nat.min_self]; exact p _ G H (Step.refl e) (.int _)
  · cases hg; obtain ⟨a, o, vs, rfl, ha, l, r⟩ := n.dkf e
    refine .inr ⟨a, o, _, rfl, ha, ?_⟩
    rw [List.length_zip, ← r.length, ← l, Nat.min_self]; exact p _ G H (Step.refl e) (.int _)
  · cases hg
def absD : D → R D
  | .int i => .ok (.int (if i < 0 then -i else i))
  | _ => .fail
theorem c_abs : ClR X k (.builtin "abs") .st (f1 absD) := cl1 call_abs fun G H x v d e n hg Q p => by
  cases x <;> simp only [absD] at hg <;> first | (cases hg; done) | skip
  cases hg; obtain rfl := n.int
  exact ⟨_, rfl, p _ G H (Step.refl e) (.int _)⟩
def intD : D → R D
  | .int i => .ok (.int i)
  | .bl b => .ok (.int (if b then 1 else 0))
  | _ => .fail
theorem c_int : ClR X k (.type "int") .st (f1 intD) := cl1 call_int1 fun G H x v d e n hg Q p => by
  cases x <;> simp only [intD] at hg <;> first | (cases hg; done) | skip
  · cases hg; obtain rfl := n.bl
    exact .inr ⟨_, rfl, p _ G H (Step.refl e) (.int _)⟩
  · cases hg; obtain rfl := n.int
    exact .inl ⟨_, rfl, p _ G H (Step.refl e) (.int _)⟩
def max2D : D → D → R D
  | .int i, .int j => .ok (.int (if j > i then j else i))
  | _, _ => .fail
theorem c_max2 (hc : X.calm = true) : ClR X k (.builtin "max") .st (f2 max2D) := cl2 (call_max2 hc) fun G H x v y u d e n m hg Q p => by
  unfold max2D at hg
  split at hg
  · cases hg; obtain rfl := n.int; obtain rfl := m.int
    exact ⟨_, _, rfl, p _ G H (Step.refl e) (.int _)⟩
  · cases hg
def min2D : D → D → R D
  | .int i, .int j => .ok (.int (if j < i then j else i))
  | _, _ => .fail
theorem c_min2 (hc : X.calm = true) : ClR X k (.builtin "min") .st (f2 min2D) := cl2 (call_min2 hc) fun G H x v y u d e n m hg Q p => by
  unfold min2D at hg
  split at hg
  · cases hg; obtain rfl := n.int; obtain rfl := m.int
    exact ⟨_, _, rfl, p _ G H (Step.refl e) (.int _)⟩
  · cases hg
def asI : List D → Option (List Int)
  | [] => some []
  | .int i :: r => (asI r).map (i :: ·)
  | _ => none
def asB : List D → Option (List Bool)
  | [] => some []
  | .bl i :: r => (asB r).map (i :: ·)
  | _ => none
def asS : List D → Option (List Str)
  | [] => some []
  | .str i :: r => (asS r).map (i :: ·)
  | _ => none
theorem asB_of {G : Hp} : ∀ {ds : List D} {vs : List V} {ns : List Bool}, RDs k G ds vs → asB ds = some ns → vs = ns.map V.bl
  | _, _, ns, .nil, h => by cases h; rfl
  | _, _, ns, .cons a b, h => by
    cases a with
    | bl i =>
      simp only [asB, Option.map_eq_some_iff] at h
      obtain ⟨r, h1, rfl⟩ := h
      rw [asB_of b h1]; rfl
    | _ => simp [asB] at h
theorem asS_of {G : Hp} : ∀ {ds : List D} {vs : List V} {ns : List Str}, RDs k G ds vs → asS ds = some ns → vs = ns.map V.str
  | _, _, ns, .nil, h => by cases h; rfl
  | _, _, ns, .cons a b, h => by
    cases a with
    | str i =>
      simp only [asS, Option.map_eq_some_iff] at h
      obtain ⟨r, h1, rfl⟩ := h
      rw [asS_of b h1]; rfl
    | _ => simp [asS] at h
@[simp] theorem asI_map (ns : List Int) : asI (ns.map D.int) = some ns := by
  induction ns with
  | nil => rfl
  | cons n ns ih => simp [asI, ih]
@[simp] theorem asB_map (ns : List Bool) : asB (ns.map D.bl) = some ns := by
  induction ns with
  | nil => rfl
  | cons n ns ih => simp [asB, ih]
@[simp] theorem asS_map (ns : List Str) : asS (ns.map D.str) = some ns := by
  induction ns with
  | nil => rfl
  | cons n ns ih => simp [asS, ih]
def anyD : D → R D
  | .lst ds => match asB ds with | some ns => .ok (.bl (ns.any id)) | none => .fail
  | _ => .fail
theorem c_any (hc : X.calm = true) : ClR X k (.builtin "any") .st (f1 anyD) := cl1 (cr_any hc) fun G H x v d e n hg Q p => by
  cases x <;> simp only [anyD] at hg <;> first | (cases hg; done) | skip
  split at hg
  · rename_i ns hn
    cases hg; obtain ⟨a, vs, rfl, ha, r⟩ := n.lst e
    have := asB_of r hn; subst this
    exact ⟨a, ns, rfl, SqL.of ha, p _ G H (Step.refl e) (.bl _)⟩
  · cases hg
def allD : D → R D
  | .lst ds => match asB ds with | some ns => .ok (.bl (ns.all id)) | none => .fail
  | _ => .fail
theorem c_all (hc : X.calm = true) : ClR X k (.builtin "all") .st (f1 allD) := cl1 (cr_all hc) fun G H x v d e n hg Q p => by
  cases x <;> simp only [allD] at hg <;> first | (cases hg; done) | skip
  split at hg
  · rename_i ns hn
    cases hg; obtain ⟨a, vs, rfl, ha, r⟩ := n.lst e
    have := asB_of r hn; subst this
    exact ⟨a, ns, rfl, SqL.of ha, p _ G H (Step.refl e) (.bl _)⟩
  · cases hg
def tupD : D → R D
  | .lst ds => .ok (.tup ds)
  | .tup ds => .ok (.tup ds)
  | _ => .fail
theorem c_tup (hk : k.K = X.K) : ClR X k (.type "tuple") .st (f1 tupD) := cl1 call_tuple_of fun G H x v d e n hg Q p => by
  cases x <;> simp only [tupD] at hg <;> first | (cases hg; done) | skip
  · cases hg; obtain ⟨a, vs, rfl, ha, r⟩ := n.tup
    exact ⟨a, vs, rfl, .inr ⟨hk ▸ e.sqT ha.t, p _ G H (Step.refl e) (.tup ha r)⟩⟩
  · cases hg; obtain ⟨a, vs, rfl, ha, r⟩ := n.lst e
    exact ⟨a, vs, rfl, .inl ⟨SqL.of ha, fun l hl => p _ _ _ (Step.new e hl) (.tup (SqU.of upd_same) (r.mono (Ex.new (e.free hl))))⟩⟩
def lstD : D → R D
  | .lst ds => .ok (.lst ds)
  | .tup ds => .ok (.lst ds)
  | _ => .fail
theorem c_lst (hk : k.K = X.K) : ClR X k (.type "list") .fr (f1 lstD) := cl1 call_list_of fun G H x v d e n hg Q p => by
  cases x <;> simp only [lstD] at hg <;> first | (cases hg; done) | skip
  · cases hg; obtain ⟨a, vs, rfl, ha, r⟩ := n.tup
    exact ⟨a, vs, rfl, .inr (hk ▸ e.sqT ha.t), fun l hl => p _ _ _ (Step.new' e hl) ⟨l, _, rfl, e.free hl, hl, upd_same, .lst r⟩⟩
  · cases hg; obtain ⟨a, vs, rfl, ha, r⟩ := n.lst e
    exact ⟨a, vs, rfl, .inl (SqL.of ha), fun l hl => p _ _ _ (Step.new' e hl) ⟨l, _, rfl, e.free hl, hl, upd_same, .lst r⟩⟩
def flatD : D → Bool
  | .non => true
  | .bl _ => true
  | .int _ => true
  | .str _ => true
  | _ => false
theorem RD.flat {G : Hp} {d : D} {v : V} (r : RD k G d v) (h : flatD d = true) : flatV v = true := by
  cases r <;> first | rfl | (simp [flatD] at h; done)
theorem RDs.flat {G : Hp} : ∀ {ds : List D} {vs : List V}, RDs k G ds vs → ds.all flatD = true → vs.all flatV = true
  | _, _, .nil, _ => rfl
  | _, _, .cons a b, h => by
    simp only [List.all_cons, Bool.and_eq_true] at h ⊢
    exact ⟨a.flat h.1, RDs.flat b h.2⟩
theorem RD.eqV {G : Hp} {d d' : D} {v v' : V} (r : RD k G d v) (r' : RD k G d' v') (h : flatD d = true) (h' : flatD d' = true) : L2.eqV v v' = deq d d' := by
  cases r <;> first | (simp [flatD] at h; done) | skip
  all_goals (cases r' <;> first | (simp [flatD] at h'; done) | (simp [L2.eqV, deq]; done))
theorem RDs.inV {G : Hp} {x : D} {u : V} (r : RD k G x u) (hx : flatD x = true) : ∀ {ds : List D} {vs : List V}, RDs k G ds vs → ds.all flatD = true → L2.inV u vs = ds.any fun z => deq z x
  | _, _, .nil, _ => rfl
  | _, _, .cons a b, h => by
    simp only [List.all_cons, Bool.and_eq_true] at h
    have ih := RDs.inV r hx b h.2
    simp only [L2.inV, List.any_cons] at ih ⊢
    rw [ih, a.eqV r h.1 hx]
theorem toPs_any (n : Nat) (x : D) (hx : dok n x = true) : ∀ {ds : List D} {m : Nat}, doks m ds = true → ((D.toPs ds).any fun z => PyData.eqv z x.toP) = ds.any fun z => deq z x
  | [], _, _ => by simp [D.toPs]
  | d :: ds, m, h => by
    simp only [doks, Bool.and_eq_true] at h
    simp only [D.toPs, List.any_cons]
    rw [toPs_any n x hx h.2, deq_eqv m n d x h.1 hx]
def signD : D → Str → Option Bool
  | .str a, z => match a.cps.toList with
    | [c] => some (decide (c ∈ z.cps.toList))
    | _ => none
  | _, _ => none
theorem signD_of {x : D} {z : Str} {b : Bool} (h : signD x z = some b) : ∃ c, x = .str ⟨#[c]⟩ ∧ b = decide (c ∈ z.cps.toList) := by
  cases x with
  | str a =>
    simp only [signD] at h
    split at h
    · rename_i c hc
      cases h
      obtain ⟨⟨l⟩⟩ := a
      cases hc
      exact ⟨c, rfl, rfl⟩
    · cases h
  | _ => simp [signD] at h
def inD' (x : D) : D → Option Bool
  | .lst ds => if flatD x && ds.all flatD then some (ds.any fun z => deq z x) else if dok 60 x && doks 59 ds then some (ds.any fun z => deq z x) else none
  | .tup ds => if flatD x && ds.all flatD then some (ds.any fun z => deq z x) else none
  | .str z => signD x z
  | _ => none
def inD (x y : D) : R D := match inD' x y with | some b => .ok (.bl b) | none => .fail
def notInD (x y : D) : R D := match inD' x y with | some b => .ok (.bl (!b)) | none => .fail
def rSign (neg : Bool) : R2 := fun x y H Q => ∃ (c : Nat) (z : Str), x = .str ⟨#[c]⟩ ∧ y = .str z ∧ Q (.bl (if neg = true then !decide (c ∈ z.cps.toList) else decide (c ∈ z.cps.toList))) H
theorem in_go {neg : Bool} (hk : k.K = X.K) {G H : Hp} {x y : D} {u v : V} {b : Bool} {Q : VK} (e : Ex G H) (nx : Now k G H x u) (ny : Now k G H y v) (hg : inD' x y = some b) (q : Q (.bl (if neg = true then !b else b)) H) :
    (rIn X.K neg u v H Q ∨ ∃ d ds, Dp X.K H u d ∧ Dp X.K H v (.list ds) ∧ SeqAt.shaped d = true ∧ SeqAt.shaped (.list ds) = true ∧ Q (.bl (if neg = true then !(ds.any fun z => PyData.eqv z d) else ds.any fun z => PyData.eqv z d)) H) ∨ rSign neg u v H Q := by
  cases y with
  | str z =>
    simp only [inD'] at hg
    obtain ⟨c, rfl, rfl⟩ := signD_of hg
    obtain rfl := nx.str
    obtain rfl := ny.str
    exact .inr ⟨c, z, rfl, rfl, q⟩
  | lst ds =>
    simp only [inD'] at hg
    obtain ⟨a, vs, rfl, ha, r⟩ := ny.lst e
    split at hg
    · rename_i hf
      simp only [Bool.and_eq_true] at hf
      cases hg
      have rx := nx.rd e
      have r' := r.mono e
      exact .inl <| .inl ⟨a, vs, rfl, .inl (SqL.of ha), rx.flat hf.1, r'.flat hf.2, by rw [RDs.inV rx hf.1 r' hf.2]; exact q⟩
    · split at hg
      · rename_i hf
        simp only [Bool.and_eq_true] at hf
        cases hg
        have hl : dok 60 (.lst ds) = true := by simp only [dok]; exact hf.2
        have ds' : SeqAt.shaped (.list (D.toPs ds)) = true := by
          have := dok_shaped hl
          simpa only [D.toP] using this
        exact .inl <| .inr ⟨x.toP, D.toPs ds, hk ▸ (nx.rd e).dp 60 hf.1, hk ▸ .lst (SqL.of ha) ((r.mono e).dp 59 hf.2), dok_shaped hf.1, ds', by rw [toPs_any 60 x hf.1 hf.2]; exact q⟩
      · cases hg
  | tup ds =>
    simp only [inD'] at hg
    obtain ⟨a, vs, rfl, ha, r⟩ := ny.tup
    split at hg
    · rename_i hf
      simp only [Bool.and_eq_true] at hf
      cases hg
      have rx := nx.rd e
      have r' := r.mono e
      exact .inl <| .inl ⟨a, vs, rfl, .inr (hk ▸ e.sqT ha.t), rx.flat hf.1, r'.flat hf.2, by rw [RDs.inV rx hf.1 r' hf.2]; exact q⟩
    · cases hg
  | _ => simp [inD'] at hg
theorem o_in (hk : k.K = X.K) (hu : X.A.units + 65 < cLine) : Op2 X k (compareOp .In) .st inD := by
  refine ⟨_, (op_in_seq.or (op_inD hu)).or op_in_sign, ?_⟩
  intro G H x y u v d e nx ny hg Q q
  unfold inD at hg
  split at hg
  · rename_i b hb
    cases hg
    exact in_go (neg := false) hk e nx ny hb (q _ G H (Step.refl e) (.bl _))
  · cases hg
theorem o_notin (hk : k.K = X.K) (hu : X.A.units + 65 < cLine) : Op2 X k (compareOp .NotIn) .st notInD := by
  refine ⟨_, (op_notIn_seq.or (op_notInD hu)).or op_notIn_sign, ?_⟩
  intro G H x y u v d e nx ny hg Q q
  unfold notInD at hg
  split at hg
  · rename_i b hb
    cases hg
    exact in_go (neg := true) hk e nx ny hb (q _ G H (Step.refl e) (.bl _))
  · cases hg
end
end M
set_option Elab.async false
set_option linter.all false
set_option maxRecDepth 100000
set_option maxHeartbeats 4000000
namespace M
open PySem L2
section
variable {X : Cx} {c : Cf} {kd k1 k2 k3 : Kd} {a b e : Expr} {f g h : FE} {pos apos cpos p' : Pos} {fr : Bool} {x : Str}
def ownL (i : Nat) (S : Env) : R (List D) := match S[i]? with
  | some (some ⟨true, .lst ds⟩) => .ok ds
  | _ => .fail
theorem ownL_of {i : Nat} {S : Env} {ds : List D} (h : ownL i S = .ok ds) : S[i]? = some (some ⟨true, .lst ds⟩) := by
  unfold ownL at h
  split at h
  · cases h; assumption
  · cases h
theorem ownL_exc {i : Nat} {S : Env} {x : Exc} : ownL i S ≠ .exc x := by unfold ownL; split <;> intro h <;> cases h
def sApp (i : Nat) (f : FE) : FS := fun S => ownL i S >>= fun ds => f S >>= fun d => if ds.length < sizeLine then .ok (.nx, S.set i (some ⟨true, .lst (ds ++ [d])⟩)) else .fail
theorem s_app (i : Nat) (he : PE' X c .st e f) (hN : X.N[i]? = some x := by rfl) (hv : Vis X.env.scope x := by first | exact Or.inl rfl | exact Or.inr (Or.inl rfl) | exact Or.inr (Or.inr rfl)) (hd : (x == ("__debug__" : Str)) = false := by decide)
    (hcd : (x == ("__classdict__" : Str)) = false := by decide) (h2 : (apos.endLine == cpos.line) = true := by rfl) (h3 : starEach [e] X.env = [(false, eval e X.env)] := by rfl) (hs : swapsWith (.Call (.Attribute (.Name x p') "append" apos) [e] [] cpos) none pos.line X.env = pure false := by rfl) :
    PS' X c fr [i + 1000] (.Expr (.Call (.Attribute (.Name x p') "append" apos) [e] [] cpos) pos) (sApp i f) :=
  psI (ps_expr (pe_bm PySem.F.plainAttrs_list PySem.F.slot_list_append PySem.F.type_list_append mt_append (pe_var hN hv hd hcd) (pa_cons he pa_nil h3) rfl (by rw [h3]; rfl) h2 h3 rfl) hs) fun Dn σ H ⟨G, S, rel, p⟩ => by
    have p : PostS c fr [i + 1000] G S σ H Dn (ownL i S >>= fun ds => f S >>= fun d => if ds.length < sizeLine then .ok (.nx, S.set i (some ⟨true, .lst (ds ++ [d])⟩)) else .fail) := p
    cases e0 : ownL i S with
    | exc x => exact absurd e0 ownL_exc
    | fail => rw [e0] at p; exact p.elim
    | ok ds =>
      rw [e0, R.ok_bind] at p
      have hS := ownL_of e0
      obtain ⟨l, o, es, hg, h0, ho, ct⟩ := rel.ow i _ hS
      cases ct with
      | @lst ds' vs r =>
        refine ⟨_, es, .inl ⟨rfl, vs, SqL.of ho⟩, ?_⟩
        refine rdE_go (g := fun d => if ds.length < sizeLine then .ok (Fl.nx, S.set i (some ⟨true, .lst (ds ++ [d])⟩)) else .fail) (Post := PostS c fr [i + 1000] G S σ H Dn) rel p (fun _ z => z _) (fun z => z) fun d v G' H' sp q p1 => ?_
        by_cases hl : ds.length < sizeLine
        · rw [if_pos hl] at p1
          have rel' := rel.grow sp
          have ow : OwnAt S σ i l := ⟨⟨_, hS⟩, es⟩
          refine ⟨l, vs, v, rfl, rfl, sp.h _ _ ho, by rw [← r.length]; exact hl, p1 G' σ _ sp.g (rel'.mut ow (.lst ((r.mono sp.g).append (.cons q .nil)))) ((Frm.step (as := []) rel sp).trans (Frm.mut rel' ow))⟩
        · rw [if_neg hl] at p1; exact p1.elim
def sExt (i : Nat) (f : FE) : FS := fun S => ownL i S >>= fun ds => f S >>= fun d => match d with
  | .lst es => if ds.length + es.length ≤ sizeLine then .ok (.nx, S.set i (some ⟨true, .lst (ds ++ es)⟩)) else .fail
  | _ => .fail
theorem s_ext (i : Nat) (he : PE' X c k1 e f) (hN : X.N[i]? = some x := by rfl) (hv : Vis X.env.scope x := by first | exact Or.inl rfl | exact Or.inr (Or.inl rfl) | exact Or.inr (Or.inr rfl)) (hd : (x == ("__debug__" : Str)) = false := by decide)
    (hcd : (x == ("__classdict__" : Str)) = false := by decide) (h2 : (apos.endLine == cpos.line) = true := by rfl) (h3 : starEach [e] X.env = [(false, eval e X.env)] := by rfl) (hs : swapsWith (.Call (.Attribute (.Name x p') "extend" apos) [e] [] cpos) none pos.line X.env = pure false := by rfl) :
    PS' X c fr [i + 1000] (.Expr (.Call (.Attribute (.Name x p') "extend" apos) [e] [] cpos) pos) (sExt i f) :=
  psI (ps_expr (pe_bm PySem.F.plainAttrs_list PySem.F.slot_list_extend PySem.F.type_list_extend mt_extend (pe_var hN hv hd hcd) (pa_cons he pa_nil h3) rfl (by rw [h3]; rfl) h2 h3 rfl) hs) fun Dn σ H ⟨G, S, rel, p⟩ => by
    have p : PostS c fr [i + 1000] G S σ H Dn (ownL i S >>= fun ds => f S >>= fun d => match d with
      | .lst es => if ds.length + es.length ≤ sizeLine then .ok (.nx, S.set i (some ⟨true, .lst (ds ++ es)⟩)) else .fail
      | _ => .fail) := p
    cases e0 : ownL i S with
    | exc x => exact absurd e0 ownL_exc
    | fail => rw [e0] at p; exact p.elim
    | ok ds =>
      rw [e0, R.ok_bind] at p
      have hS := ownL_of e0
      obtain ⟨l, o, es, hg, h0, ho, ct⟩ := rel.ow i _ hS
      cases ct with
      | @lst ds' vs r =>
        refine ⟨_, es, .inl ⟨rfl, vs, SqL.of ho⟩, ?_⟩
        refine rdE_go (Post := PostS c fr [i + 1000] G S σ H Dn) rel p (fun _ z => z _) (fun z => z) fun d v G' H' sp q p1 => ?_
        cases d with
        | lst es' =>
          have p1 : PostS c fr [i + 1000] G S σ H Dn (if ds.length + es'.length ≤ sizeLine then .ok (.nx, S.set i (some ⟨true, .lst (ds ++ es')⟩)) else .fail) := p1
          by_cases hl : ds.length + es'.length ≤ sizeLine
          · rw [if_pos hl] at p1
            have rel' := rel.grow sp
            have ow : OwnAt S σ i l := ⟨⟨_, hS⟩, es⟩
            obtain ⟨m, ws, rfl, hm, rm⟩ := q.now.lst sp.gh
            refine ⟨l, m, vs, ws, rfl, rfl, sp.h _ _ ho, hm, by rw [← r.length, ← rm.length]; exact hl, p1 G' σ _ sp.g (rel'.mut ow (.lst ((r.mono sp.g).append rm))) ((Frm.step (as := []) rel sp).trans (Frm.mut rel' ow))⟩
          · rw [if_neg hl] at p1; exact p1.elim
        | _ => exact p1.elim
end
end M
set_option Elab.async false
set_option linter.all false
set_option maxRecDepth 100000
set_option maxHeartbeats 4000000
namespace M
open PySem L2
structure ClsI (K : PySem.W.Frag) (k : Kn) (c : Nat) (nm : List Str) : Prop where
  ex : ∃ C, k.cl c = some (C, nm) ∧ Cls K C ∧ ∀ f, f ∈ nm → NoAttr K C f
  nd : nm.Nodup
  few : nm.length < 1000
section
variable {X : Cx} {c : Cf} {kd k1 k2 k3 : Kd} {a b e o : Expr} {f g h : FE} {pos apos cpos p' : Pos} {fr : Bool} {x : Str} {nm : List Str} {ci : Nat}
def fldD (ci j : Nat) : D → R D
  | .obj c ds => if c = ci then match ds[j]? with | some d => .ok d | none => .fail else .fail
  | _ => .fail
def ownO (ci i : Nat) (S : Env) : R (List D) := match S[i]? with
  | some (some ⟨true, .obj c ds⟩) => if c = ci then .ok ds else .fail
  | _ => .fail
def sFldN (ci i j : Nat) (f : FE) : FS := fun S => ownO ci i S >>= fun ds => f S >>= fun d => if ds.length = j then .ok (.nx, S.set i (some ⟨true, .obj ci (ds ++ [d])⟩)) else .fail
end
noncomputable def less (H : Hp) (x : Addr) : Hp := fun b => open Classical in if b = x then none else H b
def PostN (k : Kn) (x : Addr) (G0 H : Hp) (Q : VK) (E : XK) : R D → Prop
  | .ok d => ∀ G' H' o, Ex G0 G' → (∀ b u, b ≠ x → H b = some u → H' b = some u) → Ex G' H' → G' x = none → (∀ b u, G' b = some u → G0 b = some u ∨ H b = none) → H' x = some o → Cont k G' d o → Q .non H'
  | .exc e => PXs ⟨k, less H x, G0, liftX E⟩ e
  | .fail => False
def SpN (k : Kn) (ci n : Nat) (den : List D → R D) : Sp := fun vs H Q E => vs.length = n ∧ ∃ x rest G0 ds C dx nm, vs = .ref x :: rest ∧ k.cl ci = some (C, nm) ∧ H x = some (.ins C dx []) ∧ G0 x = none ∧ Ex G0 H ∧ RDs k G0 ds rest ∧ PostN k x G0 H Q E (den ds)
def startN (n ci : Nat) (ds : List D) : Env := some ⟨true, .obj ci []⟩ :: (ds.map (fun d => some ⟨false, d⟩) ++ List.replicate (n - (ds.length + 1)) none)
def endN : R (Fl × Env) → R D
  | .ok (.nx, S) => match (S[(0 : Nat)]? : Option (Option Sl)) with
    | some (some ⟨true, d⟩) => .ok d
    | _ => .fail
  | .ok _ => .fail
  | .exc x => .exc x
  | .fail => .fail
def runN (n ci : Nat) (s : FS) (ds : List D) : R D := endN (s (startN n ci ds))
section
variable {P : Program} {w : World} {K : PySem.W.Frag} {mg : Str → Option Value} {base : Heap}
end
structure Mk0 (X : Cx) (k : Kn) (x : Str) (ci n : Nat) (den : List D → R D) : Prop where
  ex : ∃ (C f : Addr) (fd : FuncData) (lv : Nat) (ps : List Str) (nm : List Str), ps.length = n ∧ k.cl ci = some (C, nm) ∧ Mk X.K C f ∧ FnOk X.prog X.w X.K X.mg X.base CX0 lv f fd ps (SpN k ci n den) ∧ Room (lv + 1) X.A ∧ X.mg x = some (.ref C) ∧ Binds X.K fd ps []
section
variable {X : Cx} {c : Cf} {kd k1 k2 k3 : Kd} {a b e : Expr} {pos : Pos} {den : List D → R D} {ci : Nat}
end
end M
set_option Elab.async false
set_option linter.all false
set_option maxRecDepth 100000
set_option maxHeartbeats 4000000
namespace M
open PySem L2
section
variable {X : Cx} {k : Kn} {c : Cf} {kd k1 k2 k3 : Kd} {a b e o : Expr} {f g h : FE} {pos apos cpos p' : Pos} {fr : Bool}
theorem DpAll.zip {K : PySem.W.Frag} {H : Hp} : ∀ {xs : List V} {ds : List PyData}, DpAll K H xs ds → ∀ {us : List Value}, Vals xs us → PySem.W.EachIs (fun (u : Value) (b : V × PyData) => RelV b.1 u ∧ Dp K H b.1 b.2) us (xs.zip ds)
  | _, _, .nil, _, .nil => .nil
  | _, _, .cons a b, _, .cons r t => .cons ⟨r, a⟩ (DpAll.zip b t)
theorem EachIs.imp {α β : Type} {R R' : α → β → Prop} (h : ∀ a b, R a b → R' a b) : ∀ {as : List α} {bs : List β}, PySem.W.EachIs R as bs → PySem.W.EachIs R' as bs
  | _, _, .nil => .nil
  | _, _, .cons a b => .cons (h _ _ a) (EachIs.imp h b)
theorem DpAll.length {K : PySem.W.Frag} {H : Hp} : ∀ {xs : List V} {ds : List PyData}, DpAll K H xs ds → xs.length = ds.length
  | _, _, .nil => rfl
  | _, _, .cons _ b => by simp [DpAll.length b]
end
def dlt (x y : D) : Bool := PySem.W.dataLt x.toP y.toP
def dle (x y : D) : Bool := !dlt y x
mutual
def alikeD : D → D → Bool
  | .non, .non => true
  | .bl _, .bl _ => true
  | .int _, .int _ => true
  | .str _, .str _ => true
  | .lst xs, .lst ys => alikeDs xs ys
  | .tup xs, .tup ys => alikeDs xs ys
  | _, _ => false
def alikeDs : List D → List D → Bool
  | x :: xs, y :: ys => alikeD x y && alikeDs xs ys
  | [], _ => true
  | _ :: _, [] => true
end
mutual
theorem alikeD_of : ∀ (x y : D), alikeD x y = true → PySem.W.alike x.toP y.toP = true
  | .non, y, h => by cases y <;> first | (simp [D.toP, PySem.W.alike]; done) | (simp [alikeD] at h; done)
  | .bl _, y, h => by cases y <;> first | (simp [D.toP, PySem.W.alike]; done) | (simp [alikeD] at h; done)
  | .int _, y, h => by cases y <;> first | (simp [D.toP, PySem.W.alike]; done) | (simp [alikeD] at h; done)
  | .str _, y, h => by cases y <;> first | (simp [D.toP, PySem.W.alike]; done) | (simp [alikeD] at h; done)
  | .lst xs, y, h => by
    cases y with
    | lst ys => simp only [alikeD] at h; simp only [D.toP, PySem.W.alike]; exact alikeDs_of xs ys h
    | _ => simp [alikeD] at h
  | .tup xs, y, h => by
    cases y with
    | tup ys => simp only [alikeD] at h; simp only [D.toP, PySem.W.alike]; exact alikeDs_of xs ys h
    | _ => simp [alikeD] at h
  | .ty _, _, h => by simp [alikeD] at h
  | .dic _ _, _, h => by simp [alikeD] at h
  | .dit _ _, _, h => by simp [alikeD] at h
  | .dkf _ _, _, h => by simp [alikeD] at h
  | .dig _ _, _, h => by simp [alikeD] at h
  | .dgf _ _, _, h => by simp [alikeD] at h
  | .obj _ _, _, h => by simp [alikeD] at h
  | .scr _, _, h => by simp [alikeD] at h
  | .cls _, _, h => by simp [alikeD] at h
theorem alikeDs_of : ∀ (xs ys : List D), alikeDs xs ys = true → PySem.W.alikeAll (D.toPs xs) (D.toPs ys) = true
  | [], _, _ => by simp [D.toPs, PySem.W.alikeAll]
  | _ :: _, [], _ => by simp [D.toPs, PySem.W.alikeAll]
  | x :: xs, y :: ys, h => by
    simp only [alikeDs, Bool.and_eq_true] at h
    simp only [D.toPs, PySem.W.alikeAll, Bool.and_eq_true]
    exact ⟨alikeD_of x y h.1, alikeDs_of xs ys h.2⟩
end
def srtItem : D → Bool
  | .non => false
  | .tup [] => false
  | _ => true
def srtOk (ds : List D) : Bool := doks 59 ds && ds.all (fun x => ds.all fun y => alikeD x y) && ds.all srtItem
def srt (ds : List D) : List D := ds.mergeSort dle
section
variable {X : Cx} {k : Kn}
theorem RDs.srt {G : Hp} {ds : List D} {vs : List V} (r : RDs k G ds vs) : RDs k G (M.srt ds) (((vs.zip (D.toPs ds)).mergeSort (PySem.W.dataLe false (·.2))).map (·.1)) := by
  have key : ∀ (bs : List (D × V)), (∀ b, b ∈ bs → RD k G b.1 b.2) → RDs k G (bs.map (·.1)) (bs.map (·.2)) := fun bs => by
    induction bs with
    | nil => intro _; exact .nil
    | cons b bs ih => intro h; exact .cons (h b (by simp)) (ih fun x hx => h x (by simp [hx]))
  have hl := r.length
  have z1 : (ds.zip vs).map (·.1) = ds := by rw [List.map_fst_zip]; omega
  have z2 : vs.zip (D.toPs ds) = (ds.zip vs).map fun b => (b.2, b.1.toP) := by
    clear r z1
    induction ds generalizing vs with
    | nil => cases vs <;> simp [D.toPs]
    | cons d ds ih =>
      cases vs with
      | nil => simp at hl
      | cons v vs => simp only [D.toPs, List.zip_cons_cons, List.map_cons]; rw [ih (by simpa using hl)]
  have e1 : M.srt ds = ((ds.zip vs).mergeSort fun a b => dle a.1 b.1).map (·.1) := by
    unfold M.srt
    rw [List.map_mergeSort (s := dle) (fun _ _ _ _ => rfl), z1]
  have e2 : ((vs.zip (D.toPs ds)).mergeSort (PySem.W.dataLe false (·.2))).map (·.1) = ((ds.zip vs).mergeSort fun a b => dle a.1 b.1).map (·.2) := by
    rw [z2, ← List.map_mergeSort (r := fun a b => dle a.1 b.1) (f := fun (b : D × V) => (b.2, b.1.toP)) (fun a _ b _ => by rw [PySem.W.dataLe_eq]; rfl), List.map_map]
    rfl
  rw [e1, e2]
  refine key _ fun b hb => ?_
  have hb : b ∈ ds.zip vs := List.mem_mergeSort.mp hb
  have : ∀ {ds : List D} {vs : List V}, RDs k G ds vs → ∀ b, b ∈ ds.zip vs → RD k G b.1 b.2 := fun {ds vs} r => by
    intro b hb
    obtain ⟨i, hi, rfl⟩ := List.mem_iff_getElem.mp hb
    rw [List.getElem_zip]
    have h1 : i < ds.length := by rw [List.length_zip] at hi; omega
    obtain ⟨v, hv, rv⟩ := r.get (List.getElem?_eq_getElem h1)
    have h2 : i < vs.length := by rw [List.length_zip] at hi; omega
    rw [List.getElem?_eq_getElem h2] at hv; cases hv
    exact rv
  exact this r b hb
end
end M
set_option Elab.async false
set_option linter.all false
set_option maxRecDepth 100000
set_option maxHeartbeats 4000000
namespace M
open PySem L2
theorem _root_.L2.Room.units5 {k : Nat} {A : Around} (r : Room k A) : A.units + 65 < cLine := by have := r.un; omega
structure Callee (P : Program) (w : World) (K : PySem.W.Frag) (mg : Str → Option Value) (base : Heap) (k : Kn) (lv : Nat) (x : Str) (n : Nat) (fr : Bool) (den : List D → R D) : Prop where
  ex : ∃ (f : Addr) (fd : FuncData) (ps : List Str), ps.length = n ∧ FnOk P w K mg base CX0 lv f fd ps (SpF k fr n den) ∧ mg x = some (.ref f) ∧ PySem.W.keepIn K (.ref f) = true ∧ Binds K fd ps []
theorem Callee.at {X : Cx} {k : Kn} {lv m : Nat} {x : Str} {n : Nat} {fr : Bool} {den : List D → R D} (h : Callee X.prog X.w X.K X.mg X.base k lv x n fr den) (hr : Room m X.A) (hle : lv ≤ m) : Fn0 X k x n fr den := by
  obtain ⟨f, fd, ps, hn, h1, h2, h3, h4⟩ := h.ex
  exact ⟨f, fd, lv, ps, hn, h1, hr.mono hle, h2, h3, h4⟩
structure Gc (mg : Str → Option Value) (k : Kn) (x : Str) (d : D) : Prop where
  ex : ∃ v u, mg x = some u ∧ RelV v u ∧ ∀ G, RD k G d v
section
variable {X : Cx} {c : Cf} {k : Kn} {kd k1 k2 k3 : Kd} {a b e o : Expr} {f g h : FE} {pos apos cpos p' : Pos} {fr : Bool} {x y : Str}
def eG (d : D) : FE := fun _ => .ok d
theorem d_g {d : D} (h : Gc X.mg c.k x d) (hg : Gl X x := by rfl) (hd : (x == ("__debug__" : Str)) = false := by decide) : PE' X c .st (.Name x pos) (eG d) := by
  obtain ⟨v, u, hm, r, rd⟩ := h.ex
  exact cst_of (pe_glob hg hm r hd) rd
def eY (n : String) : FE := fun _ => .ok (.ty n)
theorem d_ty (n : String) (hm : X.mg x = none) (hv : bootBuiltins x = some (.type n) := by decide +kernel) (hg : Gl X x := by rfl) (hn : x ≠ "__name__" := by decide) (hd : (x == ("__debug__" : Str)) = false := by decide) : PE' X c .st (.Name x pos) (eY n) :=
  cst_of (pe_bltn (v := .ty n) hg hm hv rfl hn hd) fun _ => .ty n
def tyN : D → Option String
  | .non => some "NoneType"
  | .bl _ => some "bool"
  | .int _ => some "int"
  | .str _ => some "str"
  | .tup _ => some "tuple"
  | .lst _ => some "list"
  | .dic _ _ => some "dict"
  | .dit _ _ => some "dict"
  | .dkf _ _ => some "dict"
  | _ => none
theorem Now.tyX (hk : k.K = X.K) {G H : Hp} {d : D} {v : V} {n : String} (e : Ex G H) (w : Now k G H d v) (h : tyN d = some n) : TyX X.K H v (.type n) := by
  cases d <;> simp only [tyN] at h <;> first | (cases h; done) | skip
  · cases h; obtain rfl := w.non; exact .base .non
  · cases h; obtain rfl := w.bl; exact .base (.bl _)
  · cases h; obtain rfl := w.int; exact .base (.int _)
  · cases h; obtain rfl := w.str; exact .base (.str _)
  · cases h; obtain ⟨a, vs, rfl, ha, r⟩ := w.tup
    rcases e.sqU ha with q | ⟨o, its, m, q1, q2, q3⟩
    · exact .base (.tup q)
    · exact .kTuple (hk ▸ q1) q2
  · cases h; obtain ⟨a, vs, rfl, ha, r⟩ := w.lst e; exact .base (.lst ha)
  · cases h; obtain ⟨a, vs, rfl, ha, r⟩ := w.dic e; exact .base (.dK ha)
  · cases h; obtain ⟨a, vs, rfl, ha, r⟩ := w.dit e; exact .base (.dT ha)
  · cases h; obtain ⟨a, o, vs, rfl, ha, l, r⟩ := w.dkf e; exact .fDict ha
def isiD : D → D → R D
  | x, .ty b => (match tyN x with
    | some a => (match kitB a b with
      | some r => .ok (.bl r)
      | none => .fail)
    | none => .fail)
  | _, _ => .fail
theorem c_isi (hk : k.K = X.K) : ClR X k (.builtin "isinstance") .st (f2 isiD) := cl2 call_isi fun G H x v y u d e n m hg Q p => by
  unfold isiD at hg
  split at hg
  · split at hg
    · rename_i ha
      split at hg
      · rename_i hb
        cases hg; obtain rfl := m.ty
        exact ⟨v, _, _, _, _, rfl, .ty _, n.tyX hk e ha, kit_ty hb, p _ G H (Step.refl e) (.bl _)⟩
      · cases hg
    · cases hg
  · cases hg
theorem SlR.or {r r' : V → Option Int → Option Int → Hp → VK → Prop} (h : SlR X r) (h' : SlR X r') : SlR X (fun x l u H Q => r x l u H Q ∨ r' x l u H Q) := fun pins s σ H x v vl vu lo hi sl Q I rx hs h1 h2 q => by
  rcases q with q | q
  · exact h pins s σ H x v vl vu lo hi sl Q I rx hs h1 h2 q
  · exact h' pins s σ H x v vl vu lo hi sl Q I rx hs h1 h2 q
abbrev FO := Env → R (Option Int)
def PostO (c : Cf) (G : Hp) (S : Env) (σ : St) (H : Hp) (Q : Option Int → Hp → Prop) : R (Option Int) → Prop
  | .ok b => ∀ G' H', Step G H G' H' → Q b H'
  | .exc x => PX c σ x
  | .fail => False
def RdO (c : Cf) (f : FO) : TO := fun σ H Q => ∃ G S, Rel c G S σ H ∧ PostO c G S σ H Q (f S)
abbrev PO' (X : Cx) (c : Cf) (e : Option Expr) (f : FO) : Prop := PO X e (RdO c f)
def oN : FO := fun _ => .ok none
def toI : D → R (Option Int)
  | .int i => .ok (some i)
  | _ => .fail
def oS (f : FE) : FO := fun S => f S >>= toI
theorem d_on : PO' X c none oN := poI po_none fun σ H Q ⟨G, S, rel, p⟩ => p G H (Step.refl rel.st.gh)
theorem d_os (he : PE' X c k1 e f) : PO' X c (some e) (oS f) := poI (po_some he) fun σ H Q ⟨G, S, rel, p⟩ => by
  refine rdE_go (g := toI) (Post := PostO c G S σ H Q) rel p (fun _ z => z) (fun z => z) fun d v G' H' s q p1 => ?_
  cases d with
  | int i => exact ⟨i, q.now.int, p1 G' H' s⟩
  | _ => exact p1.elim
def cutL {α : Type} (xs : List α) (lo hi : Option Int) : List α := List.take (HT.sIx xs.length xs.length hi - HT.sIx xs.length 0 lo) (List.drop (HT.sIx xs.length 0 lo) xs)
def slD (x : D) (lo hi : Option Int) : R D := match x with
  | .lst xs => .ok (.lst (cutL xs lo hi))
  | .tup xs => .ok (.tup (cutL xs lo hi))
  | .str z => if z.length ≤ sizeLine then .ok (.str (cutS z lo hi)) else .fail
  | _ => .fail
def eSl (f : FE) (l h : FO) : FE := fun S => f S >>= fun x => l S >>= fun lo => h S >>= fun hi => (slD x lo hi).nox
theorem RDs.cutL {G : Hp} {ds : List D} {vs : List V} (r : RDs k G ds vs) (lo hi : Option Int) : RDs k G (M.cutL ds lo hi) (cutV vs lo hi) := by
  unfold M.cutL cutV
  rw [← r.length]
  exact (r.drop _).take _
theorem rdO_go {f : FO} {G H : Hp} {S : Env} {σ : St} {Q : Option Int → Hp → Prop} {β : Type} {g : Option Int → R β} {Post : R β → Prop} (r : Rel c G S σ H) (p : Post (f S >>= g))
    (hx : ∀ x, Post (.exc x) → PX c σ x) (hf : Post .fail → False) (k : ∀ d G' H', Step G H G' H' → Post (g d) → Q d H') : RdO c f σ H Q := by
  refine ⟨G, S, r, ?_⟩
  cases e : f S with
  | ok d => rw [e] at p; exact fun G' H' s => k d G' H' s p
  | exc x => rw [e] at p; exact hx x p
  | fail => rw [e] at p; exact hf p
theorem d_sl {lo hi : Option Expr} {fl fh : FO} {p2 : Pos} (hk : c.k.K = X.K) (he : PE' X c k1 e f) (hl : PO' X c lo fl) (hh : PO' X c hi fh) : PE' X c .st (.Subscript e (.Slice lo hi none p2) pos) (eSl f fl fh) :=
  peI (pe_slice (SlR.or sl_list (SlR.or sl_tupA sl_str)) he hl hh) fun σ H Q ⟨G, S, rel, p⟩ => by
    refine rdE_go (g := fun x => fl S >>= fun lo => fh S >>= fun hi => (slD x lo hi).nox) (Post := PostE c .st G S σ H Q) rel p (fun _ z => z) (fun z => z) fun d v G1 H1 s1 q1 p1 => ?_
    refine rdO_go (g := fun lo => fh S >>= fun hi => (slD d lo hi).nox) (Post := PostE c .st G S σ H Q) (rel.grow s1) p1 (fun _ z => z) (fun z => z) fun lo G2 H2 s2 p2 => ?_
    refine rdO_go (g := fun hi => (slD d lo hi).nox) (Post := PostE c .st G S σ H Q) ((rel.grow s1).grow s2) p2 (fun _ z => z) (fun z => z) fun hi G3 H3 s3 p3 => ?_
    have n := (q1.now.grow s2).grow s3
    have sp := (s1.trans s2).trans s3
    cases d with
    | lst xs =>
      obtain ⟨a, vs, rfl, ha, r⟩ := n.lst s3.gh
      exact .inl ⟨a, vs, rfl, SqL.of ha, fun p hp => p3 _ _ _ (sp.trans (Step.new s3.gh hp)) (.lst upd_same ((r.cutL lo hi).mono (Ex.new (s3.gh.free hp))))⟩
    | tup xs =>
      obtain ⟨a, vs, rfl, ha, r⟩ := n.tup
      refine .inr (.inl ⟨a, vs, rfl, hk ▸ s3.gh.sqT ha.t, fun z => ?_, fun _ p hp => p3 _ _ _ (sp.trans (Step.new s3.gh hp)) (.tup (SqU.of upd_same) ((r.cutL lo hi).mono (Ex.new (s3.gh.free hp))))⟩)
      have e1 : cutL xs lo hi = xs := by
        unfold cutL
        rw [r.length, z.1, z.2, List.drop_zero, Nat.sub_zero, ← r.length, List.take_length]
      have p3 : PostE c .st G S σ H Q (.ok (.tup (cutL xs lo hi))) := p3
      rw [e1] at p3
      exact p3 _ _ _ sp (.tup ha r)
    | str z =>
      obtain rfl := n.str
      have p3 : PostE c .st G S σ H Q (if z.length ≤ sizeLine then .ok (.str (cutS z lo hi)) else .fail : R D).nox := p3
      by_cases hz : z.length ≤ sizeLine
      · rw [if_pos hz] at p3
        exact .inr (.inr ⟨z, rfl, hz, p3 _ _ _ sp (.str _)⟩)
      · rw [if_neg hz] at p3; exact p3.elim
    | _ => exact p3.elim
theorem setF_go {i : Nat} {Dn : Ends} {σ : St} {H : Hp} (q : RdS c fr [i] (sSet i f) Dn σ H) : RdE c .fr f σ H fun x H1 => gName i x σ H1 Dn.nx := by
  obtain ⟨G, S, rel, p⟩ := q
  refine rdE_go (g := fun d => .ok (Fl.nx, S.set i (some ⟨false, d⟩))) (Post := PostS c fr [i] G S σ H Dn) rel p (fun _ z => z _) (fun z => z) fun d v G' H' sp q p1 => ?_
  obtain ⟨a, o, rfl, hg, hn, ha, ct⟩ := q
  have sp2 : Step G H (upd G' a o) H' := sp.frz ha hn hg
  exact p1 _ _ H' sp2.g ((rel.grow sp2).setS i ((ct.mono (Ex.new hg)).rd upd_same)) ((Frm.step (as := []) rel sp2).trans (Frm.set i _ _))
theorem s_lcZ (i : Nat) {py spos : Pos} {tg elt iter : Expr} {t : FT} {ifs : List Expr} {scope : Scope} (own : List (Str × Nat)) {ki gs : List Nat} {fi : FI} {ga : FG} {fe : FE} (hc : X.calm = true) (hN : X.N.Nodup) (hi : PI' X c ki tg iter fi) (ok : BlkOk X.N X.env.scope scope own)
    (hg : ∀ (s : Shared) (H : Hp) (C : Addr) (cl : List (Str × Addr)) (fp : List Addr), PG' (X.blk s H scope (compEnvC scope cl C X.env) fp) c.nx gs tg ga) (ht : ∀ (s : Shared) (H : Hp) (C : Addr) (cl : List (Str × Addr)) (fp : List Addr), PTs' (X.blk s H scope (compEnvC scope cl C X.env) fp) c.nx ifs t)
    (he : ∀ (s : Shared) (H : Hp) (C : Addr) (cl : List (Str × Addr)) (fp : List Addr), PE' (X.blk s H scope (compEnvC scope cl C X.env) fp) c.nx .st elt fe) (hy : X.N[i]? = some y := by rfl) (hyl : X.env.scope.names.lookup y = some .local := by rfl)
    (hsw : swapsWith (.ListComp elt [⟨tg, iter, ifs, 0⟩] scope pos) (some (.Name y py)) spos.line X.env = pure true := by exact sw_true rfl rfl rfl (by decide +kernel)) (hgs : ∀ i, i ∈ gs → i ∈ own.map (·.2) := by decide) (hs : ∀ x, foldedSetIterable iter X.env x = pure x := by intro _; rfl) :
    PS' X c fr [i] (.Assign [.Name y py] (.ListComp elt [⟨tg, iter, ifs, 0⟩] scope pos) spos) (sSet i (lcE fi ga t fe (own.map (·.2)))) :=
  psI (ps_setLc hc hN hy hyl hsw hi ok hg ht he hs) fun Dn σ H q => lc_go (fun _ _ _ _ z => z) (fun _ _ _ z => z) (fun _ _ _ z => z) hgs (setF_go q)
theorem eV_exc {i : Nat} {S : Env} {x : Exc} : eV i S ≠ .exc x := by unfold eV; split <;> intro h <;> cases h
theorem eV_of {i : Nat} {S : Env} {d : D} (h : eV i S = .ok d) : S[i]? = some (some ⟨false, d⟩) := by
  unfold eV at h
  split at h
  · cases h; assumption
  · cases h
def IpI (X : Cx) (op : Operator) (o : D → D → R D) : Prop := ∃ gf : Int → Int → Int, PIp X op (ipI gf) ∧ ∀ x y d, o x y = .ok d → (∀ i j, x = .int i → y = .int j → d = .int (gf i j))
theorem i_add : IpI X .Add addD := ⟨_, ip_add, fun x y d h i j e1 e2 => by subst e1; subst e2; simp only [addD] at h; cases h; rfl⟩
def bothI : D → D → Bool
  | .int _, .int _ => true
  | _, _ => false
def sAugI (i : Nat) (o : D → D → R D) (f : FE) : FS := fun S => eV i S >>= fun x => f S >>= fun y => if bothI x y then (o x y).nox >>= fun z => .ok (.nx, S.set i (some ⟨false, z⟩)) else .fail
theorem s_aug (i : Nat) {op : Operator} {oo : D → D → R D} (ho : IpI X op oo) (hN : X.N.Nodup) (he : PE' X c k1 e f) (hi : X.N[i]? = some x := by rfl) (hx : Loc X.env.scope x := by first | exact Or.inl rfl | exact Or.inr rfl) (hf : X.fn x = true ∨ X.env.scope.names.lookup x = some .local := by first | exact .inl rfl | exact .inr rfl) :
    PS' X c fr [i] (.AugAssign (.Name x p') op e pos) (sAugI i oo f) := by
  obtain ⟨gf, h1, h2⟩ := ho
  refine psI (ps_aug hN hi hx he h1 hf) fun Dn σ H ⟨G, S, rel, p⟩ => ?_
  have p : PostS c fr [i] G S σ H Dn (eV i S >>= fun x => f S >>= fun y => if bothI x y then (oo x y).nox >>= fun z => .ok (.nx, S.set i (some ⟨false, z⟩)) else .fail) := p
  cases e0 : eV i S with
  | exc x => exact absurd e0 eV_exc
  | fail => rw [e0] at p; exact p.elim
  | ok d =>
    rw [e0, R.ok_bind] at p
    obtain ⟨v, es, rv⟩ := rel.fz i d (eV_of e0)
    refine ⟨v, es, ?_⟩
    refine rdE_go (Post := PostS c fr [i] G S σ H Dn) rel p (fun _ z => z _) (fun z => z) fun d2 v2 G' H' sp q p1 => ?_
    by_cases hb : bothI d d2 = true
    · rw [if_pos hb] at p1
      cases d <;> first | (simp [bothI] at hb; done) | skip
      cases d2 <;> first | (simp [bothI] at hb; done) | skip
      rename_i a1 a2
      cases rv
      obtain rfl := q.now.int
      cases e1 : oo (.int a1) (.int a2) with
      | exc x => rw [e1] at p1; exact p1.elim
      | fail => rw [e1] at p1; exact p1.elim
      | ok z =>
        rw [e1] at p1
        have := h2 _ _ _ e1 a1 a2 rfl rfl
        subst this
        exact ⟨a1, a2, rfl, rfl, p1 G' _ H' sp.g ((rel.grow sp).setS i (.int _)) ((Frm.step (as := []) rel sp).trans (Frm.set i _ _))⟩
    · rw [if_neg hb] at p1; exact p1.elim
def putS (S : Env) : List Nat → List D → Env
  | i :: is, d :: ds => putS (S.set i (some ⟨false, d⟩)) is ds
  | _, _ => S
def sPar (is : List Nat) (fa : FA) : FS := fun S => fa S >>= fun ds => if ds.length = is.length then .ok (.nx, putS S is ds) else .fail
theorem s_par3 (i j l : Nat) {z : Str} {cc : Expr} {fa : FA} {px py pz pt pt2 : Pos} {kt kk : Nat} (hN : X.N.Nodup) (ha : PA' X c false [a, b, cc] fa) (hi : X.N[i]? = some x := by rfl) (hj : X.N[j]? = some y := by rfl) (hl : X.N[l]? = some z := by rfl) (hij : i ≠ j := by decide) (hil : i ≠ l := by decide) (hjl : j ≠ l := by decide)
    (hx : X.env.scope.names.lookup x = some .local := by rfl) (hy : X.env.scope.names.lookup y = some .local := by rfl) (hz : X.env.scope.names.lookup z = some .local := by rfl)
    (hc : X.calm = true := by rfl) (hsw : swappedStores [.Tuple [.Name x px, .Name y py, .Name z pz] kt pt] (.Tuple [a, b, cc] kk pt2) X.env = pure (some [x, y, z]) := by rfl) (hs : swapsWithSole [.Tuple [.Name x px, .Name y py, .Name z pz] kt pt] (.Tuple [a, b, cc] kk pt2) pos.line X.env = pure false := by rfl) :
    PS' X c fr [i, j, l] (.Assign [.Tuple [.Name x px, .Name y py, .Name z pz] kt pt] (.Tuple [a, b, cc] kk pt2) pos) (sPar [i, j, l] fa) :=
  psI (ps_par3 hc hN hi hj hl hij hil hjl hx hy hz ha hsw hs) fun Dn σ H ⟨G, S, rel, p⟩ => by
    refine rdA_go (g := fun ds => if ds.length = [i, j, l].length then .ok (Fl.nx, putS S [i, j, l] ds) else .fail) (Post := PostS c fr [i, j, l] G S σ H Dn) rel p (fun _ z => z _) (fun z => z) fun ds vs G' H' sp q p1 => ?_
    have q : RDs c.k G' ds vs := q
    rcases q with _ | ⟨r1, _ | ⟨r2, _ | ⟨r3, _ | ⟨r4, r5⟩⟩⟩⟩
    · exact p1.elim
    · exact p1.elim
    · exact p1.elim
    · exact ⟨_, _, _, rfl, p1 G' _ H' sp.g ((((rel.grow sp).setS i r1).setS j r2).setS l r3) ((Frm.step (as := []) rel sp).trans ((Frm.set i _ _).trans ((Frm.set j _ _).trans (Frm.set l _ _))))⟩
    · simp only [List.length_cons, List.length_nil] at p1; rw [if_neg (by omega)] at p1; exact p1.elim
end
end M
set_option Elab.async false
set_option linter.all false
set_option maxRecDepth 100000
set_option maxHeartbeats 4000000
namespace M
open PySem L2
section
variable {τ κ : Type}
def freshSet (w : World) : Obj := { cls := .type "set", dict := none, data := .set #[] 0 (.fresh 0 0 (!w.params.followText "set-order")) }
structure Fam (P : Program) (w : World) (K : PySem.W.Frag) (τ κ : Type) where
  ob : τ → Addr → HO
  t0 : τ
  pre : τ → V → κ → Hp → Prop
  post : τ → V → κ → τ → Prop
  new : ∀ (H : Hp) (h : Heap) (a : Addr), h.get? a = some (freshSet w) → ObjOk P w H h a (ob t0 a)
  add : ∀ (X : Cx), X.prog = P → X.w = w → X.K = K → X.A.units + 64 < cLine → ∀ (pins : List (Addr × Obj)) (s : Shared) (σ : L2.St) (H : Hp) (S : Addr) (t : τ) (y : V) (kk : κ) (u : Value) (Q : Value → Shared → Prop) (E : Value → Shared → Prop), Inv X pins σ H s → H S = some (ob t S) → RelV y u → pre t y kk H →
    (∀ t' s', post t y kk t' → Inv X pins σ (upd H S (ob t' S)) s' → Q .none s') → wpAny (model P w) X.A (call (.builtin "set.add") [.ref S, u]) Q E s
variable {X : Cx}
end
section
end
end M
set_option Elab.async false
set_option linter.all false
set_option maxRecDepth 100000
set_option maxHeartbeats 4000000
namespace M
open PySem L2
open AutoSeq1 (wpAny_loadPart')
end M
set_option Elab.async false
set_option linter.all false
set_option maxRecDepth 100000
set_option maxHeartbeats 4000000
namespace M
open PySem L2
def D.isObj (ci : Nat) : D → Bool
  | .obj c _ => c == ci
  | _ => false
structure Method (P : Program) (w : World) (K : PySem.W.Frag) (mg : Str → Option Value) (base : Heap) (k : Kn) (lv : Nat) (ci : Nat) (m : Str) (n : Nat) (fr : Bool) (den : List D → R D) : Prop where
  ex : ∃ (C f : Addr) (fd : FuncData) (ps nm : List Str), ps.length = n ∧ k.cl ci = some (C, nm) ∧ m ∉ nm ∧ Cls K C ∧ Meth K C m f ∧ FnOk P w K mg base CX0 lv f fd ps (SpF k fr n den) ∧ Binds K fd ps []
structure MakeK (P : Program) (w : World) (K : PySem.W.Frag) (mg : Str → Option Value) (base : Heap) (k : Kn) (lv : Nat) (x : Str) (ci n : Nat) (ks : List Str) (den : List D → R D) : Prop where
  ex : ∃ (C f : Addr) (fd : FuncData) (ps nm : List Str) (g : List Value → List Value → List Value), k.cl ci = some (C, nm) ∧ Mk K C f ∧ FnOk P w K mg base CX0 lv f fd ps (SpN k ci (n + ks.length + 1) den) ∧ mg x = some (.ref C) ∧ KBn K fd ps (n + 1) ks g (fun vs zs => vs ++ zs)
structure Maker (P : Program) (w : World) (K : PySem.W.Frag) (mg : Str → Option Value) (base : Heap) (k : Kn) (lv : Nat) (x : Str) (ci n : Nat) (den : List D → R D) : Prop where
  ex : ∃ (C f : Addr) (fd : FuncData) (ps : List Str) (nm : List Str), ps.length = n + 1 ∧ k.cl ci = some (C, nm) ∧ Mk K C f ∧ FnOk P w K mg base CX0 lv f fd ps (SpN k ci (n + 1) den) ∧ mg x = some (.ref C) ∧ Binds K fd ps []
structure Prope (P : Program) (w : World) (K : PySem.W.Frag) (mg : Str → Option Value) (base : Heap) (k : Kn) (lv : Nat) (ci : Nat) (m : Str) (fr : Bool) (den : List D → R D) : Prop where
  ex : ∃ (C p f : Addr) (fd : FuncData) (ps nm : List Str), ps.length = 1 ∧ k.cl ci = some (C, nm) ∧ Cls K C ∧ PropOf K C m p f ∧ FnOk P w K mg base CX0 lv f fd ps (SpF k fr 1 den) ∧ Binds K fd ps []
section
variable {X : Cx} {c : Cf} {k : Kn} {kd k1 k2 k3 : Kd} {a b e o : Expr} {f g h : FE} {pos apos cpos p' : Pos} {fr : Bool} {x y : Str} {den : List D → R D}
def eM (ci : Nat) (den : List D → R D) (f : FE) (fa : FA) : FE := fun S => f S >>= fun o => if o.isObj ci then fa S >>= fun ds => (den (o :: ds)).nox else .fail
def eP (ci : Nat) (den : List D → R D) (f : FE) : FE := eM ci den f fun _ => .ok []
def fApp (fa fk : FA) : FA := fun S => fa S >>= fun as => fk S >>= fun bs => .ok (as ++ bs)
structure ClsT (K : PySem.W.Frag) (k : Kn) (ci : Nat) : Prop where
  ex : ∃ C nm, k.cl ci = some (C, nm) ∧ Cls K C ∧ PySem.W.findIn K (.ref C) "__class__" = some (some (.builtin "object.__class__")) ∧ PySem.W.specialIn K (.builtin "object.__class__") "__get__" = some (some (.builtin "getset_descriptor.__get__")) ∧
    PySem.W.takesIn K (.builtin "object.__class__") = some true ∧ PySem.W.mroIn K C (.type "object") = some true
theorem d_callS {n : Nat} {p : Pos} {es : List Expr} {fa : FA} (F : Fn0 X c.k x n false den) (ha : PA' X c false (e :: es) fa) (hl : Len n fa) (hg : Gl X x := by rfl) (hdb : (x == ("__debug__" : Str)) = false := by decide)
    (hs : starEach (e :: es) X.env = (false, eval e X.env) :: starEach es X.env := by rfl) (hs2 : ((backTo pos (starEach es X.env)).any fun x => x.1) = false := by rfl) : PE' X c .st (.Call (.Name x p) (e :: es) [] pos) (eC den fa) := d_call F ha hl hg hdb hs hs2
end
end M
set_option Elab.async false
set_option linter.all false
set_option maxRecDepth 100000
set_option maxHeartbeats 4000000
namespace M
open PySem L2
def Ok {α : Type} (r : R α) (Q : α → Prop) : Prop := ∃ a, r = .ok a ∧ Q a
section
variable {α β : Type} {Q : α → Prop} {S : Env}
theorem Ok.mono {r : R α} {P : α → Prop} (h : Ok r P) (k : ∀ a, P a → Q a) : Ok r Q := by obtain ⟨a, e, p⟩ := h; exact ⟨a, e, k a p⟩
theorem ok_ok {a : α} : Ok (.ok a) Q ↔ Q a := ⟨fun ⟨_, e, q⟩ => (by cases e; exact q), fun q => ⟨a, rfl, q⟩⟩
theorem ok_bind {r : R β} {f : β → R α} : Ok (r >>= f) Q ↔ Ok r fun b => Ok (f b) Q := by
  cases r with
  | ok b => rw [ok_ok]; exact Iff.rfl
  | exc x => exact ⟨fun ⟨_, e, _⟩ => (nomatch e), fun ⟨_, e, _⟩ => (nomatch e)⟩
  | fail => exact ⟨fun ⟨_, e, _⟩ => (nomatch e), fun ⟨_, e, _⟩ => (nomatch e)⟩
theorem ok_nox {r : R α} : Ok r.nox Q ↔ Ok r Q := by
  cases r with
  | ok b => exact Iff.rfl
  | exc x => exact ⟨fun ⟨_, e, _⟩ => (nomatch e), fun ⟨_, e, _⟩ => (nomatch e)⟩
  | fail => exact Iff.rfl
theorem ok_if {c : Prop} [Decidable c] {a : R α} : Ok (if c then a else .fail) Q ↔ c ∧ Ok a Q := by
  by_cases h : c
  · rw [if_pos h]; exact ⟨fun z => ⟨h, z⟩, fun z => z.2⟩
  · rw [if_neg h]; exact ⟨fun ⟨_, e, _⟩ => (nomatch e), fun z => absurd z.1 h⟩
theorem Ok.eq {r : R α} {a : α} (h : Ok r fun x => x = a) : r = .ok a := by obtain ⟨x, e, rfl⟩ := h; exact e
end
section
variable {Q : D → Prop} {QB : Bool → Prop} {QL : List D → Prop} {QE : Env → Prop} {QS : Fl × Env → Prop} {QO : Option Int → Prop} {S : Env} {f g h : FE} {t u : FT} {fa : FA} {s r : FS} {i j : Nat} {d x y : D}
theorem k_I {i : Int} : Ok (eI i S) Q ↔ Q (.int i) := ok_ok
theorem k_S {i : Str} : Ok (eS i S) Q ↔ Q (.str i) := ok_ok
theorem k_B {i : Bool} : Ok (eB i S) Q ↔ Q (.bl i) := ok_ok
theorem k_N : Ok (eN S) Q ↔ Q .non := ok_ok
theorem k_G : Ok (eG d S) Q ↔ Q d := ok_ok
theorem k_Y {n : String} : Ok (eY n S) Q ↔ Q (.ty n) := ok_ok
def get0 (i : Nat) (S : Env) (Q : D → Prop) : Prop := match S[i]? with | some (some ⟨false, d⟩) => Q d | _ => False
def getA (i : Nat) (S : Env) (Q : D → Prop) : Prop := match S[i]? with | some (some ⟨_, d⟩) => Q d | _ => False
def get1 (i : Nat) (S : Env) (Q : D → Prop) : Prop := match S[i]? with | some (some ⟨true, d⟩) => Q d | _ => False
theorem ok_fail {α : Type} {Q : α → Prop} : Ok (.fail : R α) Q ↔ False := ⟨fun ⟨_, e, _⟩ => (nomatch e), False.elim⟩
theorem k_V : Ok (eV i S) Q ↔ get0 i S Q := by
  unfold eV get0
  cases S[i]? with
  | none => exact ok_fail
  | some o =>
    cases o with
    | none => exact ok_fail
    | some sl => obtain ⟨b, d⟩ := sl; cases b <;> first | exact ok_ok | exact ok_fail
theorem k_W : Ok (eW i S) Q ↔ getA i S Q := by
  unfold eW getA
  cases S[i]? with
  | none => exact ok_fail
  | some o =>
    cases o with
    | none => exact ok_fail
    | some sl => obtain ⟨b, d⟩ := sl; cases b <;> first | exact ok_ok | exact ok_fail
theorem k_O : Ok (eO i S) Q ↔ get1 i S Q := by
  unfold eO get1
  cases S[i]? with
  | none => exact ok_fail
  | some o =>
    cases o with
    | none => exact ok_fail
    | some sl => obtain ⟨b, d⟩ := sl; cases b <;> first | exact ok_ok | exact ok_fail
theorem g0_z {b : List (Option Sl)} {Q : D → Prop} : get0 0 (some ⟨false, d⟩ :: b) Q ↔ Q d := Iff.rfl
theorem g0_s {a : Option Sl} {b : List (Option Sl)} {Q : D → Prop} : get0 (i + 1) (a :: b) Q ↔ get0 i b Q := Iff.rfl
theorem gA_z {o : Bool} {b : List (Option Sl)} {Q : D → Prop} : getA 0 (some ⟨o, d⟩ :: b) Q ↔ Q d := Iff.rfl
theorem gA_s {a : Option Sl} {b : List (Option Sl)} {Q : D → Prop} : getA (i + 1) (a :: b) Q ↔ getA i b Q := Iff.rfl
theorem g1_z {b : List (Option Sl)} {Q : D → Prop} : get1 0 (some ⟨true, d⟩ :: b) Q ↔ Q d := Iff.rfl
theorem g1_s {a : Option Sl} {b : List (Option Sl)} {Q : D → Prop} : get1 (i + 1) (a :: b) Q ↔ get1 i b Q := Iff.rfl
theorem k_1 {o : D → R D} : Ok (e1 o f S) Q ↔ Ok (f S) fun x => Ok (o x) Q := by unfold e1; simp only [ok_bind, ok_nox]
theorem k_2 {o : D → D → R D} : Ok (e2 o f g S) Q ↔ Ok (f S) fun x => Ok (g S) fun y => Ok (o x y) Q := by unfold e2; simp only [ok_bind, ok_nox]
theorem k_n : Ok (aN S) QL ↔ QL [] := ok_ok
theorem k_c : Ok (aC f fa S) QL ↔ Ok (f S) fun x => Ok (fa S) fun xs => QL (x :: xs) := by unfold aC; simp only [ok_bind, ok_ok]
theorem k_T : Ok (eT fa S) Q ↔ Ok (fa S) fun xs => xs.length ≤ sizeLine ∧ Q (.tup xs) := by unfold eT mkT; simp only [ok_bind, ok_if, ok_ok]
theorem k_L : Ok (eL fa S) Q ↔ Ok (fa S) fun xs => xs.length ≤ sizeLine ∧ Q (.lst xs) := by unfold eL mkL; simp only [ok_bind, ok_if, ok_ok]
theorem k_C {o : List D → R D} : Ok (eC o fa S) Q ↔ Ok (fa S) fun xs => Ok (o xs) Q := by unfold eC; simp only [ok_bind, ok_nox]
theorem k_f1 {o : D → R D} : Ok (f1 o [x]) Q ↔ Ok (o x) Q := Iff.rfl
theorem k_f2 {o : D → D → R D} : Ok (f2 o [x, y]) Q ↔ Ok (o x y) Q := Iff.rfl
theorem k_App {fk : FA} : Ok (fApp fa fk S) QL ↔ Ok (fa S) fun xs => Ok (fk S) fun ys => QL (xs ++ ys) := by unfold fApp; simp only [ok_bind, ok_ok]
theorem k_M {ci : Nat} {den : List D → R D} : Ok (eM ci den f fa S) Q ↔ Ok (f S) fun o => o.isObj ci = true ∧ Ok (fa S) fun ds => Ok (den (o :: ds)) Q := by unfold eM; simp only [ok_bind, ok_if, ok_nox]
theorem k_P {ci : Nat} {den : List D → R D} : Ok (eP ci den f S) Q ↔ Ok (f S) fun o => o.isObj ci = true ∧ Ok (den [o]) Q := by unfold eP; rw [k_M]; simp only [ok_ok]
theorem ok_b {α : Type} {Q : α → Prop} {b : Bool} {a c : R α} : Ok (if b = true then a else c) Q ↔ (b = true → Ok a Q) ∧ (b = false → Ok c Q) := by cases b <;> simp
theorem k_3 {o o' : D → D → R D} : Ok (e3 o o' f g h S) Q ↔ Ok (f S) fun x => Ok (g S) fun y => Ok (o x y) fun b => Ok (toB b) fun b => (b = true → Ok (h S) fun z => Ok (o' y z) Q) ∧ (b = false → Q (.bl false)) := by
  unfold e3
  simp only [ok_bind, ok_nox, ok_b, ok_ok]
theorem k_tB : Ok (tB' f S) QB ↔ Ok (f S) fun x => Ok (toB x) QB := by unfold tB'; simp only [ok_bind]
theorem k_tT : Ok (tT' f S) QB ↔ Ok (f S) fun x => Ok (truD x) QB := by unfold tT'; simp only [ok_bind]
theorem k_toB {b : Bool} : Ok (toB (.bl b)) QB ↔ QB b := ok_ok
theorem k_tNo : Ok (tNo t S) QB ↔ Ok (t S) fun b => QB (!b) := by unfold tNo; simp only [ok_bind, ok_ok]
theorem k_tA : Ok (tA t u S) QB ↔ Ok (t S) fun b => (b = true → Ok (u S) QB) ∧ (b = false → QB false) := by unfold tA; simp only [ok_bind, ok_b, ok_ok]
theorem k_tO : Ok (tO t u S) QB ↔ Ok (t S) fun b => (b = true → QB true) ∧ (b = false → Ok (u S) QB) := by unfold tO; simp only [ok_bind, ok_b, ok_ok]
theorem k_tY : Ok (tY S) QB ↔ QB true := ok_ok
theorem k_And : Ok (eAnd f g S) Q ↔ Ok (f S) fun x => Ok (toB x) fun b => (b = true → Ok (g S) Q) ∧ (b = false → Q (.bl false)) := by unfold eAnd; simp only [ok_bind, ok_b, ok_ok]
theorem k_Or : Ok (eOr f g S) Q ↔ Ok (f S) fun x => Ok (toB x) fun b => (b = true → Q (.bl true)) ∧ (b = false → Ok (g S) Q) := by unfold eOr; simp only [ok_bind, ok_b, ok_ok]
theorem k_Not : Ok (eNot f S) Q ↔ Ok (f S) fun x => Ok (toB x) fun b => Q (.bl (!b)) := by unfold eNot; simp only [ok_bind, ok_ok]
theorem k_eIf : Ok (eIf t f g S) Q ↔ Ok (t S) fun b => (b = true → Ok (f S) Q) ∧ (b = false → Ok (g S) Q) := by unfold eIf; simp only [ok_bind, ok_b]
theorem k_nil : Ok (sNil S) QS ↔ QS (.nx, S) := ok_ok
theorem k_seq : Ok (sSeq s r S) QS ↔ Ok (s S) fun z => match z.1 with | .nx => Ok (r z.2) QS | _ => QS z := by
  unfold sSeq
  rw [ok_bind]
  apply iff_of_eq
  congr 1
  funext z
  obtain ⟨fl, S'⟩ := z
  cases fl <;> simp [ok_ok]
theorem k_set : Ok (sSet i f S) QS ↔ Ok (f S) fun d => QS (.nx, S.set i (some ⟨false, d⟩)) := by unfold sSet; simp only [ok_bind, ok_ok]
theorem k_own : Ok (sOwn i f S) QS ↔ Ok (f S) fun d => QS (.nx, S.set i (some ⟨true, d⟩)) := by unfold sOwn; simp only [ok_bind, ok_ok]
theorem k_drop : Ok (sDrop f S) QS ↔ Ok (f S) fun d => QS (.nx, S) := by unfold sDrop; simp only [ok_bind, ok_ok]
theorem k_ret : Ok (sRet f S) QS ↔ Ok (f S) fun d => QS (.rt d, S) := by unfold sRet; simp only [ok_bind, ok_ok]
theorem k_retN : Ok (sRetN S) QS ↔ QS (.rt .non, S) := ok_ok
theorem k_retO : Ok (sRetO i S) QS ↔ get1 i S fun d => QS (.rt d, S) := by unfold sRetO; simp only [ok_bind, ok_ok, k_O]
theorem k_if : Ok (sIf t s r S) QS ↔ Ok (t S) fun b => (b = true → Ok (s S) QS) ∧ (b = false → Ok (r S) QS) := by unfold sIf; simp only [ok_bind, ok_b]
theorem k_fz : Ok (sFz i s S) QS ↔ Ok (s (fzS S i)) QS := Iff.rfl
theorem fz_z {b : Bool} {l : List (Option Sl)} : fzS (some ⟨b, d⟩ :: l) 0 = some ⟨false, d⟩ :: l := by cases b <;> rfl
theorem fz_s {a : Option Sl} {l : List (Option Sl)} : fzS (a :: l) (i + 1) = a :: fzS l i := by
  unfold fzS
  rw [List.getElem?_cons_succ]
  split <;> simp [*]
theorem k_gN : Ok (gN i d S) QE ↔ QE (S.set i (some ⟨false, d⟩)) := ok_ok
theorem k_gsN : Ok (gsN [] S) QE ↔ QE S := ok_ok
theorem k_gsC {ga : FG} {gr : FGs} {ds : List D} : Ok (gsC ga gr (d :: ds) S) QE ↔ Ok (ga d S) fun S1 => Ok (gr ds S1) QE := ok_bind
theorem k_gT {n : Nat} {gr : FGs} {ds : List D} : Ok (gT n gr (.tup ds) S) QE ↔ ds.length = n ∧ Ok (gr ds S) QE := ok_if
theorem k_asg {ga : FG} : Ok (sAsg ga f S) QS ↔ Ok (f S) fun d => Ok (ga d S) fun S1 => QS (.nx, S1) := by unfold sAsg; simp only [ok_bind, ok_nox, ok_ok]
theorem k_for {fi : FI} {ga : FG} : Ok (sFor fi ga s S) QS ↔ Ok (fi S) fun ds => Ok (forF ga s ds S) QS := ok_bind
theorem k_fnil {ga : FG} : Ok (forF ga s [] S) QS ↔ QS (.nx, S) := ok_ok
theorem k_fcons {ga : FG} {ds : List D} : Ok (forF ga s (d :: ds) S) QS ↔ Ok (ga d S) fun S1 => Ok (s S1) fun z => match z.1 with
    | .nx => Ok (forF ga s ds z.2) QS
    | .ct => Ok (forF ga s ds z.2) QS
    | .bk => QS (.nx, z.2)
    | .rt d => QS (.rt d, z.2) := by
  show Ok ((ga d S).nox >>= _) QS ↔ _
  rw [ok_bind, ok_nox]
  apply iff_of_eq
  congr 1
  funext S1
  refine propext ?_
  rw [ok_bind]
  apply iff_of_eq
  congr 1
  funext z
  obtain ⟨fl, S'⟩ := z
  cases fl <;> simp [ok_ok]
theorem for_inv {ga : FG} (P : Nat → Env → Prop) : ∀ (ds : List D) (n : Nat) (S : Env), P n S → (∀ i d S, ds[i]? = some d → P (n + i) S → Ok (ga d S) fun S1 => Ok (s S1) fun z => match z.1 with
    | .nx => P (n + i + 1) z.2
    | .ct => P (n + i + 1) z.2
    | .bk => QS (.nx, z.2)
    | .rt d => QS (.rt d, z.2)) → (∀ S, P (n + ds.length) S → QS (.nx, S)) → Ok (forF ga s ds S) QS
  | [], n, S, h, _, q => ok_ok.mpr (q S h)
  | d :: ds, n, S, h, k, q => by
    rw [k_fcons]
    refine (k 0 d S rfl h).mono fun S1 h1 => h1.mono fun z hz => ?_
    have next : ∀ S', P (n + 0 + 1) S' → Ok (forF ga s ds S') QS := fun S' hp => for_inv P ds (n + 1) S' hp (fun i d' S'' hi hp => by
      have := k (i + 1) d' S'' (by simpa using hi) (by rwa [show n + (i + 1) = n + 1 + i by omega])
      rwa [show n + (i + 1) + 1 = n + 1 + i + 1 by omega] at this) fun S'' h => q S'' (by rwa [List.length_cons, show n + (ds.length + 1) = n + 1 + ds.length by omega])
    obtain ⟨fl, S'⟩ := z
    cases fl with
    | nx => exact next S' hz
    | ct => exact next S' hz
    | bk => exact hz
    | rt d => exact hz
theorem k_app : Ok (sApp i f S) QS ↔ Ok (ownL i S) fun ds => Ok (f S) fun d => ds.length < sizeLine ∧ QS (.nx, S.set i (some ⟨true, .lst (ds ++ [d])⟩)) := by unfold sApp; simp only [ok_bind, ok_if, ok_ok]
theorem oL_z {l : List (Option Sl)} {ds : List D} : Ok (ownL 0 (some ⟨true, .lst ds⟩ :: l)) QL ↔ QL ds := ok_ok
theorem oL_s {a : Option Sl} {l : List (Option Sl)} : Ok (ownL (i + 1) (a :: l)) QL ↔ Ok (ownL i l) QL := Iff.rfl
theorem k_par {is : List Nat} : Ok (sPar is fa S) QS ↔ Ok (fa S) fun ds => ds.length = is.length ∧ QS (.nx, putS S is ds) := by unfold sPar; simp only [ok_bind, ok_if, ok_ok]
theorem k_run {n : Nat} {ds : List D} : Ok (runF false n s ds) Q ↔ Ok (s (startS n ds)) fun z => match z.1 with | .rt d => Q d | .nx => Q .non | _ => False := by
  unfold runF
  cases e : s (startS n ds) with
  | ok z =>
    rw [ok_ok]
    obtain ⟨fl, S'⟩ := z
    cases fl <;> simp [endF, ok_ok, ok_fail]
  | exc x => exact ⟨fun ⟨_, e, _⟩ => (nomatch e), fun ⟨_, e, _⟩ => (nomatch e)⟩
  | fail => exact ⟨fun ⟨_, e, _⟩ => (nomatch e), fun ⟨_, e, _⟩ => (nomatch e)⟩
theorem k_runN {n ci : Nat} {ds : List D} : Ok (runN n ci s ds) Q ↔ Ok (s (startN n ci ds)) fun z => match z.1 with | .nx => get1 0 z.2 Q | _ => False := by
  unfold runN
  cases e : s (startN n ci ds) with
  | ok z =>
    rw [ok_ok]
    obtain ⟨fl, S'⟩ := z
    cases fl with
    | nx =>
      show Ok (endN (.ok (.nx, S'))) Q ↔ get1 0 S' Q
      unfold endN get1
      dsimp only
      cases S'[0]? with
      | none => exact ok_fail
      | some o =>
        cases o with
        | none => exact ok_fail
        | some sl => obtain ⟨b, d⟩ := sl; cases b <;> first | exact ok_ok | exact ok_fail
    | _ => exact ok_fail
  | exc x => exact ⟨fun ⟨_, e, _⟩ => (nomatch e), fun ⟨_, e, _⟩ => (nomatch e)⟩
  | fail => exact ⟨fun ⟨_, e, _⟩ => (nomatch e), fun ⟨_, e, _⟩ => (nomatch e)⟩
theorem k_fld {ci : Nat} : Ok (sFldN ci i j f S) QS ↔ Ok (ownO ci i S) fun ds => Ok (f S) fun d => ds.length = j ∧ QS (.nx, S.set i (some ⟨true, .obj ci (ds ++ [d])⟩)) := by unfold sFldN; simp only [ok_bind, ok_if, ok_ok]
theorem oO_z {ci : Nat} {l : List (Option Sl)} {ds : List D} : Ok (ownO ci 0 (some ⟨true, .obj ci ds⟩ :: l)) QL ↔ QL ds := by
  show Ok (if ci = ci then _ else _) QL ↔ _
  rw [if_pos rfl]; exact ok_ok
theorem k_add {a b : Int} : Ok (addD (.int a) (.int b)) Q ↔ Q (.int (a + b)) := ok_ok
theorem k_addL {a b : List D} : Ok (addD (.lst a) (.lst b)) Q ↔ a.length + b.length ≤ sizeLine ∧ Q (.lst (a ++ b)) := by show Ok (if _ then _ else _) Q ↔ _; rw [ok_if, ok_ok]
theorem k_sub {a b : Int} : Ok (subD (.int a) (.int b)) Q ↔ Q (.int (a - b)) := ok_ok
theorem k_mul {a b : Int} : Ok (mulD (.int a) (.int b)) Q ↔ (CMul a b ∨ CMulX a b) ∧ Q (.int (a * b)) := by show Ok (if _ then _ else _) Q ↔ _; rw [ok_if, ok_ok]
theorem k_div {a b : Int} : Ok (fdivD (.int a) (.int b)) Q ↔ CDiv a b ∧ Q (.int (a / b)) := by show Ok (if _ then _ else _) Q ↔ _; rw [ok_if, ok_ok]
theorem k_mod {a b : Int} : Ok (modD (.int a) (.int b)) Q ↔ 0 < b ∧ Q (.int (a % b)) := by show Ok (if _ then _ else _) Q ↔ _; rw [ok_if, ok_ok]
theorem k_pow {a b : Int} : Ok (powD (.int a) (.int b)) Q ↔ CPow a b ∧ Q (.int (a ^ b.toNat)) := by show Ok (if _ then _ else _) Q ↔ _; rw [ok_if, ok_ok]
theorem k_neg {a : Int} : Ok (negD (.int a)) Q ↔ Q (.int (-a)) := ok_ok
theorem k_lt {a b : Int} : Ok (ltD (.int a) (.int b)) Q ↔ Q (.bl (decide (a < b))) := ok_ok
theorem k_le {a b : Int} : Ok (leD (.int a) (.int b)) Q ↔ Q (.bl (decide (a ≤ b))) := ok_ok
theorem k_gt {a b : Int} : Ok (gtD (.int a) (.int b)) Q ↔ Q (.bl (decide (b < a))) := ok_ok
theorem k_ge {a b : Int} : Ok (geD (.int a) (.int b)) Q ↔ Q (.bl (decide (b ≤ a))) := ok_ok
theorem k_eqI {a b : Int} : Ok (eqD (.int a) (.int b)) Q ↔ Q (.bl (decide (a = b))) := by
  have e : eqD (.int a) (.int b) = .ok (.bl (decide (a = b))) := by
    unfold eqD; simp only [dok, deq, Bool.and_self, if_true]; rfl
  rw [e, ok_ok]
theorem k_neI {a b : Int} : Ok (neD (.int a) (.int b)) Q ↔ Q (.bl (!decide (a = b))) := by
  have e : neD (.int a) (.int b) = .ok (.bl (!decide (a = b))) := by
    unfold neD; simp only [dok, deq, Bool.and_self, if_true]; rfl
  rw [e, ok_ok]
theorem k_int {a : Int} : Ok (intD (.int a)) Q ↔ Q (.int a) := ok_ok
theorem k_intB {b : Bool} : Ok (intD (.bl b)) Q ↔ Q (.int (if b then 1 else 0)) := ok_ok
theorem k_abs {a : Int} : Ok (absD (.int a)) Q ↔ Q (.int (if a < 0 then -a else a)) := ok_ok
theorem k_lenL {a : List D} : Ok (lenD (.lst a)) Q ↔ Q (.int a.length) := ok_ok
theorem k_lenT {a : List D} : Ok (lenD (.tup a)) Q ↔ Q (.int a.length) := ok_ok
theorem k_lenC {a : List Int} : Ok (lenD (.scr a)) Q ↔ Q (.int a.length) := ok_ok
theorem k_tru {b : Bool} : Ok (truD (.bl b)) QB ↔ QB b := ok_ok
theorem k_tupL {a : List D} : Ok (tupD (.lst a)) Q ↔ Q (.tup a) := ok_ok
theorem k_tupT {a : List D} : Ok (tupD (.tup a)) Q ↔ Q (.tup a) := ok_ok
theorem k_fldD {ci j : Nat} {ds : List D} : Ok (fldD ci j (.obj ci ds)) Q ↔ ∃ d, ds[j]? = some d ∧ Q d := by
  show Ok (if ci = ci then _ else _) Q ↔ _
  rw [if_pos rfl]
  cases h : ds[j]? with
  | none => exact ⟨fun ⟨_, e, _⟩ => (nomatch e), fun ⟨_, e, _⟩ => (nomatch e)⟩
  | some d => exact ⟨fun q => ⟨d, rfl, ok_ok.mp q⟩, fun ⟨_, e, q⟩ => by cases e; exact ok_ok.mpr q⟩
theorem k_items_l {ds : List D} : Ok (itemsD (.lst ds)) QL ↔ QL ds := ok_ok
theorem k_items_t {ds : List D} : Ok (itemsD (.tup ds)) QL ↔ QL ds := ok_ok
theorem k_rng1 {j : Int} : Ok (rng1 [.int j]) QL ↔ (-(2 ^ 62) ≤ j ∧ j < 2 ^ 62) ∧ QL (rngL 0 j.toNat) := by show Ok (if _ then _ else _) QL ↔ _; rw [ok_if, ok_ok]
theorem k_ixL {xs : List D} {i : Int} : Ok (ixD (.lst xs) (.int i)) Q ↔ ∃ d, L2.atI xs i = some d ∧ Q d := by
  show Ok (match L2.atI xs i with | some d => .ok d | none => .fail) Q ↔ _
  cases L2.atI xs i with
  | none => exact ⟨fun ⟨_, e, _⟩ => (nomatch e), fun ⟨_, e, _⟩ => (nomatch e)⟩
  | some d => exact ⟨fun q => ⟨d, rfl, ok_ok.mp q⟩, fun ⟨_, e, q⟩ => by cases e; exact ok_ok.mpr q⟩
theorem k_ixT {xs : List D} {i : Int} : Ok (ixD (.tup xs) (.int i)) Q ↔ ∃ d, L2.atI xs i = some d ∧ Q d := by
  show Ok (match L2.atI xs i with | some d => .ok d | none => .fail) Q ↔ _
  cases L2.atI xs i with
  | none => exact ⟨fun ⟨_, e, _⟩ => (nomatch e), fun ⟨_, e, _⟩ => (nomatch e)⟩
  | some d => exact ⟨fun q => ⟨d, rfl, ok_ok.mp q⟩, fun ⟨_, e, q⟩ => by cases e; exact ok_ok.mpr q⟩
theorem k_ixC {xs : List Int} {i : Int} : Ok (ixD (.scr xs) (.int i)) Q ↔ ∃ d, L2.atI xs i = some d ∧ Q (.int d) := by
  show Ok (match L2.atI xs i with | some d => .ok (.int d) | none => .fail) Q ↔ _
  cases L2.atI xs i with
  | none => exact ⟨fun ⟨_, e, _⟩ => (nomatch e), fun ⟨_, e, _⟩ => (nomatch e)⟩
  | some d => exact ⟨fun q => ⟨d, rfl, ok_ok.mp q⟩, fun ⟨_, e, q⟩ => by cases e; exact ok_ok.mpr q⟩
end
theorem k_no {QS : Fl × Env → Prop} {S : Env} : Ok (sNo S) QS ↔ False := ok_fail
theorem k_guard {QS : Fl × Env → Prop} {S : Env} {t : FT} : Ok (sIf t sNo sNil S) QS ↔ Ok (t S) fun b => b = false ∧ QS (.nx, S) := by
  rw [k_if]
  apply iff_of_eq
  congr 1
  funext b
  cases b <;> simp [k_no, k_nil]
theorem seq_cut {QS : Fl × Env → Prop} {S : Env} {s r : FS} (P : Env → Prop) (h : Ok (s S) fun z => z.1 = .nx ∧ P z.2) (k : ∀ S', P S' → Ok (r S') QS) : Ok (sSeq s r S) QS := by
  rw [k_seq]
  refine h.mono fun z hz => ?_
  obtain ⟨fl, S'⟩ := z
  obtain ⟨rfl, hp⟩ := hz
  exact k S' hp
theorem mul_r {i j : Int} (h1 : -(2 ^ 64) < j) (h2 : j < 2 ^ 64) : CMul i j ∨ CMulX i j := .inl (.inr ⟨h1, h2⟩)
theorem mul_l {i j : Int} (h1 : -(2 ^ 64) < i) (h2 : i < 2 ^ 64) : CMul i j ∨ CMulX i j := .inl (.inl ⟨h1, h2⟩)
theorem div_c {i j : Int} (h1 : 0 < j) (h2 : j < 1073741824) : CDiv i j := ⟨h1, h2⟩
theorem atI_mem {α : Type} {xs : List α} {i : Int} {a : α} (h : L2.atI xs i = some a) : a ∈ xs := by
  unfold L2.atI at h
  cases e : ixN xs.length i with
  | none => rw [e] at h; cases h
  | some n => rw [e] at h; exact List.mem_of_getElem? h
theorem atI_lt {α : Type} {xs : List α} {i : Int} (h0 : 0 ≤ i) (h : i < xs.length) : ∃ a, L2.atI xs i = some a := by
  have hi : i.toNat < xs.length := by omega
  refine ⟨xs[i.toNat], ?_⟩
  unfold L2.atI ixN
  rw [if_pos h0, if_pos h]
  exact List.getElem?_eq_getElem hi
theorem rngL_get {lo : Int} {n i : Nat} {d : D} (h : (rngL lo n)[i]? = some d) : i < n ∧ d = .int (lo + i) := by
  unfold rngL at h
  rw [List.getElem?_map] at h
  by_cases hi : i < n
  · rw [List.getElem?_range hi] at h
    cases h
    exact ⟨hi, rfl⟩
  · rw [List.getElem?_eq_none (by simp; omega)] at h
    cases h
theorem rngL_len {lo : Int} {n : Nat} : (rngL lo n).length = n := by unfold rngL; simp
theorem size_ge : (1048576 : Nat) ≤ sizeLine := by decide
end M
namespace M
open PySem L2
theorem lc_typed {α : Type} {ga : FG} {t : FT} {fe : FE} {S : Env} (f : α → D) (p : α → Bool) (g : α → D) : ∀ (xs : List α), (∀ x ∈ xs, Ok (ga (f x) S) fun S1 => Ok (t S1) fun b => b = p x ∧ (p x = true → Ok (fe S1) fun y => y = g x)) → lcF ga t fe S (xs.map f) = .ok ((xs.filter p).map g)
  | [], _ => rfl
  | x :: xs, h => by
    have ih := lc_typed f p g xs fun y hy => h y (List.mem_cons_of_mem _ hy)
    obtain ⟨S1, e1, b, e2, rfl, k⟩ := h x (List.mem_cons_self ..)
    show ((ga (f x) S).nox >>= fun S1 => (t S1).nox >>= fun b => if b then (fe S1).nox >>= fun y => lcF ga t fe S (xs.map f) >>= fun ys => .ok (y :: ys) else lcF ga t fe S (xs.map f)) = _
    rw [e1, R.nox_ok, R.ok_bind, e2, R.nox_ok, R.ok_bind, ih]
    by_cases hp : p x = true
    · obtain ⟨y, e3, rfl⟩ := k hp
      rw [if_pos hp, e3, R.nox_ok, R.ok_bind, R.ok_bind, List.filter_cons_of_pos hp, List.map_cons]
    · rw [if_neg hp, List.filter_cons_of_neg hp]
theorem k_lc {fi : FI} {ga : FG} {t : FT} {fe : FE} {vs : List Nat} {S : Env} {Q : D → Prop} : Ok (lcE fi ga t fe vs S) Q ↔ Ok (fi S) fun ds => ds.length ≤ sizeLine ∧ Ok (lcF ga t fe (wipeS S vs) ds) fun ys => Q (.lst ys) := by
  unfold lcE; simp only [ok_bind, ok_if, ok_ok]
theorem k_lcT {α : Type} {fi : FI} {ga : FG} {t : FT} {fe : FE} {vs : List Nat} {S : Env} {Q : D → Prop} (f : α → D) (p : α → Bool) (g : α → D) (xs : List α) (hi : Ok (fi S) fun ds => ds = xs.map f) (hl : xs.length ≤ sizeLine)
    (h : ∀ x ∈ xs, Ok (ga (f x) (wipeS S vs)) fun S1 => Ok (t S1) fun b => b = p x ∧ (p x = true → Ok (fe S1) fun y => y = g x)) (q : Q (.lst ((xs.filter p).map g))) : Ok (lcE fi ga t fe vs S) Q := by
  rw [k_lc]
  obtain ⟨ds, e, rfl⟩ := hi
  refine ⟨_, e, by rwa [List.length_map], ?_⟩
  rw [lc_typed f p g xs h, ok_ok]
  exact q
theorem filter_true {α : Type} {p : α → Bool} : ∀ {xs : List α}, (∀ x ∈ xs, p x = true) → xs.filter p = xs
  | [], _ => rfl
  | x :: xs, h => by rw [List.filter_cons_of_pos (h x (List.mem_cons_self ..)), filter_true fun y hy => h y (List.mem_cons_of_mem _ hy)]
theorem k_lcM {α : Type} {fi : FI} {ga : FG} {fe : FE} {vs : List Nat} {S : Env} {Q : D → Prop} (f : α → D) (g : α → D) (xs : List α) (hi : Ok (fi S) fun ds => ds = xs.map f) (hl : xs.length ≤ sizeLine)
    (h : ∀ x ∈ xs, Ok (ga (f x) (wipeS S vs)) fun S1 => Ok (fe S1) fun y => y = g x) (q : Q (.lst (xs.map g))) : Ok (lcE fi ga tY fe vs S) Q := by
  refine k_lcT f (fun _ => true) g xs hi hl (fun x hx => (h x hx).mono fun S1 h1 => ok_ok.mpr ⟨rfl, fun _ => h1⟩) ?_
  rw [filter_true fun _ _ => rfl]
  exact q
theorem asB_mapf {α : Type} (f : α → Bool) : ∀ xs : List α, asB (xs.map fun x => .bl (f x)) = some (xs.map f)
  | [] => rfl
  | x :: xs => by simp only [List.map_cons, asB, asB_mapf f xs, Option.map_some]
theorem k_any {α : Type} (f : α → Bool) (xs : List α) {Q : D → Prop} : Ok (anyD (.lst (xs.map fun x => .bl (f x)))) Q ↔ Q (.bl (xs.any f)) := by
  have e : anyD (.lst (xs.map fun x => .bl (f x))) = .ok (.bl (xs.any f)) := by
    simp only [anyD, asB_mapf]
    rw [List.any_map]; rfl
  rw [e, ok_ok]
theorem k_all {α : Type} (f : α → Bool) (xs : List α) {Q : D → Prop} : Ok (allD (.lst (xs.map fun x => .bl (f x)))) Q ↔ Q (.bl (xs.all f)) := by
  have e : allD (.lst (xs.map fun x => .bl (f x))) = .ok (.bl (xs.all f)) := by
    simp only [allD, asB_mapf]
    rw [List.all_map]; rfl
  rw [e, ok_ok]
theorem for_typed {α : Type} {ga : FG} {s : FS} {QS : Fl × Env → Prop} (f : α → D) (P : List α → Env → Prop) (xs : List α) (S : Env) (h0 : P [] S)
    (h : ∀ (done : List α) (x : α) (rest : List α) (S : Env), xs = done ++ x :: rest → P done S → Ok (ga (f x) S) fun S1 => Ok (s S1) fun z => match z.1 with
      | .nx => P (done ++ [x]) z.2
      | .ct => P (done ++ [x]) z.2
      | .bk => QS (.nx, z.2)
      | .rt d => QS (.rt d, z.2)) (q : ∀ S, P xs S → QS (.nx, S)) : Ok (forF ga s (xs.map f) S) QS := by
  suffices H : ∀ (rest done : List α) (S : Env), xs = done ++ rest → P done S → Ok (forF ga s (rest.map f) S) QS from H xs [] S rfl h0
  intro rest
  induction rest with
  | nil => intro done S e hp; rw [List.append_nil] at e; subst e; exact ok_ok.mpr (q S hp)
  | cons x rest ih =>
    intro done S e hp
    rw [List.map_cons, k_fcons]
    refine (h done x rest S e hp).mono fun S1 h1 => h1.mono fun z hz => ?_
    obtain ⟨fl, S'⟩ := z
    have e' : xs = (done ++ [x]) ++ rest := by rw [e]; simp
    cases fl with
    | nx => exact ih (done ++ [x]) S' e' hz
    | ct => exact ih (done ++ [x]) S' e' hz
    | bk => exact hz
    | rt d => exact hz
end M
set_option Elab.async false
set_option linter.all false
set_option maxRecDepth 100000
set_option maxHeartbeats 4000000
namespace M
open PySem L2
def isStrD : D → Bool
  | .str _ => true
  | _ => false
def okCD (ds : List D) : Bool := decide (ds.length < 2) || (decide (3 < ds.length) || ds.all isStrD)
mutual
def dB (K : PySem.W.Frag) : D → Value → Bool
  | .non, .none => true
  | .bl b, .bool c => b == c
  | .int i, .int j _ => decide (i = j)
  | .str x, .str y _ => decide (x = y)
  | .tup ds, .ref a => (match K.lookup a with
    | some ⟨.type c, _, .seq its _, _⟩ => decide (c = "tuple") && (decide (its.size ≤ sizeLine) && (okCD ds && dsB K ds its.toList))
    | _ => false)
  | _, _ => false
termination_by structural d => d
def dsB (K : PySem.W.Frag) : List D → List Value → Bool
  | [], [] => true
  | d :: ds, u :: us => dB K d u && dsB K ds us
  | _, _ => false
termination_by structural ds => ds
end
theorem okCD_ok {k : Kn} {G : Hp} {ds : List D} {vs : List V} (r : RDs k G ds vs) (h : okCD ds = true) : okC vs = true := by
  have e : ∀ {ds : List D} {vs : List V}, RDs k G ds vs → ds.all isStrD = true → (vs.all fun x => match x with | .str _ => true | _ => false) = true := by
    intro ds vs r h
    induction ds generalizing vs with
    | nil => cases r; rfl
    | cons d ds ih =>
      cases r with
      | cons a b =>
        rw [List.all_cons, Bool.and_eq_true] at h
        rw [List.all_cons, ih b h.2, Bool.and_true]
        have h1 := h.1
        unfold isStrD at h1
        split at h1
        · cases a; rfl
        · cases h1
  unfold okCD at h
  unfold okC
  rw [← r.length]
  simp only [Bool.or_eq_true, decide_eq_true_eq] at h ⊢
  rcases h with h | h | h
  · exact .inl h
  · exact .inr (.inl h)
  · exact .inr (.inr (e r h))
section
variable {K : PySem.W.Frag} {cl : Nat → Option (Addr × List Str)}
mutual
theorem dB_ok : ∀ {d : D} {u : Value}, dB K d u = true → ∃ v, RelV v u ∧ ∀ G, RD ⟨K, cl⟩ G d v
  | .non, .none, _ => ⟨.non, rfl, fun _ => .non⟩
  | .bl b, .bool c, h => by simp only [dB, beq_iff_eq] at h; subst h; exact ⟨.bl b, rfl, fun _ => .bl _⟩
  | .int i, .int j t, h => by simp only [dB, decide_eq_true_eq] at h; subst h; exact ⟨.int i, ⟨t, rfl⟩, fun _ => .int _⟩
  | .str x, .str y t, h => by simp only [dB, decide_eq_true_eq] at h; subst h; exact ⟨.str x, ⟨t, rfl⟩, fun _ => .str _⟩
  | .tup ds, .ref a, h => by
    simp only [dB] at h
    split at h
    · rename_i c od its n sl e
      simp only [Bool.and_eq_true, decide_eq_true_eq] at h
      obtain ⟨h1, h2, h4, h3⟩ := h
      obtain ⟨vs, r1, r2⟩ := dsB_ok h3
      exact ⟨.ref a, rfl, fun G => .tup (.inr ⟨_, its, n, e, congrArg Value.type h1, rfl, h2, r1, okCD_ok (r2 G) h4⟩) (r2 G)⟩
    · cases h
theorem dsB_ok : ∀ {ds : List D} {us : List Value}, dsB K ds us = true → ∃ vs, Vals vs us ∧ ∀ G, RDs ⟨K, cl⟩ G ds vs
  | [], [], _ => ⟨[], .nil, fun _ => .nil⟩
  | d :: ds, u :: us, h => by
    simp only [dsB, Bool.and_eq_true] at h
    obtain ⟨v, r1, r2⟩ := dB_ok h.1
    obtain ⟨vs, q1, q2⟩ := dsB_ok h.2
    exact ⟨v :: vs, .cons r1 q1, fun G => .cons (r2 G) (q2 G)⟩
end
end
def gB (K : PySem.W.Frag) (q : Str × D) : Bool := match PySem.W.nsIn K mainGlobals q.1 with
  | some (some u) => dB K q.2 u
  | _ => false
theorem gB_ok {K : PySem.W.Frag} {h : Heap} {mg : Str → Option Value} {cl : Nat → Option (Addr × List Str)} {x : Str} {d : D} (X : K.In h) (G : h.Ns mainGlobals mg) (c : gB K (x, d) = true) : Gc mg ⟨K, cl⟩ x d := by
  unfold gB at c
  split at c
  · rename_i u e
    obtain ⟨v, r1, r2⟩ := dB_ok (cl := cl) c
    exact ⟨v, u, PySem.W.mg_of X G e, r1, r2⟩
  · cases c
theorem gcls_ok {K : PySem.W.Frag} {mg : Str → Option Value} {cl : Nat → Option (Addr × List Str)} {x : Str} {ci : Nat} {C : Addr} {nm : List Str} (h : mg x = some (.ref C)) (hc : cl ci = some (C, nm)) : Gc mg ⟨K, cl⟩ x (.cls ci) :=
  ⟨.ref C, .ref C, h, rfl, fun _ => .cls hc⟩
def tyB (K : PySem.W.Frag) (x : Str) : Bool := He.eqO (PySem.W.findIn K (.ref (He.ga K x)) "__class__") (some (some (.builtin "object.__class__"))) && (He.eqO (PySem.W.specialIn K (.builtin "object.__class__") "__get__") (some (some (.builtin "getset_descriptor.__get__"))) &&
  (decide (PySem.W.takesIn K (.builtin "object.__class__") = some true) && decide (PySem.W.mroIn K (He.ga K x) (.type "object") = some true)))
structure Fx where
  fa : List He.Fa
  gs : List (Str × D)
  ts : List Str
def Fx.ok (x : Fx) (K : PySem.W.Frag) : Bool := (x.fa.all fun f => f.ok K) && ((x.gs.all fun g => gB K g) && x.ts.all fun t => tyB K t)
def obsX (x : Fx) (fn : List He.DefD) (K : PySem.W.Frag) : He.AlD := (x.ok K && fn.all fun d => d.ok K, fn.map fun d => He.fnW K d.at_)
def SaysX (x : Fx) (fn : List He.DefD) (K : PySem.W.Frag) : Prop := obsX x fn K = He.valD fn
section
variable {x : Fx} {fn : List He.DefD} {K : PySem.W.Frag}
theorem SaysX.ok (c : SaysX x fn K) : x.ok K = true := (He.ba (show (x.ok K && fn.all fun d => d.ok K) = true from congrArg (fun z : He.AlD => z.1) c)).1
theorem SaysX.fact (c : SaysX x fn K) (i : Nat) {f : He.Fa} (h : x.fa[i]? = some f := by rfl) : f.ok K = true := List.all_eq_true.mp (He.ba c.ok).1 f (List.mem_of_getElem? h)
theorem SaysX.gc (c : SaysX x fn K) (i : Nat) {f : Str × D} (h : x.gs[i]? = some f := by rfl) : gB K f = true := List.all_eq_true.mp (He.ba (He.ba c.ok).2).1 f (List.mem_of_getElem? h)
theorem SaysX.ty (c : SaysX x fn K) (i : Nat) {f : Str} (h : x.ts[i]? = some f := by rfl) : tyB K f = true := List.all_eq_true.mp (He.ba (He.ba c.ok).2).2 f (List.mem_of_getElem? h)
theorem SaysX.def_ (c : SaysX x fn K) (i : Nat) {d : He.DefD} (h : fn[i]? = some d := by rfl) : ∃ fd, FunD K d.name d.qual d.params d.body d.scope (d.dvs K) (d.kws K) (He.fAd K d.at_) fd := by
  have c2 := (He.ba (show (x.ok K && fn.all fun d => d.ok K) = true from congrArg (fun z : He.AlD => z.1) c)).2
  have e : fn.map (fun d => He.fnW K d.at_) = fn.map He.DefD.val := congrArg (fun z : He.AlD => z.2) c
  have e2 : (fn.map fun d => He.fnW K d.at_)[i]? = (fn.map He.DefD.val)[i]? := by rw [e]
  rw [List.getElem?_map, List.getElem?_map, h] at e2
  exact He.DefD.funD (Option.some.inj e2) (List.all_eq_true.mp c2 d (List.mem_of_getElem? h))
end
theorem walk_ofX {l : PySem.W.OpenLaw} {n k : Nat} {q : Program} {loose : List Str} {XP : (Str → Option Value) → Heap → Prop} {YP : World → Heap → Prop} {d : DefRec} {x : Str} {den : List D → R D}
    (hn : l.most = some n) (hn2 : n ≤ sizeLine) (hdf : d.params.defaults = []) (hr : Room k callerA)
    (F : ∀ (w : World) (mg : Str → Option Value) (fa : Addr) (h : Heap), YP w h → h.Ns mainGlobals mg → mg d.name = some (.ref fa) →
      ∃ (K : PySem.W.Frag) (fd : FuncData) (cl : Nat → Option (Addr × List Str)), K.In h ∧ (∀ (s : Shared) (u : Value), BindsTo s fd ⟨[u], []⟩ [(x, u)]) ∧
        ∀ base : Heap, K.In base → base.Ns mainGlobals mg → FnOk l.prog w K mg base CX0 k fa fd [x] (SpF ⟨K, cl⟩ false 1 den))
    (pure_ : ∀ ns : List Int, ns.length ≤ n → (∀ z ∈ ns, Builtin.Int.intBits z ≤ 1048576) → den [.scr ns] = .ok (.bl true)) :
    PySem.W.WalkO q loose XP YP l.row.toRowW d [] (fun f vs => PySem.call f vs) := by
  refine Att.attach_callB hn hdf fun w s₀ s₁ mg mb fa o pm cd doc a vs ns G Y ho hd hcd hmg hobj hints hlen hbits hg => ?_
  obtain ⟨K, fd, cl, KX, hb, hF⟩ := F w mg fa _ Y G.T.g hmg
  refine law_call KX G.T.g G.T.b G.T.builtins G.T.nolimit hg hobj hints (Nat.le_trans hlen hn2) hr hF hb (fun H hO hS => ?_) fun H e s' z => z
  refine ⟨rfl, H, [.scr ns], Ex.refl H, .cons (.scr hS) .nil, ?_⟩
  rw [pure_ ns hlen hbits]
  intro v G' H' s r
  have r : RD ⟨K, cl⟩ G' (.bl true) v := r
  cases r
  rfl
end M
set_option Elab.async false
set_option linter.all false
set_option maxRecDepth 100000
set_option maxHeartbeats 4000000
namespace M
open PySem L2
inductive Wh where
  | glo (x : Str) | met (C m : Str) | pro (C m : Str) | cme (C m : Str)
def innA (K : PySem.W.Frag) (T : String) (p : Addr) : Addr := match PySem.W.recIn K p T with
  | some (.ref g :: _) => g
  | _ => 0
def Wh.ad (K : PySem.W.Frag) : Wh → Addr
  | .glo x => He.ga K x
  | .met C m => He.ma K (He.ga K C) m
  | .pro C m => innA K "property" (He.ma K (He.ga K C) m)
  | .cme C m => He5.wf K (He.ga K C) "classmethod" m
structure Dx where
  w : Wh
  d : He.DefD
def seenF : FuncData → He.FnW := fun z => some (z.name, z.qualname, z.params, z.body, z.scope, z.globals, z.closure, z.builtins)
def Dx.look (K : PySem.W.Frag) (x : Dx) : Option FuncData := (K.lookup (x.w.ad K)).bind fun o => match o.data with
  | .func z => some z
  | _ => none
def Dx.seen (K : PySem.W.Frag) (x : Dx) : He.FnW := (x.look K).bind seenF
def Dx.good (K : PySem.W.Frag) (x : Dx) : Bool := PySem.W.keepIn K (.ref (x.w.ad K)) && ((x.look K).map fun z => PySem.W.codeIn K z.code x.d.qual && (He.dflB K z.defaults (x.d.dvs K) && He.kwdB K z.kwdefaults (x.d.kws K))).getD false
theorem Dx.fund {K : PySem.W.Frag} {x : Dx} (e : x.seen K = x.d.val) (c : x.good K = true) : ∃ z, FunD K x.d.name x.d.qual x.d.params x.d.body x.d.scope (x.d.dvs K) (x.d.kws K) (x.w.ad K) z := by
  obtain ⟨kp, c2⟩ := He.ba c
  cases hl : x.look K with
  | none => rw [hl] at c2; cases c2
  | some z =>
    rw [hl] at c2
    have c3 : (PySem.W.codeIn K z.code x.d.qual && (He.dflB K z.defaults (x.d.dvs K) && He.kwdB K z.kwdefaults (x.d.kws K))) = true := c2
    have e2 : seenF z = x.d.val := by
      unfold Dx.seen at e
      rw [hl] at e
      exact e
    obtain ⟨a1, a2⟩ := He.ba c3
    obtain ⟨a3, a4⟩ := He.ba a2
    have hk : ∃ oc od osl, K.lookup (x.w.ad K) = some ⟨oc, od, .func z, osl⟩ := by
      unfold Dx.look at hl
      cases q : K.lookup (x.w.ad K) with
      | none => rw [q] at hl; cases hl
      | some o =>
        rw [q] at hl
        obtain ⟨oc, od, dt, osl⟩ := o
        cases dt with
        | func y => cases hl; exact ⟨oc, od, osl, rfl⟩
        | _ => cases hl
    obtain ⟨oc, od, osl, hk⟩ := hk
    obtain ⟨y1, y2, y3, y4, y5, y6, y7, y8, y9, y10, y11, y12, y13, y14, y15⟩ := z
    simp only [seenF, He.DefD.val, Option.some.injEq, Prod.mk.injEq] at e2
    obtain ⟨b1, b2, b3, b4, b5, b6, b7, b8⟩ := e2
    subst b1 b2 b3 b4 b5 b6 b7 b8
    exact ⟨_, ⟨oc, od, y8, y9, y10, y11, y12, y13, y14, osl, rfl, hk, a1, He.dflB_ok a3, He.kwdB_ok a4⟩, kp⟩
def proB (K : PySem.W.Frag) (q : Str × Str) : Bool :=
  He.eqO (PySem.W.findIn K (.ref (He.ga K q.1)) q.2) (some (some (.ref (He.ma K (He.ga K q.1) q.2)))) && (He.eqO (PySem.W.specialIn K (.ref (He.ma K (He.ga K q.1) q.2)) "__get__") (some (some (.builtin "property.__get__"))) &&
    (decide (PySem.W.takesIn K (.ref (He.ma K (He.ga K q.1) q.2)) = some true) && (match PySem.W.recIn K (He.ma K (He.ga K q.1) q.2) "property" with | some (.ref _ :: _) => true | _ => false)))
structure Fy where
  fa : List He.Fa
  gs : List (Str × D)
  ts : List Str
  ps : List (Str × Str)
def Fy.ok (x : Fy) (K : PySem.W.Frag) : Bool := (x.fa.all fun f => f.ok K) && ((x.gs.all fun g => gB K g) && ((x.ts.all fun t => tyB K t) && x.ps.all fun p => proB K p))
def obsY (x : Fy) (fn : List Dx) (K : PySem.W.Frag) : He.AlD := (x.ok K && fn.all fun d => d.good K, fn.map fun d => d.seen K)
def valY (fn : List Dx) : He.AlD := (true, fn.map fun d => d.d.val)
def SaysY (x : Fy) (fn : List Dx) (K : PySem.W.Frag) : Prop := obsY x fn K = valY fn
section
variable {x : Fy} {fn : List Dx} {K : PySem.W.Frag}
theorem SaysY.both (c : SaysY x fn K) : (x.ok K && fn.all fun d => d.good K) = true := congrArg Prod.fst c
theorem SaysY.ok (c : SaysY x fn K) : x.ok K = true := (He.ba c.both).1
theorem SaysY.fact (c : SaysY x fn K) (i : Nat) {f : He.Fa} (h : x.fa[i]? = some f := by rfl) : f.ok K = true := List.all_eq_true.mp (He.ba c.ok).1 f (List.mem_of_getElem? h)
theorem SaysY.gc (c : SaysY x fn K) (i : Nat) {f : Str × D} (h : x.gs[i]? = some f := by rfl) : gB K f = true := List.all_eq_true.mp (He.ba (He.ba c.ok).2).1 f (List.mem_of_getElem? h)
theorem SaysY.ty (c : SaysY x fn K) (i : Nat) {f : Str} (h : x.ts[i]? = some f := by rfl) : tyB K f = true := List.all_eq_true.mp (He.ba (He.ba (He.ba c.ok).2).2).1 f (List.mem_of_getElem? h)
theorem SaysY.pro (c : SaysY x fn K) (i : Nat) {f : Str × Str} (h : x.ps[i]? = some f := by rfl) : proB K f = true := List.all_eq_true.mp (He.ba (He.ba (He.ba c.ok).2).2).2 f (List.mem_of_getElem? h)
theorem SaysY.def_ (c : SaysY x fn K) (i : Nat) {d : Dx} (h : fn[i]? = some d := by rfl) : ∃ z, FunD K d.d.name d.d.qual d.d.params d.d.body d.d.scope (d.d.dvs K) (d.d.kws K) (d.w.ad K) z := by
  have e : fn.map (fun d => d.seen K) = fn.map fun d => d.d.val := congrArg Prod.snd c
  have e2 := congrArg (fun l : List He.FnW => l[i]?) e
  simp only [List.getElem?_map, h, Option.map_some, Option.some.injEq] at e2
  exact Dx.fund e2 (List.all_eq_true.mp (He.ba c.both).2 d (List.mem_of_getElem? h))
end
end M
set_option Elab.async false
set_option linter.all false
set_option maxRecDepth 100000
set_option maxHeartbeats 4000000
namespace M
open PySem L2
def isS : D → Bool
  | .str _ => true
  | _ => false
def eM1 (o : D → D → R D) (f g : FE) : FE := fun S => do
  let x ← f S
  if isS x then do
    let y ← g S
    (o x y).nox
  else .fail
section
variable {X : Cx} {c : Cf} {kd k1 k2 : Kd} {a b e o : Expr} {f g : FE} {pos apos : Pos} {k : Kn}
theorem isS_of {G H : Hp} {d : D} {v : V} (h : isS d = true) (n : Now k G H d v) : ∃ x, d = .str x ∧ v = .str x := by
  cases d with
  | str x => exact ⟨x, rfl, n.str⟩
  | _ => simp [isS] at h
theorem eM1_go {op : D → D → R D} {r : V → List V → Hp → VK → Prop} {σ : St} {H : Hp} {Q : VK} (hr : ∀ G H x y v d, Ex G H → Now c.k G H y v → op (.str x) y = .ok d → ∀ Q : VK, (∀ w G' H', Step G H G' H' → Res c.k H G' H' d w kd → Q w H') → r (.str x) [v] H Q)
    (q : RdE c kd (eM1 op f g) σ H Q) : tM1 r (RdE c k1 f) (RdE c k2 g) σ H Q := by
  obtain ⟨G, S, rel, p⟩ := q
  refine rdE_go (g := fun x => if isS x then (g S >>= fun y => (op x y).nox) else .fail) (Post := PostE c kd G S σ H Q) rel p (fun _ z => z) (fun z => z) fun d1 v1 G1 H1 s1 q1 p1 => ?_
  by_cases hs : isS d1 = true
  · rw [if_pos hs] at p1
    obtain ⟨x, rfl, rfl⟩ := isS_of hs q1.now
    refine ⟨⟨x, rfl⟩, ?_⟩
    refine rdE_go (g := fun y => (op (.str x) y).nox) (Post := PostE c kd G S σ H Q) (rel.grow s1) p1 (fun _ z => z) (fun z => z) fun d2 v2 G2 H2 s2 q2 p2 => ?_
    cases e : op (.str x) d2 with
    | ok d =>
      rw [e] at p2
      exact hr G2 H2 x d2 v2 d s2.gh q2.now e Q fun w G3 H3 s3 q3 => p2 w G3 H3 ((s1.trans s2).trans s3) (q3.mono (s1.h.trans s2.h))
    | exc x => rw [e] at p2; exact p2.elim
    | fail => rw [e] at p2; exact p2.elim
  · rw [if_neg hs] at p1; exact p1.elim
def joinD : D → D → R D
  | .str a, .lst ds => (match asS ds with
    | some ys => if (ys.map (·.length)).sum + ys.length * a.length ≤ 16777216 then .ok (.str (Txt.join a ys)) else .fail
    | none => .fail)
  | .str a, .tup ds => (match asS ds with
    | some ys => if (ys.map (·.length)).sum + ys.length * a.length ≤ 16777216 then .ok (.str (Txt.join a ys)) else .fail
    | none => .fail)
  | _, _ => .fail
theorem d_join (hk : c.k.K = X.K) (ho : PE' X c k1 o f) (he : PE' X c k2 e g) (hs : starEach [e] X.env = [(false, eval e X.env)] := by rfl) (hbase : attributeBase o "join" X.env (eval o X.env) = eval o X.env := by rfl) (hline : (apos.endLine == pos.line) = true := by rfl) :
    PE' X c .st (.Call (.Attribute o "join" apos) [e] [] pos) (eM1 joinD f g) :=
  peI (pe_join ho he hs hbase hline) fun σ H Q q => eM1_go (fun G H x y v d ex n hg Q p => by
    cases y with
    | lst ds =>
      simp only [joinD] at hg
      split at hg
      · rename_i ys hy
        split at hg
        · rename_i hl
          cases hg
          obtain ⟨a, vs, rfl, ha, r⟩ := n.lst ex
          have := asS_of r hy; subst this
          exact ⟨x, a, ys, rfl, rfl, .inl (SqL.of ha), hl, p _ G H (Step.refl ex) (.str _)⟩
        · cases hg
      · cases hg
    | tup ds =>
      simp only [joinD] at hg
      split at hg
      · rename_i ys hy
        split at hg
        · rename_i hl
          cases hg
          obtain ⟨a, vs, rfl, ha, r⟩ := n.tup
          have := asS_of r hy; subst this
          exact ⟨x, a, ys, rfl, rfl, .inr (hk ▸ ex.sqT ha.t), hl, p _ G H (Step.refl ex) (.str _)⟩
        · cases hg
      · cases hg
    | _ => simp [joinD] at hg) q
def splitD : D → D → R D
  | .str a, .str b => if (b.length == 0) = false ∧ a.length + 2 ≤ sizeLine then .ok (.lst ((Txt.split a b).map .str)) else .fail
  | _, _ => .fail
theorem RDs.strs {G : Hp} : ∀ (ns : List Str), RDs k G (ns.map D.str) (ns.map V.str)
  | [] => .nil
  | n :: ns => .cons (.str n) (RDs.strs ns)
theorem d_split (ho : PE' X c k1 o f) (he : PE' X c k2 e g) (hs : starEach [e] X.env = [(false, eval e X.env)] := by rfl) (hbase : attributeBase o "split" X.env (eval o X.env) = eval o X.env := by rfl) (hline : (apos.endLine == pos.line) = true := by rfl) :
    PE' X c .fr (.Call (.Attribute o "split" apos) [e] [] pos) (eM1 splitD f g) :=
  peI (pe_split ho he hs hbase hline) fun σ H Q q => eM1_go (fun G H x y v d ex n hg Q p => by
    cases y with
    | str b =>
      simp only [splitD] at hg
      split at hg
      · rename_i hl
        cases hg
        obtain rfl := n.str
        refine ⟨x, b, rfl, rfl, hl.1, hl.2, ?_⟩
        intro q hq
        exact p _ G _ (Step.new' ex hq) ⟨q, _, rfl, ex.free hq, hq, upd_same, .lst (RDs.strs _)⟩
      · cases hg
    | _ => simp [splitD] at hg) q
end
end M
namespace M
open PySem L2
section
variable {X : Cx} {c : Cf} {k1 k2 : Kd} {a b e : Expr} {f g : FE} {pos p p2 pos2 : Pos} {k : Kn}
instance (a b : Int) : Decidable (RgOk a b) := by unfold RgOk; infer_instance
end
end M
set_option Elab.async false
set_option linter.all false
set_option maxRecDepth 100000
set_option maxHeartbeats 4000000
namespace M
open PySem L2
def tabGet (tab : List (Str × Int)) (z : Str) : Option Int := (tab.find? fun p => p.1 == z).map (·.2)
structure KTab (K : PySem.W.Frag) (w : World) (mg : Str → Option Value) (x : Str) (tab : List (Str × Int)) : Prop where
  ex : ∃ d es n, mg x = some (.ref d) ∧ KDict K w d es n ∧ ∀ z, ∃ r, PySem.W.nsIn K d z = some r ∧ match tabGet tab z with
    | some i => ∃ t, r = some (.int i t)
    | none => r = none
section
variable {X : Cx} {c : Cf} {kd k1 k2 : Kd} {a b e o : Expr} {f g : FE} {pos apos cpos p : Pos} {k : Kn} {x : Str} {tab : List (Str × Int)}
theorem pe_ktab {d : Addr} (hm : X.mg x = some (.ref d)) (hg : Gl X x := by rfl) (hd : (x == ("__debug__" : Str)) = false := by decide) : PE X (.Name x p) (tC (.ref d)) := pe_glob (v := .ref d) hg hm rfl hd
def kgetD (tab : List (Str × Int)) : D → R D
  | .str z => match tabGet tab z with | some i => .ok (.int i) | none => .ok .non
  | _ => .fail
def kixD (tab : List (Str × Int)) : D → R D
  | .str z => match tabGet tab z with | some i => .ok (.int i) | none => .fail
  | _ => .fail
def kinD (neg : Bool) (tab : List (Str × Int)) : D → R D
  | .str z => .ok (.bl (if neg then !(tabGet tab z).isSome else (tabGet tab z).isSome))
  | _ => .fail
theorem d_kget (T : KTab X.K X.w X.mg x tab) (he : PE' X c k1 e f) (hg : Gl X x := by rfl) (hd : (x == ("__debug__" : Str)) = false := by decide) (m : M1 X (.Name x p) "get" apos e cpos := by first | exact ⟨rfl, rfl, rfl, rfl⟩ | exact ⟨rfl, rfl, rfl⟩) :
    PE' X c .st (.Call (.Attribute (.Name x p) "get" apos) [e] [] cpos) (e1 (kgetD tab) f) := by
  obtain ⟨d, es, n, hm, KD, hv⟩ := T.ex
  refine ⟨fun pins s σ H Q I h => ?_⟩
  refine wpAny_Call_method m.base m.few m.line PySem.F.plainAttrs_dict PySem.F.slot_dict_get PySem.F.type_dict_get (thn ((pe_ktab (p := p) hm hg hd).run pins s σ H (fun v H1 => v = .ref d ∧ H1 = H) I ⟨rfl, rfl⟩) fun u s1 ⟨y, H1, I1, ry, ey, eH⟩ => ?_)
  subst ey; subst eH
  obtain rfl : u = Value.ref d := ry
  refine ⟨kd_type KD I1, fun b q => ?_, ?_⟩
  · cases q
    exact ⟨_, I1.kIn _ _ KD.at_, rfl⟩
  rw [m.trees]
  refine Calls.callWith_builtin rfl (Calls.evalArgs_plain (Calls.spliced_cons (thn (he.run pins s1 σ _ (fun v H2 => ∃ z r, v = .str z ∧ PySem.W.nsIn X.K d z = some r ∧ ∃ v0, RelV v0 (r.getD .none) ∧ Q v0 H2) I1 ?_) fun iv s2 ⟨y, H2, I2, ry, q2⟩ => Calls.spliced_nil ?_)))
  · obtain ⟨G, S, rel, p⟩ := h
    refine rdE_go (g := fun x => (kgetD tab x).nox) (Post := PostE c .st G S σ _ Q) rel p (fun _ z => z) (fun z => z) fun d1 v1 G1 H1 s1 q1 p1 => ?_
    cases d1 with
    | str z =>
      obtain rfl := q1.now.str
      obtain ⟨r, hr, hz⟩ := hv z
      refine ⟨z, r, rfl, hr, ?_⟩
      simp only [kgetD] at p1
      cases ht : tabGet tab z with
      | some i =>
        rw [ht] at p1 hz
        obtain ⟨t, rfl⟩ := hz
        exact ⟨.int i, ⟨t, rfl⟩, p1 _ G1 H1 s1 (.int i)⟩
      | none =>
        rw [ht] at p1 hz
        subst hz
        exact ⟨.non, rfl, p1 _ G1 H1 s1 .non⟩
    | _ => exact p1.elim
  · obtain ⟨z, r, rfl, hr, v0, rv, qv⟩ := q2
    obtain ⟨t, rfl⟩ := ry
    refine call_meetsIn PySem.F.slot_dict_get (kd_type KD I2) PySem.F.entry_dict_get (PySem.F.args_dict_get_2 _ _) (meets_dict_get (PySem.strKind X.prog X.w) d (PySem.strKind_is X.prog X.w z t) KD.low) ⟨_, PySem.W.mapOf_K (prog := X.prog) I2.kIn KD.at_ KD.lit, ?_⟩
    rw [PySem.W.find_K KD.at_ hr]
    exact ⟨v0, H2, I2.tok _, rv, qv⟩
theorem kin_go {neg : Bool} {σ : St} {H : Hp} {Q : VK} {r : R2} {d : Addr} (hv : ∀ z, ∃ r, PySem.W.nsIn X.K d z = some r ∧ match tabGet tab z with | some i => ∃ t, r = some (.int i t) | none => r = none)
    (hr : ∀ z r' H Q, PySem.W.nsIn X.K d z = some r' → Q (.bl (if neg then !r'.isSome else r'.isSome)) H → r (.str z) (.ref d) H Q) (q : RdE c .st (e1 (kinD neg tab) f) σ H Q) : RdE c k1 f σ H fun x H1 => tC (.ref d) σ H1 fun y H2 => r x y H2 Q := by
  obtain ⟨G, S, rel, p⟩ := q
  refine rdE_go (g := fun x => (kinD neg tab x).nox) (Post := PostE c .st G S σ H Q) rel p (fun _ z => z) (fun z => z) fun d1 v1 G1 H1 s1 q1 p1 => ?_
  cases d1 with
  | str z =>
    obtain rfl := q1.now.str
    obtain ⟨r', hr', hz⟩ := hv z
    refine hr z r' H1 Q hr' ?_
    have e : r'.isSome = (tabGet tab z).isSome := by
      cases ht : tabGet tab z with
      | some i => rw [ht] at hz; obtain ⟨t, rfl⟩ := hz; rfl
      | none => rw [ht] at hz; subst hz; rfl
    rw [e]
    exact p1 _ G1 H1 s1 (.bl _)
  | _ => exact p1.elim
theorem d_knotin (T : KTab X.K X.w X.mg x tab) (he : PE' X c k1 e f) (hg : Gl X x := by rfl) (hd : (x == ("__debug__" : Str)) = false := by decide) (hm2 : behindInMarks .NotIn (.Name x p) = false := by rfl) : PE' X c .st (.Compare e [.NotIn] [.Name x p] pos) (e1 (kinD true tab) f) := by
  obtain ⟨d, es, n, hm, KD, hv⟩ := T.ex
  exact peI (pe_cmpR (op_notIn_kd KD) he (pe_ktab hm hg hd) hm2) fun σ H Q q => kin_go (neg := true) (r := fun x y H Q => ∃ (z : Str) (r : Option Value), x = .str z ∧ y = .ref d ∧ PySem.W.nsIn X.K d z = some r ∧ Q (.bl (!r.isSome)) H) hv (fun z r' H Q h1 h2 => ⟨z, r', rfl, rfl, h1, h2⟩) q
theorem d_kix (T : KTab X.K X.w X.mg x tab) (he : PE' X c k1 e f) (hg : Gl X x := by rfl) (hd : (x == ("__debug__" : Str)) = false := by decide) (hi : PlainIx e := by exact fun _ _ => rfl) : PE' X c .st (.Subscript (.Name x p) e pos) (e1 (kixD tab) f) := by
  obtain ⟨d, es, n, hm, KD, hv⟩ := T.ex
  refine peI (pe_ix ix_kdict (pe_ktab hm hg hd) he hi) fun σ H Q ⟨G, S, rel, p⟩ => ?_
  show RdE c k1 f σ H fun y H2 => _
  refine rdE_go (g := fun x => (kixD tab x).nox) (Post := PostE c .st G S σ H Q) rel p (fun _ z => z) (fun z => z) fun d1 v1 G1 H1 s1 q1 p1 => ?_
  cases d1 with
  | str z =>
    obtain rfl := q1.now.str
    obtain ⟨r, hr, hz⟩ := hv z
    simp only [kixD] at p1
    cases ht : tabGet tab z with
    | some i =>
      rw [ht] at p1 hz
      obtain ⟨t, rfl⟩ := hz
      exact ⟨d, z, .int i, rfl, rfl, ⟨es, n, _, KD.at_, KD.lit, hr, ⟨t, rfl⟩⟩, p1 _ G1 H1 s1 (.int i)⟩
    | none => rw [ht] at p1; exact p1.elim
  | _ => exact p1.elim
structure PMc (X : Cx) (cs : List MatchCase) (t : Int → TS) : Prop where
  run : ∀ (pins : List (Addr × Obj)) (s : Shared) (σ : St) (H : Hp) (D : Ends) (n : Int) (tk : Tok) (first : Bool), L2.Inv X pins σ H s → t n D σ H → wpAny (model X.prog X.w) X.A (matchCases cs X.env (.int n tk) first) (SP X pins D) X.xe s
theorem pmc_any {body : List Stmt} {rest : List MatchCase} {t : TS} (hb : PSs X body t) : PMc X (⟨.MatchAs none none p, none, body⟩ :: rest) (fun _ => t) :=
  ⟨fun pins s σ H D n tk first I h => wpAny_matchCases_cons (wpAny_matchPattern_Capture (wpAny_assignInOrder_none (hb.run pins s σ H D I h)))⟩
theorem pmc_val {i : Int} {j} {vp : Pos} {body : List Stmt} {rest : List MatchCase} {t : TS} {u : Int → TS} (hb : PSs X body t) (hr : PMc X rest u) : PMc X (⟨.MatchValue (.Constant (.int i) j vp) p, none, body⟩ :: rest) (fun n D σ H => if n = i then t D σ H else u n D σ H) :=
  ⟨fun pins s σ H D n tk first I h => by
    refine wpAny_matchCases_cons (wpAny_matchPattern_Value (thn (pe_int.run pins s σ H (fun v H1 => v = .int i ∧ H1 = H) I ⟨rfl, rfl⟩) fun v s1 ⟨y, H1, I1, ry, ey, eH⟩ => ?_))
    subst ey; subst eH
    refine thn (op_eq pins s1 σ _ (.int n) (.int i) _ v (fun z H2 => z = .bl (decide (n = i)) ∧ H2 = H1) I1 ⟨tk, rfl⟩ ry ?_) fun cv s2 ⟨z, H2, I2, rz, ez, eH2⟩ => ?_
    · refine ⟨rfl, ?_, rfl⟩
      simp [V.int.injEq]
    · subst ez; subst eH2
      obtain rfl : cv = .bool (decide (n = i)) := rz
      refine wpAny_truthy_bool ?_
      by_cases hn : n = i
      · rw [if_pos (decide_eq_true hn)]
        rw [if_pos hn] at h
        exact wpAny_assignInOrder_none (hb.run pins s2 σ H2 D I2 h)
      · rw [if_neg (by simpa using hn)]
        rw [if_neg hn] at h
        exact hr.run pins s2 σ H2 D n tk false I2 h⟩
def mcF : List (Option Int × FS) → Int → FS
  | [], _ => sNil
  | (none, s) :: _, _ => s
  | (some i, s) :: r, n => if n = i then s else mcF r n
def PMc' (X : Cx) (c : Cf) (fr : Bool) (as : List Nat) (cs : List MatchCase) (l : List (Option Int × FS)) : Prop := PMc X cs (fun n => RdS c fr as (mcF l n))
theorem m_any {fr : Bool} {as : List Nat} {body : List Stmt} {s : FS} (hb : PB' X c fr as body s) : PMc' X c fr as [⟨.MatchAs none none p, none, body⟩] [(none, s)] := pmc_any hb
theorem PostS.up {fr : Bool} {as bs : List Nat} {G H : Hp} {S : Env} {σ : St} {Dn : Ends} {r : R (Fl × Env)} (h : ∀ i, i ∈ as → i ∈ bs) (p : PostS c fr bs G S σ H Dn r) : PostS c fr as G S σ H Dn r := by
  cases r with
  | ok z =>
    obtain ⟨fl, S'⟩ := z
    cases fl with
    | nx => exact fun G' σ' H' e rel fm => p G' σ' H' e rel (fm.mono h)
    | bk => exact fun G' σ' H' e rel fm => p G' σ' H' e rel (fm.mono h)
    | ct => exact fun G' σ' H' e rel fm => p G' σ' H' e rel (fm.mono h)
    | rt d => exact fun v G2 H2 st rv ow => p v G2 H2 st rv (ow.sub h)
  | exc x => exact p
  | fail => exact p
theorem m_val {fr : Bool} {as bs : List Nat} {i : Int} {j} {vp : Pos} {body : List Stmt} {rest : List MatchCase} {s : FS} {l : List (Option Int × FS)} (hb : PB' X c fr as body s) (hr : PMc' X c fr bs rest l) : PMc' X c fr (as ++ bs) (⟨.MatchValue (.Constant (.int i) j vp) p, none, body⟩ :: rest) ((some i, s) :: l) :=
  ⟨fun pins s' σ H D n tk first I ⟨G, S, rel, q⟩ => (pmc_val hb hr).run pins s' σ H D n tk first I (by
    have q : PostS c fr (as ++ bs) G S σ H D ((if n = i then s else mcF l n) S) := q
    by_cases hn : n = i
    · rw [if_pos hn] at q ⊢
      exact ⟨G, S, rel, PostS.up (fun z hz => List.mem_append_left _ hz) q⟩
    · rw [if_neg hn] at q ⊢
      exact ⟨G, S, rel, PostS.up (fun z hz => List.mem_append_right _ hz) q⟩)⟩
def sMatch (f : FE) (l : List (Option Int × FS)) : FS := fun S => f S >>= fun d => match d with
  | .int n => mcF l n S
  | _ => .fail
theorem s_match {fr : Bool} {as : List Nat} {cs : List MatchCase} {l : List (Option Int × FS)} (he : PE' X c k1 e f) (hc : PMc' X c fr as cs l) : PS' X c fr as (.Match e cs pos) (sMatch f l) :=
  ⟨fun pins s σ H D I ⟨G, S, rel, p⟩ => by
    refine wpAny_Match (thn (he.run pins s σ H (fun v H1 => ∃ n, v = .int n ∧ RdS c fr as (mcF l n) D σ H1) I ?_) fun v s1 ⟨y, H1, I1, ry, n, ey, q⟩ => ?_)
    · refine rdE_go (g := fun d => match d with | .int n => mcF l n S | _ => .fail) (Post := PostS c fr as G S σ H D) rel p (fun _ z => z _) (fun z => z) fun d v G1 H1 s1 q1 p1 => ?_
      cases d with
      | int n =>
        refine ⟨n, q1.now.int, G1, S, rel.grow s1, ?_⟩
        have p1 : PostS c fr as G S σ H D (mcF l n S) := p1
        cases hm : mcF l n S with
        | ok z =>
          rw [hm] at p1
          obtain ⟨fl, S'⟩ := z
          have fmx : ∀ {S' σ' H'}, Frm as S σ H1 S' σ' H' → Frm as S σ H S' σ' H' := fun fm => ((Frm.step (as := []) rel s1).trans fm).mono fun z hz => by simpa using hz
          cases fl with
          | nx => exact fun G' σ' H' e r fm => p1 G' σ' H' (s1.g.trans e) r (fmx fm)
          | bk => exact fun G' σ' H' e r fm => p1 G' σ' H' (s1.g.trans e) r (fmx fm)
          | ct => exact fun G' σ' H' e r fm => p1 G' σ' H' (s1.g.trans e) r (fmx fm)
          | rt d => exact p1
        | exc x => rw [hm] at p1; exact p1
        | fail => rw [hm] at p1; exact p1
      | _ => exact p1.elim
    · subst ey
      obtain ⟨tk, rfl⟩ := ry
      exact hc.run pins s1 σ H1 D n tk true I1 q⟩
end
end M
namespace M
open PySem L2
section
variable {X : Cx} {c : Cf} {k1 : Kd} {e : Expr} {f : FE} {pos p tp q1 q2 : Pos} {k : Kn} {x y z : Str}
def isi2D (b1 b2 : String) (d : D) : R D := match tyN d with
  | some a => match kitB a b1, kitB a b2 with
    | some r1, some r2 => .ok (.bl (r1 || r2))
    | _, _ => .fail
  | none => .fail
theorem d_isi2 {kk} (b1 b2 : String) (hk : c.k.K = X.K) (hm : X.mg x = none) (hm1 : X.mg y = none) (hm2 : X.mg z = none) (he : PE' X c k1 e f) (hv : bootBuiltins x = some (.builtin "isinstance") := by decide +kernel) (hv1 : bootBuiltins y = some (.type b1) := by decide +kernel) (hv2 : bootBuiltins z = some (.type b2) := by decide +kernel) (hg : Gl X x := by rfl) (hg1 : Gl X y := by rfl) (hg2 : Gl X z := by rfl)
    (hn : x ≠ "__name__" := by decide) (hdb : (x == ("__debug__" : Str)) = false := by decide) (hn1 : y ≠ "__name__" := by decide) (hdb1 : (y == ("__debug__" : Str)) = false := by decide) (hn2 : z ≠ "__name__" := by decide) (hdb2 : (z == ("__debug__" : Str)) = false := by decide)
    (hs : starEach [e, .Tuple [.Name y q1, .Name z q2] kk tp] X.env = (false, eval e X.env) :: starEach [.Tuple [.Name y q1, .Name z q2] kk tp] X.env := by rfl) (hs2 : ((backTo pos (starEach [.Tuple [.Name y q1, .Name z q2] kk tp] X.env)).any fun x => x.1) = false := by rfl) :
    PE' X c .st (.Call (.Name x p) [e, .Tuple [.Name y q1, .Name z q2] kk tp] [] pos) (e1 (isi2D b1 b2) f) := by
  have ht : PE X (.Tuple [.Name y q1, .Name z q2] kk tp) _ := pe_tup (pa_cons (pe_bltn (v := .ty b1) hg1 hm1 hv1 rfl hn1 hdb1) (pa_cons (pe_bltn (v := .ty b2) hg2 hm2 hv2 rfl hn2 hdb2) pa_nil rfl) rfl)
  refine peI (pe_callB call_isiT hg hm hv (pa_cons he (pa_cons ht pa_nil rfl) hs) hn hdb hs hs2) fun σ H Q ⟨G, S, rel, p⟩ => ?_
  refine rdE_go (g := fun x => (isi2D b1 b2 x).nox) (Post := PostE c .st G S σ H Q) rel p (fun _ z => z) (fun z => z) fun d v G1 H1 s1 r1 p1 => ?_
  refine ⟨by show 2 ≤ sizeLine; have := sizeLine_eq; omega, fun t ht => ?_⟩
  have s2 : Step G1 H1 G1 (upd H1 t (.tup [.ty b1, .ty b2])) := Step.new' s1.gh ht
  have nn := r1.now.grow s2
  unfold isi2D at p1
  cases hty : tyN d with
  | none => rw [hty] at p1; exact p1.elim
  | some a =>
    rw [hty] at p1
    dsimp only at p1
    cases h1 : kitB a b1 with
    | none => rw [h1] at p1; exact p1.elim
    | some r1' =>
      cases h2 : kitB a b2 with
      | none => rw [h1, h2] at p1; exact p1.elim
      | some r2' =>
        rw [h1, h2] at p1
        refine ⟨v, t, [.ty b1, .ty b2], .type a, [.type b1, .type b2], r1' || r2', rfl, upd_same, .cons (.ty _) (.cons (.ty _) .nil), nn.tyX hk s2.gh hty, ?_, p1 _ G1 _ (s1.trans s2) (.bl _)⟩
        have e1 := kit_ty (K := X.K) h1
        have e2 := kit_ty (K := X.K) h2
        simp only [PySem.W.kitAny, e1, e2]
        cases r1' <;> cases r2' <;> rfl
end
end M
namespace M
open PySem L2
theorem b_fail {X : Cx} {c : Cf} {fr : Bool} {as : List Nat} {body : List Stmt} : PB' X c fr as body (fun _ => .fail) := pssI pss_never fun Dn σ H ⟨G, S, rel, p⟩ => p.elim
end M
namespace M
open PySem L2
end M
set_option Elab.async false
set_option linter.all false
set_option maxRecDepth 100000
set_option maxHeartbeats 4000000
namespace M
open PySem L2
abbrev TabI := Str × List (Str × Int)
def valI (K : PySem.W.Frag) (t : TabI) : Bool := t.2.all fun q => match PySem.W.nsIn K (He.ga K t.1) q.1 with
  | some (some (.int i _)) => decide (i = q.2)
  | _ => false
theorem keys_none {P : Params} {z : Str} : ∀ {l : List DictEntry} {ks : List Str}, l.map He.keyOf = He.keysIn P ks → z ∉ ks → l.find? (·.key.isStr z) = none ∧ l.any (·.refKey) = false
  | [], _, _, _ => ⟨rfl, rfl⟩
  | e :: l, [], h, _ => by simp [He.keysIn] at h
  | e :: l, k :: ks, h, hz => by
    have h1 : He.keyOf e = some (k, PyData.keyHash P k) := by
      have := congrArg List.head? h; simpa [He.keysIn] using this
    have h2 : l.map He.keyOf = He.keysIn P ks := by
      have := congrArg List.tail h; simpa [He.keysIn] using this
    obtain ⟨i1, i2⟩ := keys_none h2 (fun w => hz (List.mem_cons_of_mem _ w))
    have hk : ∃ t, e.key = .str k t := by
      unfold He.keyOf at h1
      split at h1
      · rename_i x t hx
        simp only [Option.some.injEq, Prod.mk.injEq] at h1
        exact ⟨t, by rw [hx, h1.1]⟩
      · cases h1
    obtain ⟨t, hk⟩ := hk
    constructor
    · rw [List.find?_cons, hk]
      have : (Value.str k t).isStr z = false := by
        show (k == z) = false
        simpa using fun w : k = z => hz (by rw [w]; exact List.mem_cons_self)
      rw [this]; exact i1
    · rw [List.any_cons, i2]
      simp [DictEntry.refKey, hk]
theorem ktab_ok {K : PySem.W.Frag} {w : World} {mg : Str → Option Value} {t : TabI} (hg : mg t.1 = some (.ref (He.ga K t.1))) (hd : He.dicW K (He.ga K t.1) = some (He.keysIn w.params (t.2.map (·.1)))) (hv : valI K t = true) : KTab K w mg t.1 t.2 := by
  obtain ⟨es, n, KD⟩ := He.dicW_ok hd
  refine ⟨_, es, n, hg, KD, fun z => ?_⟩
  unfold tabGet
  cases hf : t.2.find? fun p => p.1 == z with
  | some q =>
    have hq := List.mem_of_find?_eq_some hf
    have he : q.1 = z := by have := List.find?_some hf; simpa using this
    have h2 := List.all_eq_true.mp hv q hq
    rw [he] at h2
    split at h2
    · rename_i i tk hn
      refine ⟨_, hn, ?_⟩
      have := of_decide_eq_true h2
      subst this
      exact ⟨tk, rfl⟩
    · cases h2
  | none =>
    refine ⟨none, ?_, rfl⟩
    have hz : z ∉ t.2.map (·.1) := fun hm => by
      obtain ⟨q, hq, e⟩ := List.mem_map.mp hm
      have := List.find?_eq_none.mp hf q hq
      simp [e] at this
    unfold He.dicW at hd
    rw [KD.at_] at hd
    dsimp only at hd
    split at hd
    · simp only [Option.some.injEq] at hd
      obtain ⟨h1, h2⟩ := keys_none hd hz
      unfold PySem.W.nsIn
      rw [KD.at_]
      dsimp only
      rw [h1, h2]; rfl
    · cases hd
abbrev AlZ : Type := He.AlD × List (Option (List (Option (Str × Int))))
def obsZ (x : Fy) (ts : List TabI) (fn : List Dx) (K : PySem.W.Frag) : AlZ := (((x.ok K && ts.all fun t => valI K t) && fn.all fun d => d.good K, fn.map fun d => d.seen K), ts.map fun t => He.dicW K (He.ga K t.1))
def valZ (ts : List TabI) (fn : List Dx) (w : World) : AlZ := ((true, fn.map fun d => d.d.val), ts.map fun t => some (He.keysIn w.params (t.2.map (·.1))))
def SaysZ (x : Fy) (ts : List TabI) (fn : List Dx) (w : World) (K : PySem.W.Frag) : Prop := obsZ x ts fn K = valZ ts fn w
section
variable {x : Fy} {ts : List TabI} {fn : List Dx} {K : PySem.W.Frag} {w : World}
theorem SaysZ.all (c : SaysZ x ts fn w K) : ((x.ok K && ts.all fun t => valI K t) && fn.all fun d => d.good K) = true := congrArg (fun z : AlZ => z.1.1) c
theorem SaysZ.y (c : SaysZ x ts fn w K) : SaysY x fn K := by
  have h1 := He.ba c.all
  have e : fn.map (fun d => d.seen K) = fn.map fun d => d.d.val := congrArg (fun z : AlZ => z.1.2) c
  show (x.ok K && fn.all fun d => d.good K, fn.map fun d => d.seen K) = (true, _)
  rw [e, (He.ba h1.1).1, h1.2]; rfl
theorem SaysZ.tab (c : SaysZ x ts fn w K) (i : Nat) {t : TabI} (h : ts[i]? = some t := by rfl) : He.dicW K (He.ga K t.1) = some (He.keysIn w.params (t.2.map (·.1))) ∧ valI K t = true := by
  have e : ts.map (fun t => He.dicW K (He.ga K t.1)) = ts.map fun t => some (He.keysIn w.params (t.2.map (·.1))) := congrArg (fun z : AlZ => z.2) c
  have e2 := congrArg (fun l : List (Option (List (Option (Str × Int)))) => l[i]?) e
  simp only [List.getElem?_map, h, Option.map_some, Option.some.injEq] at e2
  exact ⟨e2, List.all_eq_true.mp (He.ba (He.ba c.all).1).2 t (List.mem_of_getElem? h)⟩
end
end M
set_option Elab.async false
set_option linter.all false
set_option maxRecDepth 100000
set_option maxHeartbeats 4000000
namespace M
open PySem L2
def keyD : D → Option Key
  | .int i => some (.inl i)
  | .str x => some (.inr x)
  | _ => none
def keysD : List D → Option (List Key)
  | [] => some []
  | d :: ds => match keyD d, keysD ds with
    | some k, some ks => some (k :: ks)
    | _, _ => none
section
variable {k : Kn} {G H : Hp}
def getL {κ : Type} [DecidableEq κ] : List κ → List D → κ → Option D
  | x :: ks, d :: ds, q => if x = q then some d else getL ks ds q
  | _, _, _ => none
def putL {κ : Type} [DecidableEq κ] (ks : List κ) (ds : List D) (q : κ) (d : D) : List κ × List D := match ks.idxOf? q with
  | some i => (ks, ds.set i d)
  | none => (ks ++ [q], ds ++ [d])
end
section
variable {X : Cx} {c : Cf} {kd k1 k2 k3 : Kd} {a b e o : Expr} {f g h : FE} {pos apos cpos : Pos} {fr : Bool} {x : Str}
def isDct : D → Bool
  | .dic _ _ => true
  | .dit _ _ => true
  | _ => false
end
end M
set_option Elab.async false
set_option linter.all false
set_option maxRecDepth 100000
set_option maxHeartbeats 4000000
namespace M
open PySem L2
section
variable {X : Cx} {c : Cf} {kd k1 k2 k3 : Kd} {a b e o : Expr} {f g h : FE} {pos apos cpos : Pos} {fr : Bool} {x : Str}
end
end M
set_option Elab.async false
set_option linter.all false
set_option maxRecDepth 100000
set_option maxHeartbeats 4000000
namespace M
open PySem PySem.Spec PyProof.Rows L2
def MskG (m : Nat) : Prop := m = 7 ∨ m = 31 ∨ m = 127 ∨ m = 511
def orbG (m : Nat) : Nat → Nat → Nat → Nat
  | 0, _, b => b
  | n + 1, x, b => orbG m n ((x * 5 + 1) % (m + 1)) (b ||| 2 ^ x)
theorem orbG_hit (m : Nat) : ∀ (n a b j : Nat), (orbG m n (lcgN m a) b).testBit j = true → b.testBit j = true ∨ ∃ k, k < a + n ∧ lcgN m k = j
  | 0, _, _, _, h => .inl h
  | n + 1, a, b, j, h => by
    rcases orbG_hit m n (a + 1) (b ||| 2 ^ lcgN m a) j h with c | ⟨k, hk, e⟩
    · rw [Nat.testBit_or, Nat.testBit_two_pow, Bool.or_eq_true, decide_eq_true_eq] at c
      exact c.imp id fun e => ⟨a, by omega, e⟩
    · exact .inr ⟨k, by omega, e⟩
theorem MskG.orb {m : Nat} (h : MskG m) : M.orbG m (m + 1) 0 0 = 2 ^ (m + 1) - 1 := by
  rcases h with rfl | rfl | rfl | rfl <;> decide +kernel
theorem MskG.back {m : Nat} (h : MskG m) : lcgN m (m + 1) = 0 := by
  rcases h with rfl | rfl | rfl | rfl <;> decide +kernel
theorem MskG.from0 {m : Nat} (h : MskG m) {j : Nat} (hj : j ≤ m) : ∃ k, k ≤ m ∧ lcgN m k = j := by
  have t : (M.orbG m (m + 1) (lcgN m 0) 0).testBit j = true := by
    show (M.orbG m (m + 1) 0 0).testBit j = true
    rw [h.orb, Nat.testBit_two_pow_sub_one]
    exact decide_eq_true (by omega)
  rcases orbG_hit m (m + 1) 0 0 j t with c | ⟨k, hk, e⟩
  · simp at c
  · exact ⟨k, by omega, e⟩
theorem MskG.again {m : Nat} (h : MskG m) : ∀ k, lcgN m (m + 1 + k) = lcgN m k
  | 0 => h.back
  | k + 1 => congrArg (fun x => (x * 5 + 1) % (m + 1)) (h.again k)
theorem MskG.from {m : Nat} (h : MskG m) {i j : Nat} (hi : i ≤ m) (hj : j ≤ m) : ∃ k, k ≤ m ∧ lcgI m i k = j := by
  obtain ⟨a, a1, rfl⟩ := h.from0 hi
  obtain ⟨b, b1, rfl⟩ := h.from0 hj
  by_cases c : a ≤ b
  · exact ⟨b - a, by omega, by rw [lcgN_add, Nat.add_sub_cancel' c]⟩
  · exact ⟨m + 1 + b - a, by omega, by rw [lcgN_add, show a + (m + 1 + b - a) = m + 1 + b by omega, h.again]⟩
theorem MskG.meets {m : Nat} (h : MskG m) (x : Int) {j : Nat} (hj : j ≤ m) : ∃ n, n ≤ m + 12 ∧ runI m (SetTable.bits x) n = j := by
  obtain ⟨k, hk, e⟩ := h.from (runI_le m (SetTable.bits x) 12) hj
  exact ⟨12 + k, by omega, (runI_tail (bits_lt x) k).trans e⟩
theorem MskG.odd {m : Nat} (h : MskG m) : m % 2 = 1 := by rcases h with rfl | rfl | rfl | rfl <;> rfl
theorem MskG.le {m : Nat} (h : MskG m) : m ≤ 511 := by rcases h with rfl | rfl | rfl | rfl <;> decide
theorem wayG (m : Nat) (x : Int) (k : Nat) : way m x k ≤ m := by
  have b : SetTable.bits x % (m + 1) ≤ m := Nat.le_of_lt_succ (Nat.mod_lt _ (Nat.succ_pos _))
  have r := runEnd_bd b
  have z : (runAt m (SetTable.bits x % (m + 1)) (SetTable.bits x)).j + (runAt m (SetTable.bits x % (m + 1)) (SetTable.bits x)).more ≤ m := by
    show SetTable.bits x % (m + 1) + (SetTable.runEnd m _ - SetTable.bits x % (m + 1)) ≤ m
    omega
  exact Nat.le_trans (Nat.le_add_right _ _) (nth_in k _ z)
theorem MskG.firstOf {m : Nat} (h : MskG m) (x : Int) {p : Nat → Prop} {j : Nat} (hj : j ≤ m) (hp : p j) : ∃ K n, n ≤ m + 12 ∧ K ≤ off m (SetTable.bits x % (m + 1)) (SetTable.bits x) n ∧ p (way m x K) ∧ ∀ k, k < K → ¬ p (way m x k) := by
  obtain ⟨n, hn, e⟩ := h.meets x hj
  have w : way m x (off m (SetTable.bits x % (m + 1)) (SetTable.bits x) n) = j := by
    show (nth m _ (off m _ _ n)).j = j
    rw [nth_off, itL_run]; exact e
  obtain ⟨K, k1, k2, k3⟩ := st_least (p := fun k => p (way m x k)) _ (show p (way m x _) from w ▸ hp)
  exact ⟨K, n, hn, k1, k2, k3⟩
theorem offG_le (m : Nat) : ∀ (n i b : Nat), i ≤ m → off m i b n ≤ 10 * n
  | 0, _, _, _ => Nat.le_refl _
  | n + 1, i, b, hi => by
    have r := runEnd_bd hi
    have := offG_le m n (SetTable.leap m i b).1 (SetTable.leap m i b).2 (leap_le m i b)
    show SetTable.runEnd m i - i + 1 + off m _ _ n ≤ _
    omega
structure TbG (t : SetTable) (hs : List Int) : Prop where
  gm : MskG t.mask
  up : Ris t.place.toList
  nd : t.dummies = #[]
  ln : t.place.toList.length = hs.length
  at_ : ∀ {i : Nat} {x : Int} {j : Nat}, hs[i]? = some x → t.place.toList[i]? = some j → ∃ k, way t.mask x k = j ∧ ∀ c, c < k → way t.mask x c ∈ t.place.toList
variable {t : SetTable} {hs : List Int}
theorem TbG.sz (T : TbG t hs) : t.place.size = hs.length := by rw [← Array.length_toList]; exact T.ln
theorem TbG.end_ (T : TbG t hs) (hl : hs.length ≤ t.mask) (x : Int) : ∃ K, K < 10 * SetTable.turns t.mask ∧ way t.mask x K ∉ t.place.toList ∧ ∀ c, c < K → way t.mask x c ∈ t.place.toList := by
  obtain ⟨j, hj, hn⟩ := st_missing t.place.toList (t.mask + 1) (by rw [T.ln]; omega)
  obtain ⟨K, n, a, b, c, d⟩ := T.gm.firstOf x (p := fun y => y ∉ t.place.toList) (Nat.le_of_lt_succ hj) hn
  have := offG_le t.mask n (SetTable.bits x % (t.mask + 1)) (SetTable.bits x) (Nat.le_of_lt_succ (Nat.mod_lt (SetTable.bits x) (Nat.succ_pos t.mask)))
  exact ⟨K, by unfold SetTable.turns; omega, c, fun k hk => Classical.byContradiction (d k hk)⟩
theorem TbG.met (T : TbG t hs) {x : Int} {K i j : Nat} (hK : way t.mask x K ∉ t.place.toList) (hi : hs[i]? = some x) (hj : t.place.toList[i]? = some j) : ∃ c, c < K ∧ way t.mask x c = j := by
  obtain ⟨k, e, b⟩ := T.at_ hi hj
  refine ⟨k, Classical.byContradiction fun z => ?_, e⟩
  rcases Nat.eq_or_lt_of_le (Nat.le_of_not_lt z) with q | q
  · exact hK (by rw [q, e]; exact List.mem_of_getElem? hj)
  · exact hK (b K q)
theorem TbG.add (T : TbG t hs) {x : Int} {K : Nat} (hK : way t.mask x K ∉ t.place.toList) (hb : ∀ c, c < K → way t.mask x c ∈ t.place.toList) {p : Nat} (ep : p = SetTable.below t.place (way t.mask x K)) :
    p ≤ hs.length ∧ TbG (t.put (way t.mask x K)).1 (hs.take p ++ x :: hs.drop p) ∧ (t.put (way t.mask x K)).1.fill = hs.length + 1 := by
  obtain ⟨le1, _, _⟩ := below_cut T.up (way t.mask x K)
  have pl := put_place t (way t.mask x K)
  have dm := put_dm T.nd (way t.mask x K)
  rw [← ep] at pl le1
  have lp : p ≤ t.place.toList.length := by rw [Array.length_toList]; exact le1
  have lh : p ≤ hs.length := T.ln ▸ lp
  have ris : Ris (t.put (way t.mask x K)).1.place.toList := ris_insert T.up fun e => hK (List.mem_of_getElem? (by rw [Array.getElem?_toList]; exact e))
  have mk : (t.put (way t.mask x K)).1.mask = t.mask := rfl
  generalize (t.put (way t.mask x K)).1 = t1 at pl dm ris mk ⊢
  have ln : t1.place.toList.length = hs.length + 1 := by rw [pl, len_ins _ lp, T.ln]
  refine ⟨lh, ⟨mk ▸ T.gm, ris, dm, by rw [ln, len_ins _ lh], fun {i y j} h1 h2 => ?_⟩, by unfold SetTable.fill; rw [dm, ← Array.length_toList, ln]; rfl⟩
  have inn : ∀ z, z ∈ t.place.toList → z ∈ t1.place.toList := fun z hz => by rw [pl]; exact mem_ins.2 (.inr hz)
  have old : ∀ {i' : Nat}, hs[i']? = some y → t.place.toList[i']? = some j → ∃ k, way t1.mask y k = j ∧ ∀ c, c < k → way t1.mask y c ∈ t1.place.toList := fun a b => by
    obtain ⟨k, e, q⟩ := T.at_ a b
    rw [mk]
    exact ⟨k, e, fun c hc => inn _ (q c hc)⟩
  rw [tins_get hs lh] at h1
  rw [pl, tins_get _ lp] at h2
  split at h1
  · rename_i c; rw [if_pos c] at h2; exact old h1 h2
  · rename_i c
    rw [if_neg c] at h2
    split at h1
    · rename_i d
      rw [if_pos d] at h2
      cases h1; cases h2
      exact ⟨K, by rw [mk], fun c hc => by rw [mk]; exact inn _ (hb c hc)⟩
    · rename_i d; rw [if_neg d] at h2; exact old h1 h2
theorem MskG.seat {m : Nat} (hm : MskG m) {done : List Int} {ow : Array (Option Nat)} (W : Own m done ow) (hl : done.length ≤ m) (x : Int) :
    ∃ j, SetTable.layClean.free m ow (SetTable.turns m) (SetTable.bits x % (m + 1)) (SetTable.bits x) = some j ∧ Own m (done ++ [x]) (ow.setIfInBounds j (some done.length)) := by
  obtain ⟨ps, lps, hps⟩ := W.ps
  obtain ⟨j0, a0, n0⟩ := st_missing ps (m + 1) (by omega)
  have f0 : oAt ow j0 = none := Classical.byContradiction fun z => n0 (hps j0 (Nat.le_of_lt_succ a0) z)
  obtain ⟨K, n, hn, hK, e2, e3⟩ := hm.firstOf x (p := fun j => oAt ow j = none) (Nat.le_of_lt_succ a0) f0
  have fr : SetTable.layClean.free m ow (SetTable.turns m) (SetTable.bits x % (m + 1)) (SetTable.bits x) = some (way m x K) := by
    refine free_spec m ow _ n _ _ K (by unfold SetTable.turns; omega) hK (fun k hk => ?_) (by show (oAt ow (way m x K)).isNone = true; rw [e2]; rfl)
    cases z : oAt ow (way m x k) with
    | none => exact absurd z (e3 k hk)
    | some _ => rfl
  have wl := wayG m x K
  have ws : way m x K < ow.size := by rw [W.sz]; omega
  have here := oAt_set_self (some done.length) ws
  have more : ∀ i, oAt ow i ≠ none → oAt (ow.setIfInBounds (way m x K) (some done.length)) i ≠ none := fun i hi => by
    by_cases c : i = way m x K
    · rw [c, here]; simp
    · rw [oAt_set_ne _ c]; exact hi
  refine ⟨_, fr, ⟨by rw [Array.size_setIfInBounds]; exact W.sz, fun j k hj e => ?_, fun k hk => ?_, way m x K :: ps, by simp [lps], fun j hj e => ?_⟩⟩
  · by_cases c : j = way m x K
    · rw [c, here] at e
      cases e
      exact ⟨x, K, by simp, c.symm, fun k hk => more _ (e3 k hk)⟩
    · rw [oAt_set_ne _ c] at e
      obtain ⟨y, K', a1, a2, a3⟩ := W.at_ j k hj e
      exact ⟨y, K', by rw [List.getElem?_append_left (List.getElem?_eq_some_iff.mp a1).1]; exact a1, a2, fun k hk => more _ (a3 k hk)⟩
  · rw [List.length_append] at hk
    by_cases c : k < done.length
    · obtain ⟨j, hj, e⟩ := W.all k c
      exact ⟨j, hj, by rw [oAt_set_ne _ fun z => by rw [z, e2] at e; cases e]; exact e⟩
    · obtain rfl : k = done.length := by simp at hk; omega
      exact ⟨_, wl, here⟩
  · by_cases c : j = way m x K
    · rw [c]; exact List.mem_cons_self
    · rw [oAt_set_ne _ c] at e; exact List.mem_cons_of_mem _ (hps j hj e)
theorem MskG.seats {m : Nat} (hm : MskG m) : ∀ (rest done : List Int) (ow : Array (Option Nat)), Own m done ow → done.length + rest.length ≤ m →
    ∃ ow', rest.foldl (stepF m) (some (ow, done.length)) = some (ow', (done ++ rest).length) ∧ Own m (done ++ rest) ow'
  | [], done, ow, W, _ => ⟨ow, by simp, by simpa using W⟩
  | x :: rest, done, ow, W, h => by
    simp only [List.length_cons] at h
    obtain ⟨j, e, W1⟩ := hm.seat W (by omega) x
    obtain ⟨o2, f, W2⟩ := hm.seats rest (done ++ [x]) _ W1 (by simp; omega)
    simp only [List.append_assoc, List.singleton_append, List.length_append, List.length_cons, List.length_nil, Nat.zero_add] at f W2
    refine ⟨o2, ?_, W2⟩
    rw [List.foldl_cons, stepF_some e, f, List.length_append, List.length_cons]
theorem MskG.relaid {m wanted : Nat} (hm : MskG m) (hw : SetTable.sizeAbove wanted - 1 = m) (t : SetTable) {ha : Array Int} (hn : ha.size ≤ m) :
    ∃ t' ord, t.relaid ha wanted = some (t', ord) ∧ ord.toList.Perm (List.range ha.size) ∧ TbG t' (ord.toList.map fun i => ha.getD i 0) ∧ t'.mask = m ∧ t'.led = t.led ∧ t'.plain = t.plain := by
  obtain ⟨ow, f, W⟩ := hm.seats ha.toList [] _ (Own.init m) (by simpa using hn)
  rw [List.nil_append] at f W
  have lc : SetTable.layClean m ha = some ow := by rw [layClean_eq]; exact congrArg (Option.map (·.1)) f
  have live : ∀ j k, (j, k) ∈ liveOf m ow ↔ j ≤ m ∧ oAt ow j = some k := fun j k => mem_live W.sz
  have rr := ris_live (fun j => ow.getD j none) (List.range (m + 1)) (by unfold Ris; exact List.pairwise_lt_range)
  have r1 : Ris ((liveOf m ow).map (·.1)) := rr.1
  have nd : ((liveOf m ow).map (·.1)).Nodup := List.Pairwise.imp (fun h => Nat.ne_of_lt h) r1
  have cnt : (liveOf m ow).length = ha.size := by
    obtain ⟨ps, p1, p2⟩ := W.ps
    have le1 := nat_nodup_len ((liveOf m ow).map (·.1)) ps nd fun x hx => by
      obtain ⟨⟨y, k⟩, hq, rfl⟩ := List.mem_map.mp hx
      obtain ⟨b1, b2⟩ := (live y k).1 hq
      exact p2 y b1 (by rw [b2]; simp)
    have le2 := nat_nodup_len (List.range ha.size) ((liveOf m ow).map (·.2)) List.nodup_range fun k hk => by
      obtain ⟨j, b1, b2⟩ := W.all k (by simpa using hk)
      exact List.mem_map.mpr ⟨(j, k), (live j k).2 ⟨b1, b2⟩, rfl⟩
    simp at le1 le2 p1
    omega
  refine ⟨tabOf t m ow, ((liveOf m ow).map (·.2)).toArray, by rw [relaid_eq, hw, lc]; rfl, ?_, ⟨hm, r1, rfl, by simp [tabOf], fun {i x j} h1 h2 => ?_⟩, rfl, rfl, rfl⟩
  · refine perm_range _ _ (by simpa using cnt) fun k hk => ?_
    obtain ⟨j, b1, b2⟩ := W.all k (by simpa using hk)
    exact List.mem_map.mpr ⟨(j, k), (live j k).2 ⟨b1, b2⟩, rfl⟩
  · have h1' : (((liveOf m ow).map (·.2)).map fun i => ha.getD i 0)[i]? = some x := h1
    have h2' : ((liveOf m ow).map (·.1))[i]? = some j := h2
    simp only [List.getElem?_map] at h1' h2'
    cases hq : (liveOf m ow)[i]? with
    | none => simp [hq] at h2'
    | some q =>
      obtain ⟨y, k⟩ := q
      simp only [hq, Option.map_some, Option.some.injEq] at h1' h2'
      subst h2'
      obtain ⟨b1, b2⟩ := (live y k).1 (List.mem_of_getElem? hq)
      obtain ⟨x0, K, a1, a2, a3⟩ := W.at_ y k b1 b2
      have e0 : x0 = x := by
        rw [← h1', Array.getD_eq_getD_getElem?, ← Array.getElem?_toList, a1]; rfl
      subst e0
      refine ⟨K, a2, fun c hc => ?_⟩
      show way m x0 c ∈ (liveOf m ow).map (·.1)
      cases z : oAt ow (way m x0 c) with
      | none => exact absurd z (a3 c hc)
      | some k2 => exact List.mem_map.mpr ⟨(_, k2), (live _ _).2 ⟨wayG m x0 c, z⟩, rfl⟩
section
variable {P : Program} {w : World} {A : Around} {E : Value → Shared → Prop} {s : Shared} {a : Addr} {L : List (Addr × List Int)} {es : Array (Int × Value)} {ep : Nat}
structure StG (P : Program) (w : World) (h : Heap) (a : Addr) (L : List (Addr × List Int)) (es : Array (Int × Value)) (ep : Nat) (t : SetTable) : Prop where
  ob : ∃ o, h.get? a = some o ∧ o.ExactSet ∧ o.data = .set es ep t
  rw_ : es.toList = rowsOf P w L
  tb : TbG t (L.map fun p => thash P w p.2)
  un : (L.map (·.2)).Nodup
  tu : ∀ p ∈ L, IsT P w h p.2 p.1
  pl : t.plain = true
  room : L.length * 5 < t.mask * 3
theorem rowsG_sz (h : es.toList = rowsOf P w L) : es.size = L.length := by rw [← Array.length_toList, h, rowsOf, List.length_map]
theorem rowsG_at (h : es.toList = rowsOf P w L) {i : Nat} {p : Addr × List Int} (e : L[i]? = some p) : es[i]? = some (thash P w p.2, Value.ref p.1) := by
  rw [← Array.getElem?_toList, h, rowsOf, List.getElem?_map, e]; rfl
theorem fitsG {t : SetTable} {n : Nat} (e : t.place.size = n) (d : t.dummies = #[]) (l : n ≤ t.mask) : t.fits n = true := by
  simp [SetTable.fits, SetTable.fill, d, e, l]
theorem StG.fit {t : SetTable} (R : StG P w s.heap a L es ep t) : t.fits es.size = true := by
  have := R.room
  exact fitsG (by rw [R.tb.sz, rowsG_sz R.rw_, List.length_map]) R.tb.nd (by rw [rowsG_sz R.rw_]; omega)
theorem nthG_dm (m : Nat) : ∀ (n : Nat) (p : SetTable.Probe), p.dummy = none → (nth m p n).dummy = none
  | 0, _, h => h
  | n + 1, p, h => nthG_dm m n (adv m p) (by unfold adv; split <;> exact h)
abbrev prG (m : Nat) (x : Int) (c : Nat) : SetTable.Probe := nth m (runAt m (SetTable.bits x % (m + 1)) (SetTable.bits x)) c
theorem prG_add (m : Nat) (x : Int) (c q : Nat) : nth m (prG m x c) q = prG m x (c + q) := (nth_add m c _ q).symm
theorem StG.from {t : SetTable} (R : StG P w s.heap a L es ep t) {x : Addr} {k : List Int} (hx : IsT P w s.heap k x) (hu : A.units < cLine) {N : Nat} (hNf : N < 10 * SetTable.turns t.mask)
    (hN : way t.mask (thash P w k) N ∉ t.place.toList) (hb : ∀ c, c < N → way t.mask (thash P w k) c ∈ t.place.toList) {Q : SetFound → Shared → Prop}
    (hin : k ∈ L.map (·.2) → Q (.there none) s) (hout : k ∉ L.map (·.2) → Q (.free (way t.mask (thash P w k) N) false) s) :
    ∀ (f c : Nat) (st : Option SetTable.Probe), st.getD (t.probeStart (thash P w k)) = prG t.mask (thash P w k) c → c ≤ N → N - c < f →
      (∀ (i : Nat) p c', L[i]? = some p → p.2 = k → c' < c → t.place.toList[i]? ≠ some (way t.mask (thash P w k) c')) →
      wpAny (model P w) A (setSearchFrom a (.ref x) (thash P w k) true f st) Q E s
  | 0, _, _, _, _, hf, _ => absurd hf (Nat.not_lt_zero _)
  | f + 1, c, st, hst, hc, hf, hnp => by
    obtain ⟨o, ho, _, hd⟩ := R.ob
    have lnp : ∀ {i : Nat}, i < L.length ↔ i < t.place.toList.length := by rw [R.tb.ln, List.length_map]; first | done | exact Iff.rfl
    rw [setSearchFrom_succ]
    refine wpAny_bind (wpAny_setState_of ho hd R.fit ?_)
    dsimp only
    refine wp_if_neg (by simp [SetTable.gaveWay, R.tb.gm.odd]) ?_
    try refine wpAny_bind (wpAny_pure ?_)
    have hh : ∀ {i : Nat} {p}, L[i]? = some p → ((es[i]?.map (·.1)).getD 0 : Int) = thash P w p.2 := fun e => by rw [rowsG_at R.rw_ e]; rfl
    have ahead : ∀ {i : Nat} {p}, L[i]? = some p → p.2 = k → ∃ c', c ≤ c' ∧ c' < N ∧ t.place.toList[i]? = some (way t.mask (thash P w k) c') := fun {i p} e ek => by
      have il := lnp.mp (List.getElem?_eq_some_iff.mp e).1
      obtain ⟨c', a1, a2⟩ := R.tb.met hN (i := i) (by rw [List.getElem?_map, e, ← ek]; rfl) (List.getElem?_eq_getElem il)
      have a3 : t.place.toList[i]? = some (way t.mask (thash P w k) c') := by rw [a2]; exact List.getElem?_eq_getElem il
      exact ⟨c', Nat.le_of_not_lt fun z => hnp i p c' e ek z a3, a1, a3⟩
    have spec := go_spec t R.tb.up R.tb.nd (fun i => (es[i]?.map (·.1)).getD 0) (thash P w k) (10 * SetTable.turns t.mask) (N - c) (prG t.mask (thash P w k) c) (nthG_dm _ _ _ rfl) (by omega)
      (fun q hq => by rw [prG_add]; exact hb (c + q) (by omega)) (by rw [prG_add, Nat.add_sub_cancel' hc]; exact hN)
    simp only [prG_add] at spec
    rcases spec with ⟨q, i, hq, hi, hhi, hno, hpr⟩ | ⟨hno, hpr⟩
    · have hp0 : t.probe (fun i => (es[i]?.map (·.1)).getD 0) (thash P w k) (st.getD (t.probeStart (thash P w k))) = some (.candidate (prG t.mask (thash P w k) (c + q)).j i (prG t.mask (thash P w k) (c + (q + 1)))) := by rw [hst]; exact hpr
      rw [hp0]
      dsimp only
      have il : i < L.length := lnp.mpr (List.getElem?_eq_some_iff.mp hi).1
      obtain ⟨p, hp⟩ : ∃ p, L[i]? = some p := ⟨_, List.getElem?_eq_getElem il⟩
      have pm := List.mem_of_getElem? hp
      have go : wpAny (model P w) A (searchRest a (.ref x) (thash P w k) true f es t (prG t.mask (thash P w k) (c + q)).j i (prG t.mask (thash P w k) (c + (q + 1)))) Q E s := by
        unfold searchRest
        rw [rowsG_at R.rw_ hp]
        dsimp only
        refine wpAny_bind (wpAny_holding (wpAny_eqBool_tuple hu (R.tu p pm) hx ?_))
        refine wpAny_bind (wpAny_setState_of ho hd R.fit ?_)
        dsimp only
        by_cases ek : p.2 = k
        · exact wp_if_pos (by simp [ek]) (wpAny_pure (hin (List.mem_map.mpr ⟨p, pm, ek⟩)))
        · refine wp_if_neg (by simp [ek]) ?_
          try refine wpAny_bind (wpAny_pure ?_)
          rw [sameMem]
          dsimp only
          simp only [if_true, slot_live R.tb.up hi, rowsG_at R.rw_ hp]
          refine wpAny_bind (wpAny_isSame_ref_self (wpAny_bind (wpAny_pure ?_)))
          simp only [if_true]
          refine wp_if_neg (by simp [ek]) ?_
          refine R.from hx hu hNf hN hb hin hout f (c + (q + 1)) _ rfl (by omega) (by omega) fun i0 p0 c' h0 k0 hc' h3 => ?_
          rcases Nat.lt_or_ge c' c with z | z
          · exact hnp i0 p0 c' h0 k0 z h3
          · rcases Nat.lt_or_ge c' (c + q) with y | y
            · refine hno (c' - c) i0 (by omega) (by rw [Nat.add_sub_cancel' z]; exact h3) ?_
              exact (hh h0).trans (by rw [k0])
            · obtain rfl : c' = c + q := by omega
              have s1 := slot_live R.tb.up h3
              rw [slot_live R.tb.up hi] at s1
              injection s1 with s1
              rw [← s1, hp] at h0
              exact ek (by rw [Option.some.inj h0]; exact k0)
      by_cases hl : t.led = true
      · refine wp_if_neg (by simp [hl]) ?_
        try refine wpAny_bind (wpAny_pure ?_)
        exact go
      · refine wp_if_pos (by simp [hl]) ?_
        refine wpAny_bind (seen_tup hx (fun y hy => ?_) ?_)
        · obtain ⟨e, he, rfl⟩ := List.mem_map.mp hy
          have he2 : e ∈ es.toList := by simpa using (Array.mem_filter.mp (Array.mem_toList_iff.mp he)).1
          rw [R.rw_] at he2
          obtain ⟨p2, q1, rfl⟩ := List.mem_map.mp he2
          exact ⟨p2.2, p2.1, rfl, R.tu p2 q1⟩
        · refine wp_if_neg (by decide) ?_
          try refine wpAny_bind (wpAny_pure ?_)
          exact go
    · have hp0 : t.probe (fun i => (es[i]?.map (·.1)).getD 0) (thash P w k) (st.getD (t.probeStart (thash P w k))) = some (.empty (prG t.mask (thash P w k) N).j none) := by
        rw [Nat.add_sub_cancel' hc] at hpr
        rw [hst]; exact hpr
      rw [hp0]
      dsimp only
      refine wpAny_pure (hout fun hm => ?_)
      obtain ⟨p0, h0, k0⟩ := List.mem_map.mp hm
      obtain ⟨i0, hi0, rfl⟩ := List.getElem_of_mem h0
      obtain ⟨c', b1, b2, b3⟩ := ahead (List.getElem?_eq_getElem hi0) k0
      exact hno (c' - c) i0 (by omega) (by rw [Nat.add_sub_cancel' b1]; exact b3) ((hh (List.getElem?_eq_getElem hi0)).trans (by rw [k0]))
theorem StG.look {t : SetTable} (R : StG P w s.heap a L es ep t) {x : Addr} {k : List Int} (hx : IsT P w s.heap k x) (hu : A.units < cLine) {Q : SetFound → Shared → Prop} (hin : k ∈ L.map (·.2) → Q (.there none) s)
    (hout : ∀ N, k ∉ L.map (·.2) → way t.mask (thash P w k) N ∉ t.place.toList → (∀ c, c < N → way t.mask (thash P w k) c ∈ t.place.toList) → Q (.free (way t.mask (thash P w k) N) false) s) :
    wpAny (model P w) A (setSearch a (.ref x) (thash P w k) true) Q E s := by
  have := R.room
  have m5 := R.tb.gm.le
  obtain ⟨N, n1, n2, n3⟩ := R.tb.end_ (by rw [List.length_map]; omega) (thash P w k)
  have : N < 100000 := by unfold SetTable.turns at n1; omega
  exact R.from hx hu n1 n2 n3 hin (fun z => hout N z n2 n3) 100000 0 none rfl (Nat.zero_le _) (by omega) fun _ _ _ _ _ z => absurd z (Nat.not_lt_zero _)
theorem StG.relay {t : SetTable} {o : Obj} (ho : s.heap.get? a = some o) (hex : o.ExactSet) (hd : o.data = .set es ep t) (hr : es.toList = rowsOf P w L) (hT : TbG t (L.map fun p => thash P w p.2)) (un : (L.map (·.2)).Nodup) (tu : ∀ p ∈ L, IsT P w s.heap p.2 p.1)
    (hp : t.plain = true) (hl : L.length ≤ t.mask) {wanted m : Nat} (hm : MskG m) (hw : SetTable.sizeAbove wanted - 1 = m) (hn : L.length * 5 < m * 3) {Q : Unit → Shared → Prop}
    (hQ : ∀ h' L' es' ep' t', Heap.SameBut a s.heap h' → StG P w h' a L' es' ep' t' → L'.Perm L → Q () { s with heap := h' }) : wpAny (model P w) A (setRelay a wanted) Q E s := by
  have sz := rowsG_sz hr
  have m5 := hm.le
  obtain ⟨t', ord, e, pm, T', em, _, ep2⟩ := hm.relaid (wanted := wanted) hw t (ha := es.map (·.1)) (by rw [Array.size_map, sz]; omega)
  rw [Array.size_map, sz] at pm
  obtain ⟨L2, r1, r2, r3⟩ := order_rows L es ord hr pm
  rw [← r3] at T'
  have s2 : (ord.filterMap (es[·]?)).size = es.size := by rw [rowsG_sz r1, r2.length_eq, sz]
  rw [setRelay_eq]
  refine wpAny_bind (wpAny_setState_of ho hd (fitsG (by rw [hT.sz, List.length_map, sz]) hT.nd (by rw [sz]; exact hl)) ?_)
  dsimp only
  refine wp_if_neg (by rw [sizeLine_eq]; omega) ?_
  try refine wpAny_bind (wpAny_pure ?_)
  rw [e]
  dsimp only
  refine wpAny_bind ?_
  refine wp_if_neg (by rw [s2]; simp) ?_
  try refine wpAny_bind (wpAny_pure ?_)
  refine wpAny_pure ?_
  dsimp only
  refine wpAny_storeSet_of ho hd ?_ (by rw [s2, sz, sizeLine_eq]; omega)
  have sb : Heap.SameBut a s.heap (s.heap.update a (Obj.putSet (ord.filterMap (es[·]?)) t')) := Heap.SameBut.update ..
  exact hQ _ L2 _ _ t' sb ⟨⟨_, store_at ho hd, ⟨hex.1, hex.2.1, hex.2.2⟩, rfl⟩, r1, T', (r2.map (·.2)).nodup_iff.mpr un, fun p hpm => isT_same (tu p (r2.mem_iff.mp hpm)) ho hd sb, by rw [ep2]; exact hp, by rw [r2.length_eq, em]; exact hn⟩ r2
theorem grow5 : SetTable.sizeAbove (SetTable.grown 5) = 32 := by decide +kernel
theorem grow19 : SetTable.sizeAbove (SetTable.grown 19) = 128 := by decide +kernel
theorem grow77 : SetTable.sizeAbove (SetTable.grown 77) = 512 := by decide +kernel
theorem StG.add {t : SetTable} (R : StG P w s.heap a L es ep t) {x : Addr} {k : List Int} (hx : IsT P w s.heap k x) (hu : A.units < cLine) (hfew : L.length + 1 ≤ 300) {Q : Bool → Shared → Prop}
    (hQ : ∀ b h' L' es' ep' t', Heap.SameBut a s.heap h' → StG P w h' a L' es' ep' t' → (k ∈ L.map (·.2) → L' = L) → (k ∉ L.map (·.2) → L'.Perm ((x, k) :: L)) → Q b { s with heap := h' }) :
    wpAny (model P w) A (setAddHashed a (.ref x) (thash P w k)) Q E s := by
  obtain ⟨o, ho, hex, hd⟩ := R.ob
  have sz := rowsG_sz R.rw_
  have room := R.room
  unfold setAddHashed
  refine wpAny_holding ?_
  rw [show (100000 : Nat) = 99999 + 1 from rfl, setAddHashedIn_succ]
  refine wpAny_bind (wpAny_setState_of ho hd R.fit ?_)
  dsimp only
  refine wp_if_neg (by simp [byScan, Value.scannable]) ?_
  try refine wpAny_bind (wpAny_pure ?_)
  refine wpAny_bind (R.look hx hu (fun hm => ?_) fun N hm hN hb => ?_)
  · dsimp only
    exact wpAny_pure (hQ false s.heap L es ep t (Heap.SameBut.refl a s.heap) R (fun _ => rfl) fun z => absurd hm z)
  · dsimp only
    refine wpAny_bind (wpAny_setState_of ho hd R.fit ?_)
    dsimp only
    obtain ⟨q1, q2, q3⟩ := R.tb.add hN hb rfl
    have e2 : (t.put (way t.mask (thash P w k) N)).2 = SetTable.below t.place (way t.mask (thash P w k) N) := rfl
    have mk : (t.put (way t.mask (thash P w k) N)).1.mask = t.mask := rfl
    have pl : (t.put (way t.mask (thash P w k) N)).1.plain = true := R.pl
    generalize t.put (way t.mask (thash P w k) N) = pt at q2 q3 e2 mk pl ⊢
    obtain ⟨t1, p⟩ := pt
    dsimp only at q2 q3 e2 mk pl ⊢
    rw [← e2] at q1 q2
    first
      | (refine wpAny_bind ?_; refine wp_if_pos pl ?_; refine hashBy_tup hx ?_)
      | refine wp_if_pos pl (wpAny_bind (hashBy_tup hx ?_))
    simp only [if_true]
    have hr1 : (SetTable.insertAt es p (thash P w k, Value.ref x)).toList = rowsOf P w (L.take p ++ (x, k) :: L.drop p) := by rw [SetTable.toList_insertAt, rows_put, R.rw_]
    have hp1 := put_perm L p (x, k)
    have ht1 : TbG t1 ((L.take p ++ (x, k) :: L.drop p).map fun p => thash P w p.2) := by rw [List.map_append, List.map_cons, List.map_take, List.map_drop]; exact q2
    generalize SetTable.insertAt es p (thash P w k, Value.ref x) = es1 at hr1 ⊢
    generalize L.take p ++ (x, k) :: L.drop p = L1 at hr1 hp1 ht1
    have len : L1.length = L.length + 1 := hp1.length_eq
    have un1 : (L1.map (·.2)).Nodup := (hp1.map (·.2)).nodup_iff.mpr (List.nodup_cons.mpr ⟨hm, R.un⟩)
    have sz1 := rowsG_sz hr1
    refine wpAny_bind (wpAny_storeSet_of ho hd ?_ (by rw [sz1, len, sizeLine_eq]; omega))
    have sb : Heap.SameBut a s.heap (s.heap.update a (Obj.putSet es1 t1)) := Heap.SameBut.update ..
    have ho1 := store_at (es' := es1) (t' := t1) ho hd
    generalize s.heap.update a (Obj.putSet es1 t1) = h1 at sb ho1 ⊢
    have tu1 : ∀ p ∈ L1, IsT P w h1 p.2 p.1 := fun p hp => by
      rcases List.mem_cons.mp (hp1.mem_iff.mp hp) with e | hp
      · rw [e]; exact isT_same hx ho hd sb
      · exact isT_same (R.tu p hp) ho hd sb
    have full : t1.tooFull = decide (t.mask * 3 ≤ L1.length * 5) := by
      unfold SetTable.tooFull
      rw [q3, mk, List.length_map, ← len]
    by_cases hf : t.mask * 3 ≤ L1.length * 5
    · have hf' : t1.tooFull = true := full.trans (decide_eq_true hf)
      first
        | (refine wpAny_bind ?_; refine wp_if_pos (by simp [hf']) ?_)
        | (refine wp_if_pos (by simp [hf']) ?_; refine wpAny_bind ?_)
      have go : ∀ m, MskG m → SetTable.sizeAbove (SetTable.grown (es.size + 1)) - 1 = m → L1.length * 5 < m * 3 →
          wpAny (model P w) A (setRelay a (SetTable.grown (es.size + 1))) (fun _ s' => wpAny (model P w) A (pure true) Q E s') E { s with heap := h1 } := fun m a1 a2 a3 =>
        StG.relay (s := { s with heap := h1 }) ho1 ⟨hex.1, hex.2.1, hex.2.2⟩ rfl hr1 ht1 un1 tu1 pl (by rw [mk, len]; have := R.tb.gm.odd; omega) a1 a2 a3 fun h2 L2 es2 ep2 t2 sb2 R2 pm2 =>
          wpAny_pure (hQ true h2 L2 es2 ep2 t2 (sb.trans sb2) R2 (fun z => absurd z hm) fun _ => pm2.trans hp1)
      rw [sz] at go ⊢
      rcases R.tb.gm with e | e | e | e
      · have : L.length = 4 := by omega
        exact go 31 (.inr (.inl rfl)) (by rw [this, grow5]) (by omega)
      · have : L.length = 18 := by omega
        exact go 127 (.inr (.inr (.inl rfl))) (by rw [this, grow19]) (by omega)
      · have : L.length = 76 := by omega
        exact go 511 (.inr (.inr (.inr rfl))) (by rw [this, grow77]) (by omega)
      · omega
    · have hf' : t1.tooFull = false := full.trans (decide_eq_false hf)
      first
        | refine wp_if_neg (by simp [hf']) ?_
        | (refine wpAny_bind ?_; refine wp_if_neg (by simp [hf']) ?_; refine wpAny_pure ?_)
      exact wpAny_pure (hQ true h1 L1 es1 (ep + 1) t1 sb ⟨⟨_, ho1, ⟨hex.1, hex.2.1, hex.2.2⟩, rfl⟩, hr1, ht1, un1, tu1, pl, by rw [mk]; omega⟩ (fun z => absurd z hm) fun _ => hp1)
theorem StG.none {h : Heap} {b : Bool} (ho : h.get? a = some { cls := .type "set", dict := none, data := .set #[] 0 (.fresh 0 0 b) }) : StG P w h a [] #[] 0 (.fresh 0 0 b) :=
  ⟨⟨_, ho, ⟨rfl, rfl, rfl⟩, rfl⟩, rfl, ⟨.inl rfl, List.Pairwise.nil, rfl, rfl, (fun h _ => (by simp at h))⟩, List.nodup_nil, (fun _ h => (by cases h)), rfl, by show 0 * 5 < 7 * 3; decide⟩
end
end M
set_option Elab.async false
set_option linter.all false
set_option maxRecDepth 100000
set_option maxHeartbeats 4000000
namespace M
open PySem PySem.Spec PyProof.Rows L2
section
variable {P : Program} {w : World} {A : Around} {E : Value → Shared → Prop} {s : Shared}
end
section
variable {X : Cx} {c : Cf} {k1 : Kd} {e : Expr} {f : FE} {pos p p2 q : Pos} {k : Kn}
end
end M
set_option Elab.async false
set_option linter.all false
set_option maxRecDepth 100000
set_option maxHeartbeats 4000000
namespace M
open PySem L2
section
instance lawK : LawfulBEq Key where
  eq_of_beq := by
    intro a b h
    cases a with
    | inl x => cases b with
      | inl y => exact congrArg Sum.inl (by simpa using (show (x == y) = true from h))
      | inr y => cases h
    | inr x => cases b with
      | inl y => cases h
      | inr y => exact congrArg Sum.inr (by simpa using (show (x == y) = true from h))
  rfl := by
    intro a
    cases a with
    | inl x => show (x == x) = true; simp
    | inr x => show (x == x) = true; simp
end
end M
set_option Elab.async false
set_option linter.all false
set_option maxRecDepth 100000
set_option maxHeartbeats 4000000
namespace M
open PySem L2 PySem.W PyProof.Rows
section
variable {prog : Program} {w : World} {A : Around} {E : Value → Shared → Prop} {s : Shared} {a kS : Addr} {b : Bool} {vs : List Value} {e1 : Nat} {P : PySem.Fin → Shared → Prop}
end
section
variable {X : Cx} {k : Nat} {f : Addr} {fd : FuncData} {ps : List Str} {sp : Sp}
end
end M
set_option Elab.async false
set_option linter.all false
set_option maxRecDepth 100000
set_option maxHeartbeats 4000000
namespace M
open PySem L2
section
variable {X : Cx} {k : Kn} {c : Cf} {e : Expr} {pos : Pos} {den : List D → R D}
end
end M
set_option Elab.async false
set_option linter.all false
set_option maxRecDepth 100000
set_option maxHeartbeats 4000000
namespace M
open PySem L2 PySem.W PySem.Calls PyProof.Rows
section
variable {prog : Program} {w : World} {A : Around} {E : Value → Shared → Prop} {s : Shared}
variable {κ : KeyKind}
variable {β : Type} {R : Value → β → Prop} {vs : List Value} {bs : List β} {enc : β → PyData}
end
section
variable {X : Cx} {k : Kn}
def srtAD : D → R D
  | .lst ds => if srtOk ds then .ok (.lst (srt ds)) else .fail
  | .tup ds => if srtOk ds then .ok (.lst (srt ds)) else .fail
  | _ => .fail
end
end M
set_option Elab.async false
set_option linter.all false
set_option maxRecDepth 100000
set_option maxHeartbeats 4000000
namespace PySem
namespace SupX
open PySem.W PySem.Calls PyProof.Rows PySem.HandSPX
def Stores : List Str → List Stmt → Prop
  | [], [] => True
  | f :: fs, st :: sts => (∃ p1 p2 p3 p4 : Pos, st = .Assign [.Attribute (.Name "self" p1) f p2] (.Name f p3) p4) ∧ Stores fs sts
  | _, _ => False
def InitBody (fs : List Str) (body : List Stmt) : Prop :=
  ∃ (p0 p1 p2 p3 p4 p5 : Pos) (m : Str) (j : Nat) (sts : List Stmt), body = .Expr (.Call (.Attribute (.Call (.Name "super" p0) [] [] p1) "__init__" p2) [.Constant (.str m) j p3] [] p4) p5 :: sts ∧ (p2.endLine == p4.line) = true ∧ Stores fs sts
structure SupT (prog : Program) (K : Frag) (C fI : Addr) (fs : List Str) : Prop where
  cls : ∃ nm q N bs bm sn sub ab col dd k0 k1 k2 k3 k5, K.lookup C = some (excClassObj nm q C N bs bm true sn sub ab col dd k0 k1 k2 k3 k5 "ValueError.__new__") ∧ refsVE bm = true
  sa : findIn K (.ref C) "__setattr__" = some (some (.builtin "object.__setattr__"))
  noN : ∀ f, f ∈ fs → findIn K (.ref C) f = some none
  nd : ((("self" : Str)) :: fs).Nodup
  nod : ∀ f, f ∈ fs → (f == ("__debug__" : Str)) = false
  sup : ks_superIn K C C "__init__" = some (some (.builtin "ValueError.__init__"))
  isV : subIn K (.ref C) (.type "ValueError") = some true
  mro : mroIn K C (.ref C) = some true
  opq : nsIn K cStatics "thirdparty.any" = some none
  iC : findIn K (.ref C) "__init__" = some (some (.ref fI))
  tI : typeIn K (.ref fI) = some (.type "function")
  sup0 : nsIn K mainGlobals "super" = some none
  htop : (prog.main.scope.names.lookup ("super" : Str)).isSome = false
  fn : ∃ (oc : Value) (od : Option Addr) (qual : Str) (params : Arguments) (body : List Stmt) (scope : Scope) (dV kV doc pm : Value) (an : Option Addr) (ct : Value) (osl : Array (Option Value)) (cda cc : Addr)
      (ccl cl : Value) (cdd cld : Option Addr) (vs : Array Value) (ccs csl : Array (Option Value)) (file : Str) (tf : Tok) (ar : Arg),
    K.lookup fI = some ⟨oc, od, .func (ksFn "__init__" qual params body scope dV kV doc pm an (.ref cda) ct cc), osl⟩ ∧ codeIn K (.ref cda) qual = true ∧ K.lookup cda = some ⟨ccl, cdd, .fields vs, ccs⟩ ∧ vs[2]? = some (.str file tf) ∧
    ((prog.main.file : Str) == file) = true ∧ K.lookup cc = some ⟨cl, cld, .cell (some (.ref C)), csl⟩ ∧ InitBody fs body ∧ (params.posonlyargs ++ params.args).head? = some ar ∧ ar.arg = "self" ∧
    (∀ (s : Shared) (us : List Value), us.length = fs.length + 1 → BindsTo s (ksFn "__init__" qual params body scope dV kV doc pm an (.ref cda) ct cc) ⟨us, []⟩ ((("self" : Str) :: fs).zip us)) ∧
    scope.names.lookup ("super" : Str) = some .globalImplicit ∧ scope.names.lookup ("__class__" : Str) = some .free ∧ (∀ f, f ∈ ("self" : Str) :: fs → scope.names.lookup f = some .local) ∧ scope.kind = .function ∧ scope.isGenerator = false ∧ scope.isCoroutine = false ∧
    (∀ x ∈ scope.names, x.2 ≠ .cell)
def exD (C t : Addr) (d : Option Addr) : Obj := { cls := .ref C, dict := d, data := .fields #[.ref t, .none, .none, .none, .bool false, .none] }
section
variable {prog : Program} {w : World} {A : Around} {E : Value → Shared → Prop} {K : Frag} {C fI : Addr} {fs : List Str}
theorem clsIn_of (T : SupT prog K C fI fs) : ∃ cd, clsIn K C = some cd ∧ cd.hasDict = true ∧ refsVE cd.mro = true ∧ ∃ bm, cd.mro = .ref C :: bm := by
  obtain ⟨nm, q, N, bs, bm, sn, sub, ab, col, dd, k0, k1, k2, k3, k5, hC, hbm⟩ := T.cls
  refine ⟨{ name := nm, bases := bs, mro := .ref C :: bm, ns := N, qualname := q, hasDict := true, slotNames := sn, subclasses := sub, abstract := ab, collection := col, hasDel := false }, ?_, rfl, hbm, bm, rfl⟩
  unfold clsIn; rw [hC] <;> rfl
theorem call_mw {u x t : Addr} {h : Heap} {g : Array GenState} {d : Drawn} {tk : Nat} {os : OsState} {rest : List Value} {Q : Value → Shared → Prop} (T : SupT prog K C fI fs) (X : K.In h)
    (hu : h.get? u = some (kxs_mw "ValueError.__init__" x)) (he : h.get? x = some (exD C t none)) (hz : rest.length ≤ sizeLine)
    (fin : ∀ h' t', (∀ b o, b ≠ x → h.get? b = some o → h'.get? b = some o) → h'.get? x = some (exD C t' none) → Q .none ⟨h', g, d, tk, os⟩) :
    wpAny (model prog w) A (call (.ref u) rest) Q E ⟨h, g, d, tk, os⟩ := by
  obtain ⟨nm, q, N, bs, bm, sn, sub, ab, col, dd, k0, k1, k2, k3, k5, hC, hbm⟩ := T.cls
  refine wpAny_call (codeAny_of_tree ?_)
  show wpAny _ A.in1 (callAny (.ref u) ⟨rest, []⟩) _ _ _
  simp only [callAny]
  refine wpAny_bind (wpAny_load hu ?_)
  simp only [kxs_mw, show (Value.type "method-wrapper" == Value.type "method" || Value.type "method-wrapper" == Value.type "builtin_function_or_method" || Value.type "method-wrapper" == Value.type "method-wrapper") = true by decide, if_true]
  refine KFB.if_so (by decide) ?_
  refine wpAny_bind (check_bound_init F.excBase_ValueError.toExcCallFacts (X _ _ hC) he rfl ?_)
  refine wpAny_bind (wpAny_pure (wpAny_pure ?_))
  refine ⟨plainId_quiet F.excBase_ValueError.init.plain _, codeAny_builtin F.excBase_ValueError.initEntry ?_⟩
  exact exc_init_tree (cls := .ref C) (t0 := t) (dv := none) (c2 := .none) (c3 := .none) (b4 := .bool false) he hz fun h' k1 k2 _ => fin h' _ k1 k2
theorem call_shape {p0 p1 p2 p3 p4 : Pos} {m : Str} {j : Nat} (env : Env) (hpl : (p2.endLine == p4.line) = true) :
    eval (.Call (.Attribute (.Call (.Name "super" p0) [] [] p1) "__init__" p2) [.Constant (.str m) j p3] [] p4) env = (do
      let ov ← attributeBase (.Call (.Name "super" p0) [] [] p1) "__init__" env (eval (.Call (.Name "super" p0) [] [] p1) env)
      standAt p2.atName
      let (f, first) ← holding [ov] (getMethod ov "__init__" (do return (← importBound (.Call (.Name "super" p0) [] [] p1) env).getD true))
      callWith p4 f first (backTo p4 (starEach [.Constant (.str m) j p3] env)) []) := by
  have hmp : ∀ few, methodCallPos few (.Call (.Name "super" p0) [] [] p1) env p2 p4 = pure p4 := fun few => by
    unfold methodCallPos
    rw [hpl, Bool.or_true, if_pos rfl]
  show (attributeBase (.Call (.Name "super" p0) [] [] p1) "__init__" env (eval (.Call (.Name "super" p0) [] [] p1) env) >>= fun ov => standAt p2.atName >>= fun _ =>
    methodCall (.Call (.Name "super" p0) [] [] p1) "__init__" p2 p4 env ov _ _ _) = _
  refine congrArg (_ >>= ·) (funext fun ov => congrArg (_ >>= ·) (funext fun _ => ?_))
  unfold methodCall
  simp only [hmp, pure_bind]
  rfl
theorem kindOf_ks {qual : Str} {scope : Scope} {L cc : Addr} {cda : Value} {y : Str} (h : scope.names.lookup y = some .local) : (ksEnv qual scope L fI cda cc).kindOf y = some .local := h
theorem ldK {M : Model} {s : Shared} {qual : Str} {scope : Scope} {L cc : Addr} {cda : Value} {m : Str → Option Value} {x : Str} {pos : Pos} {v : Value} {Q : Value → Shared → Prop} (hn : s.heap.Ns L m) (hv : m x = some v) (h : Q v s)
    (hk : scope.kind = .function) (hl : scope.names.lookup x = some .local) (hd : (x == ("__debug__" : Str)) = false) :
    wpAny M A (eval (.Name x pos) (ksEnv qual scope L fI cda cc)) Q E s := wpAny_Name (wpAny_loadName_local hk (kindOf_ks hl) hn hv h) hd
theorem ns_keep {h h' : Heap} {L : Addr} {m : Str → Option Value} (hn : h.Ns L m) (k : ∀ o, h.get? L = some o → h'.get? L = some o) : h'.Ns L m := by
  obtain ⟨oL, es, ep, hL, r⟩ := hn
  exact ⟨oL, es, ep, k _ hL, r⟩
def putAll (mD : Str → Option Value) : List Str → List Value → Str → Option Value
  | f :: fs, v :: vs => putAll (fun y => if y = f then some v else mD y) fs vs
  | _, _ => mD
theorem stores_rest {g : Array GenState} {d : Drawn} {os : OsState} {qual : Str} {scope : Scope} {L cc x t dx : Addr} {cda : Value} {m : Str → Option Value} (T : SupT prog K C fI fs) (hk : scope.kind = .function) (hself : m "self" = some (.ref x)) (hsl : scope.names.lookup ("self" : Str) = some .local)
    (hdL : dx ≠ L) (hdx : dx ≠ x) : ∀ (ys : List Str) (vs : List Value) (sts : List Stmt) (h : Heap) (tk : Nat) (mD : Str → Option Value) (nl : List Str) (Q : Flow → Shared → Prop), Stores ys sts → ys.length = vs.length → (∀ y, y ∈ ys → y ∈ fs ∧ scope.names.lookup y = some .local) →
    (∀ (i : Nat) (y : Str), ys[i]? = some y → m y = vs[i]?) → K.In h → (∀ b, b = dx → K.lookup b = none) → h.Ns L m → h.get? x = some (exD C t (some dx)) → h.Ns1 dx mD → Within mD nl → nl.length + ys.length ≤ 1000 →
    (∀ h' tk', (∀ b o, b ≠ dx → h.get? b = some o → h'.get? b = some o) → h'.Ns1 dx (putAll mD ys vs) → Q .next ⟨h', g, d, tk', os⟩) →
    wpAny (model prog w) A (execs sts (ksEnv qual scope L fI cda cc)) Q E ⟨h, g, d, tk, os⟩
  | [], [], [], h, tk, mD, nl, Q, _, _, _, _, _, _, _, _, hD, _, _, fin => wpAny_execs_nil (fin h tk (fun _ _ _ e => e) hD)
  | [], [], _ :: _, _, _, _, _, _, hs, _, _, _, _, _, _, _, _, _, _, _ => (by cases hs)
  | [], _ :: _, _, _, _, _, _, _, _, hl, _, _, _, _, _, _, _, _, _, _ => (by cases hl)
  | _ :: _, [], _, _, _, _, _, _, _, hl, _, _, _, _, _, _, _, _, _, _ => (by cases hl)
  | _ :: _, _ :: _, [], _, _, _, _, _, hs, _, _, _, _, _, _, _, _, _, _, _ => (by cases hs)
  | y :: ys, v :: vs, st :: sts, h, tk, mD, nl, Q, hs, hl, hy, hm, X, hKd, hn, hx, hD, hw, hz, fin => by
    obtain ⟨⟨p1, p2, p3, p4, rfl⟩, hs2⟩ := hs
    obtain ⟨hyf, hyl⟩ := hy y (List.mem_cons_self ..)
    obtain ⟨cd, hcd, hhd, hmr, _⟩ := clsIn_of T
    refine wpAny_execs_cons (plainObj_wpAny_Assign_Attribute ?_)
    refine ldK (v := v) hn (by have := hm 0 y rfl; simpa using this) (ldK (v := .ref x) hn hself ?_ hk hsl (by decide)) hk hyl (T.nod y hyf)
    obtain ⟨oD, _, _, hoD, _, _⟩ := hD.count hw
    refine set_plain X (ox := exD C t (some dx)) (od := some oD) ⟨hx, rfl, rfl, hoD⟩ T.sa ?_
    refine PySem.OEX.osa_old X hx hD hw (by rw [List.length_cons] at hz; omega) hcd hmr hhd (T.noN y hyf) fun h3 tk3 k3 hD3 => ?_
    refine stores_rest T hk hself hsl hdL hdx ys vs sts h3 tk3 (fun z => if z = y then some v else mD z) (y :: nl) Q hs2 (Nat.succ.inj hl) (fun z hz => hy z (List.mem_cons_of_mem _ hz)) (fun i z hi => by have := hm (i + 1) z (by simpa using hi); simpa using this)
      (fun b o e => k3 b o (fun z => by rw [hKd b z] at e; cases e) (X b o e)) hKd (ns_keep hn fun o q => k3 _ _ hdL.symm q) (k3 _ _ hdx.symm hx) hD3 (Within.cons y v hw) (by rw [List.length_cons] at hz ⊢; omega) fun h' tk' k' hD' => ?_
    exact fin h' tk' (fun b o hb e => k' b o hb (k3 b o hb e)) hD'
theorem lookup_nd {α : Type} : ∀ {l : List (Str × α)} {k : Str} {v : α}, (l.map (·.1)).Nodup → (k, v) ∈ l → l.lookup k = some v
  | (k', v') :: l, k, v, hn, hm => by
    rw [List.map_cons, List.nodup_cons] at hn
    rcases List.mem_cons.mp hm with e | hm2
    · cases e; simp [List.lookup]
    · have : (k == k') = false := by
        simp only [beq_eq_false_iff_ne, ne_eq]
        intro e
        subst e
        exact hn.1 (List.mem_map.mpr ⟨(k, v), hm2, rfl⟩)
      simp only [List.lookup, this]
      exact lookup_nd hn.2 hm2
structure InitEnd (h h' : Heap) (x C dx t : Addr) (mD : Str → Option Value) : Prop where
  keep : ∀ b o, b ≠ x → h.get? b = some o → h'.get? b = some o
  obj : h'.get? x = some (exD C t (some dx))
  dbig : h.objs.size ≤ dx
  dne : dx ≠ x
  ns : h'.Ns1 dx mD
theorem sup_init {f0 : Str} {R : Result → Shared → Prop} {s : Shared} {mg mb : Str → Option Value} (T : SupT prog K C fI (f0 :: fs)) {x t0 : Addr} {v0 : Value} {vs : List Value} (hlen : fs.length = vs.length) (hfl : fs.length ≤ 900) (X : K.In s.heap) (hlim : s.heap.NoLimit)
    (G : s.heap.Ns mainGlobals mg) (Bn : s.heap.Ns builtinsNs mb) (hb : mb "super" = bootBuiltins "super") (hx : s.heap.get? x = some (exD C t0 none)) (hnx : K.lookup x = none) (hroom : A.depth < recursionLimit)
    (hq : ∀ h' tk dx t, InitEnd s.heap h' x C dx t (putAll (fun y => if y = f0 then some v0 else none) fs vs) → R (.ok (.ret .none)) { s with heap := h', toks := tk }) :
    codeAny (model prog w) A (.call (.ref fI) ⟨.ref x :: v0 :: vs, []⟩) R s := by
  obtain ⟨oc, od, qual, params, body, scope, dV, kV, doc, pm, an, ct, osl, cda, cc, ccl, cl, cdd, cld, fv, ccs, csl, file, tf, ar, lk, hcd, lcda, hvs, hfile, lcc, hbody, har, harg, hbind, hks, hkc, hloc, hk, hgen, hco, hcell⟩ := T.fn
  obtain ⟨p0, p1, p2, p3, p4, p5, m, j, sts, rfl, hpl, hst⟩ := hbody
  cases sts with
  | nil => cases hst
  | cons st sts =>
  obtain ⟨⟨q1, q2, q3, q4, rfl⟩, hst2⟩ := hst
  obtain ⟨cd, hcl, hhd, hmr, bm, hbm⟩ := clsIn_of T
  have hzl : (((("self" : Str) :: f0 :: fs)).zip (Value.ref x :: v0 :: vs)).map (·.1) = ("self" : Str) :: f0 :: fs := by
    rw [List.map_fst_zip]; simp [hlen]
  refine ks_codeAny_call_defAt (binds := (("self" : Str) :: f0 :: fs).zip (Value.ref x :: v0 :: vs)) hroom (X _ _ lk) rfl hlim (codeRec_of X hcd) rfl (hbind s _ (by simp [hlen])) hcell (fun y hy => hloc _ (List.of_mem_zip hy).1) (fun h1 hns hk1 => ?_) hco hgen hk
  have X1 : K.In h1 := X.keeps hk1
  have look : ∀ (y : Str) (u : Value), (y, u) ∈ (("self" : Str) :: f0 :: fs).zip (Value.ref x :: v0 :: vs) → ((("self" : Str) :: f0 :: fs).zip (Value.ref x :: v0 :: vs)).reverse.lookup y = some u := fun y u hm =>
    lookup_nd (by rw [List.map_reverse, hzl]; exact (List.reverse_perm _).nodup_iff.mpr T.nd) (List.mem_reverse.mpr hm)
  have hself : ((("self" : Str) :: f0 :: fs).zip (Value.ref x :: v0 :: vs)).reverse.lookup ("self" : Str) = some (Value.ref x) := look _ _ (by simp)
  have hf0 : ((("self" : Str) :: f0 :: fs).zip (Value.ref x :: v0 :: vs)).reverse.lookup f0 = some v0 := look _ _ (by simp)
  have hx1 := hk1 _ _ hx
  have hxL : s.heap.objs.size ≠ x := Nat.ne_of_gt (Heap.lt_size hx)
  obtain ⟨oD, hD1, hD2⟩ : ∃ oD, h1.get? C = some oD ∧ oD.data = .cls cd := by
    unfold clsIn at hcl
    split at hcl
    · rename_i c d cd' sl ho
      cases hcl
      exact ⟨_, X1 _ _ ho, rfl⟩
    · cases hcl
  have hsl := hloc ("self" : Str) (List.mem_cons_self ..)
  refine ks_wpAt_execs_cons (ks_wpAt_Expr_any (hi := by unfold interactive; show (scope.kind == _ && _) = false; rw [hk]; rfl) (ks_wpAt_MethodCall (he := call_shape _ hpl) ?_))
  refine ks_wpAt_super_base (env := ksEnv qual scope s.heap.objs.size fI (.ref cda) cc) hks hkc rfl rfl (X1 _ _ lk) rfl har rfl (X1 _ _ lcda) rfl hvs hfile T.htop ?_
  refine ks_loadName_global hk hks (loadGlobal_builtin (env := ksEnv qual scope s.heap.objs.size fI (.ref cda) cc) (G.keeps hk1) (mg_none_of X G T.sup0) (Bn.keeps hk1) (hb.trans (by decide +kernel)) ⟨rfl, ?_⟩)
  refine wpAny_loadName_free hk hkc rfl ⟨_, X1 _ _ lcc, rfl⟩ ?_
  rw [harg]
  refine wpAny_loadName_local hk hsl hns hself ?_
  refine ks_wpAny_isType_cls hD1 hD2 ⟨rfl, ?_⟩
  have hCC : Looks (model prog w) h1 (isSubtype (.ref C) (.ref C)) true := looks_mroIn X1 T.mro
  refine ks_wpAny_call_super hD1 hD2 hx1 rfl (fun c e => by cases e) hCC fun h2 e2 k2 => ?_
  have X2 : K.In h2 := X1.keeps k2
  have hx2 := k2 _ _ hx1
  have hns2 := hns.keeps k2
  have hmro : Looks (model prog w) h2 (mroOf (.ref C)) cd.mro := fun A Q E s k q => wpAny_bind ((looks_clsIn X2 hcl) A _ E s k (wpAny_pure q))
  have hI : Looks (model prog w) h2 (isInstance (.ref x) (.type "ValueError")) true := (InstAt.type (ox := exD C t0 none) (od := none) ⟨hx2, rfl, rfl, trivial⟩).andThen (looks_subIn X2 T.isV)
  have hxC : x ≠ C := fun e => by
    obtain ⟨_, _, _, _, _, _, _, _, _, _, _, _, _, _, _, hC, _⟩ := T.cls
    rw [e, hC] at hnx; cases hnx
  have hsup : alongIn K "__init__" ((cd.mro.dropWhile (· != .ref C)).drop 1) = some (some (.builtin "ValueError.__init__")) := by
    have := T.sup
    unfold ks_superIn at this
    rw [hcl] at this
    exact this
  refine kxs_getMethod kxs_ValueError e2 (looks_opaque X2 T.opq) hmro rfl X2 hsup hI hxC rfl ?_
  obtain ⟨u, hu⟩ : ∃ u, h2.objs.size = u := ⟨_, rfl⟩
  have hmw : (h2.push (kxs_mw "ValueError.__init__" x)).get? u = some (kxs_mw "ValueError.__init__" x) := by rw [← hu]; exact Heap.get?_push_at rfl rfl
  have k3 : ∀ b o, h2.get? b = some o → (h2.push (kxs_mw "ValueError.__init__" x)).get? b = some o := fun b o e => Heap.get?_push_of_some _ e
  have X3 := X2.keeps k3
  rw [hu]
  show wpAny _ _ (callWith p4 (.ref u) [] (backTo p4 (starEach [.Constant (.str m) j p3] _)) []) _ _ _
  refine kxs_callWith (i := "ValueError.__init__") (x := x) rfl ?_
  refine evalArgs_plain (spliced_cons ?_)
  show wpAny _ _ (eval (.Constant (.str m) j p3) _) _ _ _
  refine wpAny_Constant_str ?_
  refine spliced_nil ⟨hmw, ?_⟩
  have hx3 := k3 _ _ hx2
  refine call_mw T X3 hmw hx3 (by show 1 ≤ sizeLine; rw [sizeLine_eq]; omega) fun h4 t4 k4 hx4 => ?_
  have X4 : K.In h4 := fun b o e => k4 b o (fun z => by rw [z, hnx] at e; cases e) (X3 b o e)
  have hns4 : h4.Ns s.heap.objs.size (fun y => ((("self" : Str) :: f0 :: fs).zip (Value.ref x :: v0 :: vs)).reverse.lookup y) := ns_keep (hns2.keeps k3) fun o q => k4 _ _ hxL q
  refine wpAt_of_wpAny (wpAny_execs_cons (plainObj_wpAny_Assign_Attribute ?_))
  have hf0l := hloc f0 (by simp)
  refine ldK (v := v0) hns4 hf0 (ldK (v := .ref x) hns4 hself ?_ hk hsl (by decide)) hk hf0l (T.nod f0 (List.mem_cons_self ..))
  refine set_plain X4 (ox := exD C t4 none) (od := none) ⟨hx4, rfl, rfl, trivial⟩ T.sa ?_
  refine exc_osa X4 hx4 hcl hmr hhd (T.noN f0 (List.mem_cons_self ..)) fun h5 tk5 dx k5 dn dne hx5 hD5 => ?_
  have dn : h4.objs.size ≤ dx := dn
  have hL5 : s.heap.objs.size < h4.objs.size := hns4.lt
  have hdL : dx ≠ s.heap.objs.size := by omega
  have X5 : K.In h5 := fun b o e => k5 b o (fun z => by rw [z, hnx] at e; cases e) (X4 b o e)
  have hKd : K.lookup dx = none := by
    cases e : K.lookup dx with
    | none => rfl
    | some o =>
      exact absurd (Heap.lt_size (show h4.get? dx = some o from X4 _ _ e)) (Nat.not_lt.mpr dn)
  have hns5 := ns_keep hns4 fun o q => k5 _ _ hxL q
  have old : ∀ b o, b ≠ x → s.heap.get? b = some o → h5.get? b = some o := fun b o hb e => k5 b o hb (k4 b o hb (k3 b o (k2 b o (hk1 b o e))))
  refine stores_rest T hk hself hsl hdL dne fs vs sts h5 tk5 (fun y => if y = f0 then some v0 else none) [f0] _ hst2 hlen (fun y hy => ⟨List.mem_cons_of_mem _ hy, hloc y (by simp [hy])⟩) (fun i y hi => ?_) X5 (fun b e => by rw [e]; exact hKd) hns5 hx5 hD5 (fun y hy => ?_) (by simp; omega) fun h' tk' k' hD' => ?_
  · have hi' : i < vs.length := by rw [← hlen]; exact (List.getElem?_eq_some_iff.mp hi).1
    rw [List.getElem?_eq_getElem hi']
    refine look _ _ ?_
    rw [List.zip_cons_cons, List.zip_cons_cons]
    refine List.mem_cons_of_mem _ (List.mem_cons_of_mem _ (List.mem_of_getElem? (i := i) ?_))
    rw [List.getElem?_zip_eq_some]
    exact ⟨hi, List.getElem?_eq_getElem hi'⟩
  · by_cases e : y = f0
    · simp [e]
    · simp [e] at hy
  · exact hq h' tk' dx t4 ⟨fun b o hb e => k' b o (fun z => absurd (Heap.lt_size (show s.heap.get? dx = some o from z ▸ e)) (Nat.not_lt.mpr (Nat.le_trans (Nat.le_of_lt hL5) dn))) (old b o hb e), k' _ _ dne.symm hx5, Nat.le_trans (Nat.le_of_lt hL5) dn, dne, hD'⟩
end
end SupX
end PySem
set_option Elab.async false
set_option linter.all false
set_option maxRecDepth 100000
set_option maxHeartbeats 4000000
namespace PySem
namespace SupX
open PySem.W PySem.Calls PyProof.Rows PySem.HandSPX
structure Made (h h' : Heap) (e C d : Addr) (mD : Str → Option Value) : Prop where
  keep : ∀ b o, h.get? b = some o → h'.get? b = some o
  new : h.objs.size ≤ e
  obj : ∃ t, h'.get? e = some (exD C t (some d))
  dbig : h.objs.size ≤ d
  dne : d ≠ e
  ns : h'.Ns1 d mD
section
variable {prog : Program} {w : World} {A : Around} {E : Value → Shared → Prop} {K : Frag} {C fI : Addr} {fs : List Str}
theorem sup_made {f0 : Str} {R : Result → Shared → Prop} {s : Shared} {mg mb : Str → Option Value} (T : SupT prog K C fI (f0 :: fs)) {v0 : Value} {vs : List Value} (hlen : fs.length = vs.length) (hfl : fs.length ≤ 900) (X : K.In s.heap) (hlim : s.heap.NoLimit)
    (G : s.heap.Ns mainGlobals mg) (Bn : s.heap.Ns builtinsNs mb) (hb : mb "super" = bootBuiltins "super") (hroom : A.depth + 1 < recursionLimit)
    (hq : ∀ h' tk e d, Made s.heap h' e C d (putAll (fun y => if y = f0 then some v0 else none) fs vs) → R (.ok (.ret (.ref e))) { s with heap := h', toks := tk }) :
    codeAny (model prog w) A (.call (.ref C) ⟨v0 :: vs, []⟩) R s := by
  obtain ⟨nm, q, N, bs, bm, sn, sub, ab, col, dd, k0, k1, k2, k3, k5, hC, hbm⟩ := T.cls
  obtain ⟨hp, g, dr, tk, os⟩ := s
  have k : ∀ b o, hp.get? b = some o → ((hp.push (kdv_tup (v0 :: vs))).push (excO C hp.objs.size)).get? b = some o := fun b o e => Heap.get?_push_of_some _ (Heap.get?_push_of_some _ e)
  have hget : ((hp.push (kdv_tup (v0 :: vs))).push (excO C hp.objs.size)).get? (hp.objs.size + 1) = some (excO C hp.objs.size) := by heap_get
  have hnx : K.lookup (hp.objs.size + 1) = none := by
    cases e : K.lookup (hp.objs.size + 1) with
    | none => rfl
    | some o =>
      have z : hp.get? (hp.objs.size + 1) = some o := X _ _ e
      exact absurd (Nat.lt_of_succ_lt (Heap.lt_size z)) (Nat.lt_irrefl _)
  have hsz : (v0 :: vs).length ≤ sizeLine := by
    rw [sizeLine_eq, List.length_cons, ← hlen]
    omega
  refine call_own F.excBase_ValueError (fun X => refsVE_contains X bm hbm) (X _ _ hC) (looks_findIn X T.iC) (fun self => bind_fn X self T.tI) hsz ?_
  refine sup_init (s := ⟨(hp.push (kdv_tup (v0 :: vs))).push (excO C hp.objs.size), g, dr, tk, os⟩) T hlen hfl (X.keeps k) (hlim.keeps k) (G.keeps k) (Bn.keeps k) hb hget hnx ?_ fun h' tk' dx t ⟨k', hx, dn, dne, hns⟩ => ?_
  · show A.depth + 1 < recursionLimit
    exact hroom
  · have old : ∀ b o, hp.get? b = some o → h'.get? b = some o := fun b o e => k' b o (Nat.ne_of_lt (Nat.lt_succ_of_lt (Heap.lt_size e))) (k b o e)
    have z : hp.objs.size + 1 + 1 ≤ dx := by
      first
        | (simpa only [Heap.size_push] using dn)
        | exact dn
        | (have q := dn; rw [Heap.size_push, Heap.size_push] at q; exact q)
    exact ⟨rfl, hq h' tk' (hp.objs.size + 1) dx ⟨old, Nat.le_succ _, ⟨_, hx⟩, Nat.le_trans (Nat.le_trans (Nat.le_succ _) (Nat.le_succ _)) z, dne, hns⟩⟩
end
end SupX
end PySem
namespace M
open PySem L2 PySem.W PySem.Calls PyProof.Rows
theorem zip_look : ∀ {fs : List Str} {vs : List V} {us : List Value} (mD : Str → Option Value) (pre : List (Str × V)), Vals vs us → fs.length = vs.length → fs.Nodup → (∀ f, f ∈ fs → pre.lookup f = none) → (∀ f, RelO (pre.lookup f) (mD f)) → ∀ f, RelO ((pre ++ fs.zip vs).lookup f) (PySem.SupX.putAll mD fs us f)
  | [], [], _, mD, pre, .nil, _, _, _, h, f => by
    simp only [List.zip_nil_left, List.append_nil]
    exact h f
  | x :: fs, v :: vs, u :: us, mD, pre, .cons r rs, hl, hn, hd, h, f => by
    rw [List.nodup_cons] at hn
    have e : pre ++ (x :: fs).zip (v :: vs) = (pre ++ [(x, v)]) ++ fs.zip vs := by simp
    rw [e]
    show RelO _ (PySem.SupX.putAll (fun y => if y = x then some u else mD y) fs us f)
    have look : ∀ g, (pre ++ [(x, v)]).lookup g = (pre.lookup g).or (if g = x then some v else none) := fun g => by
      rw [List.lookup_append]
      congr 1
      by_cases hg : g = x
      · subst hg; simp [List.lookup]
      · rw [if_neg hg]
        have : (g == x) = false := by simpa using hg
        simp [List.lookup, this]
    refine zip_look _ (pre ++ [(x, v)]) rs (Nat.succ.inj hl) hn.2 (fun g hg => ?_) (fun g => ?_) f
    · rw [look, hd g (List.mem_cons_of_mem _ hg), if_neg (fun (z : g = x) => hn.1 (z ▸ hg))]; rfl
    · rw [look]
      by_cases hg : g = x
      · subst hg
        rw [hd g (List.mem_cons_self ..), if_pos rfl, if_pos rfl]
        exact r
      · rw [if_neg hg, if_neg hg, Option.or_none]
        exact h g
  | [], _ :: _, _, _, _, .cons _ _, hl, _, _, _, _ => by cases hl
  | _ :: _, [], _, _, _, .nil, hl, _, _, _, _ => by cases hl
section
variable {X : Cx} {C fI : Addr}
def tMkS (C : Addr) (fs : List Str) (ta : TA) : L2.St → Hp → XK → Prop := fun σ H Q => ta σ H fun vs H1 => fs.length = vs.length ∧ ∀ d, H1 d = none → Q (.ref C) (some d) (upd H1 d (.xd (fs.zip vs)))
theorem pmk_sup {x : Str} {f0 : Str} {fs : List Str} {e : Expr} {es : List Expr} {ta : TA} {p pos : Pos} {k : Nat} (T : PySem.SupX.SupT X.prog X.K C fI (f0 :: fs)) (hfl : fs.length ≤ 900) (gC : X.mg x = some (.ref C)) (kC : PySem.W.keepIn X.K (.ref C) = true) (r : Raises X (.ref C)) (hr : Room k X.A)
    (ha : PA X (e :: es) ta) (hg : Gl X x := by rfl) (hdb : (x == ("__debug__" : Str)) = false := by decide)
    (he : starEach (e :: es) X.env = (false, eval e X.env) :: starEach es X.env := by rfl) (hpl : (backTo pos (starEach es X.env)).any (·.1) = false := by rfl) :
    L2N.PMk X (.Call (.Name x p) (e :: es) [] pos) (tMkS C (f0 :: fs) ta) := by
  intro pins s σ H Q I h
  refine wpAny_Call_Name_kw (ld_glob I hg gC ?_ hdb)
  refine PySem.W.callWith_K (h₀ := X.base) I.ok.mod.kin kC (thn (ha.run pos pins s σ H _ I h) fun us s1 hh => ?_) he hpl
  obtain ⟨vs, H1, I1, r1, hl, q1⟩ := hh
  refine ⟨I1.kIn, ?_⟩
  cases r1 with
  | nil => cases hl
  | cons rv rn =>
    rename_i v u vs' us''
    show wpAny _ _ (call (.ref C) (_ :: _)) _ _ _
    have hlim := I1.nolimit
    obtain ⟨mb, hb1, hb2⟩ := I1.mod.blt
    have hlen : fs.length = us''.length := by
      have := rn.length
      simp only [List.length_cons] at hl
      omega
    have hnd : (f0 :: fs).Nodup := (List.nodup_cons.mp T.nd).2
    have G := I1.mod.glob.keeps I1.bk
    have Bn := hb1.keeps I1.bk
    obtain ⟨hp, g, dr, tk, os⟩ := s1
    refine wpAny_call (PySem.SupX.sup_made T hlen hfl I1.kIn hlim G Bn (hb2 _ (by decide)) (by have := hr.dp; omega) fun h' tk' e d M => ?_)
    show L2N.MkP X pins σ Q (.ref e) ⟨h', g, dr, tk', os⟩
    obtain ⟨t, hoe⟩ := M.obj
    have hns := M.ns
    obtain ⟨G', g1, g2⟩ := restrict h' fun b => decide (b ≠ e)
    have gk : ∀ b, b ≠ e → G'.get? b = h'.get? b := fun b hb => g1 b (decide_eq_true hb)
    have ge : G'.get? e = none := g2 e (by simp)
    have old : ∀ b o, hp.get? b = some o → G'.get? b = some o := fun b o q => (gk b (Nat.ne_of_lt (Nat.lt_of_lt_of_le (Heap.lt_size q) M.new))).trans (M.keep b o q)
    have ob : ObjOk X.prog X.w (upd H1 d (.xd ((f0 :: fs).zip (v :: vs')))) G' d (.xd ((f0 :: fs).zip (v :: vs'))) := by
      refine ⟨_, hns.at (fun o q => (gk d M.dne).trans q), fun f => ?_⟩
      have z := zip_look (fun _ => none) [] (show Vals (v :: vs') (u :: us'') from .cons rv rn) hl hnd (fun _ _ => rfl) (fun _ => True.intro) f
      exact z
    have J : L2.Inv X pins σ (upd H1 d (.xd ((f0 :: fs).zip (v :: vs')))) ⟨G', g, dr, tk', os⟩ := I1.laid (t' := tk') old M.dbig ob
    refine ⟨e, _, _, ⟨G', g, dr, tk', os⟩, _, .ref C, some d, rfl, J, fun b o q => ?_, ge, hoe, ⟨rfl, rfl, fun vs e => by cases e; rfl⟩, rfl, rfl, ?_, rfl, I1.bare, r, q1 d (I1.hok.fresh M.dbig)⟩
    · by_cases hb : b = e
      · have q' : G'.get? b = some o := q
        rw [hb, ge] at q'; cases q'
      · exact (gk b hb).symm.trans q
    · rw [upd_ne (Ne.symm M.dne)]
      exact I1.hok.fresh M.new
end
end M
set_option Elab.async false
set_option linter.all false
set_option maxRecDepth 100000
set_option maxHeartbeats 4000000
namespace M
open PySem L2
def xix : Nat := 1000000
def Kn.at (k : Kn) (a : Addr) : Kn := ⟨k.K, fun i => if i = xix then some (a, []) else k.cl i⟩
mutual
def D.noX : D → Bool
  | .cls c => decide (c ≠ xix)
  | .obj c xs => decide (c ≠ xix) && D.noXs xs
  | .tup xs => D.noXs xs
  | .lst xs => D.noXs xs
  | .dic _ xs => D.noXs xs
  | .dit _ xs => D.noXs xs
  | .dkf _ xs => D.noXs xs
  | .dig _ xs => D.noXs xs
  | .dgf _ xs => D.noXs xs
  | _ => true
def D.noXs : List D → Bool
  | [] => true
  | x :: xs => x.noX && D.noXs xs
end
theorem Kn.at_cl {k : Kn} {a : Addr} {i : Nat} (h : i ≠ xix) : (k.at a).cl i = k.cl i := if_neg h
theorem Kn.up {k : Kn} {a : Addr} (h0 : k.cl xix = none) {i : Nat} {p : Addr × List Str} (h : k.cl i = some p) : (k.at a).cl i = some p := by
  rw [Kn.at_cl]; exact h
  rintro rfl; rw [h0] at h; cases h
mutual
theorem RD.up {k : Kn} {G : Hp} {a : Addr} (h0 : k.cl xix = none) : ∀ {d : D} {v : V}, RD k G d v → RD (k.at a) G d v
  | _, _, .non => .non
  | _, _, .bl b => .bl b
  | _, _, .int i => .int i
  | _, _, .str x => .str x
  | _, _, .ty n => .ty n
  | _, _, .tup h r => .tup h (RDs.up h0 r)
  | _, _, .lst h r => .lst h (RDs.up h0 r)
  | _, _, .scr h => .scr h
  | _, _, .cls h => .cls (Kn.up h0 h)
  | _, _, .dic h l r => .dic h l (RDs.up h0 r)
  | _, _, .dit h l r => .dit h l (RDs.up h0 r)
  | _, _, .dkf h l r => .dkf h l (RDs.up h0 r)
  | _, _, .dig h l kk r => .dig h l kk (RDs.up h0 r)
  | _, _, .dgf h l kk r => .dgf h l kk (RDs.up h0 r)
  | _, _, .obj c h r => .obj (Kn.up h0 c) h (RDs.up h0 r)
theorem RDs.up {k : Kn} {G : Hp} {a : Addr} (h0 : k.cl xix = none) : ∀ {ds : List D} {vs : List V}, RDs k G ds vs → RDs (k.at a) G ds vs
  | _, _, .nil => .nil
  | _, _, .cons a b => .cons (RD.up h0 a) (RDs.up h0 b)
end
mutual
theorem RD.down {k : Kn} {G : Hp} {a : Addr} : ∀ {d : D} {v : V}, RD (k.at a) G d v → d.noX = true → RD k G d v
  | _, _, .non, _ => .non
  | _, _, .bl b, _ => .bl b
  | _, _, .int i, _ => .int i
  | _, _, .str x, _ => .str x
  | _, _, .ty n, _ => .ty n
  | _, _, .tup h r, q => by simp only [D.noX] at q; exact .tup h (RDs.down r q)
  | _, _, .lst h r, q => by simp only [D.noX] at q; exact .lst h (RDs.down r q)
  | _, _, .scr h, _ => .scr h
  | _, _, .cls h, q => by simp only [D.noX, decide_eq_true_eq] at q; rw [Kn.at_cl q] at h; exact .cls h
  | _, _, .dic h l r, q => by simp only [D.noX] at q; exact .dic h l (RDs.down r q)
  | _, _, .dit h l r, q => by simp only [D.noX] at q; exact .dit h l (RDs.down r q)
  | _, _, .dkf h l r, q => by simp only [D.noX] at q; exact .dkf h l (RDs.down r q)
  | _, _, .dig h l kk r, q => by simp only [D.noX] at q; exact .dig h l kk (RDs.down r q)
  | _, _, .dgf h l kk r, q => by simp only [D.noX] at q; exact .dgf h l kk (RDs.down r q)
  | _, _, .obj c h r, q => by
    simp only [D.noX, Bool.and_eq_true, decide_eq_true_eq] at q
    rw [Kn.at_cl q.1] at c
    exact .obj c h (RDs.down r q.2)
theorem RDs.down {k : Kn} {G : Hp} {a : Addr} : ∀ {ds : List D} {vs : List V}, RDs (k.at a) G ds vs → D.noXs ds = true → RDs k G ds vs
  | _, _, .nil, _ => .nil
  | _, _, .cons a b, q => by
    simp only [D.noXs, Bool.and_eq_true] at q
    exact .cons (RD.down a q.1) (RDs.down b q.2)
end
theorem Gc.up {mg : Str → Option Value} {k : Kn} {x : Str} {d : D} {a : Addr} (h0 : k.cl xix = none) (h : Gc mg k x d) : Gc mg (k.at a) x d := by
  obtain ⟨v, u, h1, h2, h3⟩ := h.ex
  exact ⟨v, u, h1, h2, fun G => (h3 G).up h0⟩
section
variable {P : Program} {w : World} {K : PySem.W.Frag} {mg : Str → Option Value} {base : Heap}
theorem fn_okX {k : Kn} {fr : Bool} {as : List Nat} {x qual : Str} {params : Arguments} {body : List Stmt} {scope : Scope} {dvs : List V} {kws : List (Str × V)} {f : Addr} {fd : FuncData} {N ps : List Str} {lv : Nat} {s : FS} (F : FunD K x qual params body scope dvs kws f fd) (S : FnScope N ps scope)
    (hb : ∀ (cdv : Value) (A : Around) (outer : List PySem.Env) (sh : Shared) (H G0 : Hp) (E : XK), Room lv (A.deeper (PyProof.Rows.envOfC qual scope sh.heap.objs.size f cdv)) → L2N.Takes (cxOf (L2N.CX P w) P w K mg base N qual scope f cdv A outer sh H E) (liftX E) →
      PB' (cxOf (L2N.CX P w) P w K mg base N qual scope f cdv A outer sh H E) ⟨k, H, G0, liftX E⟩ fr as body s) :
    FnOk P w K mg base (L2N.CX P w) (lv + 1) f fd ps (SpF k fr ps.length (runF fr N.length s)) := by
  refine F.ok S (fun vs H Q E q => q.1) fun cdv A outer sh H vs Q E hr q => ?_
  exact body_ok (X := cxOf (L2N.CX P w) P w K mg base N qual scope f cdv A outer sh H E) (fun G0 => hb cdv A outer sh H G0 E hr (L2N.takes_of rfl rfl rfl rfl)) q
end
structure CalleeX (P : Program) (w : World) (K : PySem.W.Frag) (mg : Str → Option Value) (base : Heap) (k : Kn) (lv : Nat) (x : Str) (n : Nat) (fr : Bool) (den : List D → R D) : Prop where
  ex : ∃ (f : Addr) (fd : FuncData) (ps : List Str), ps.length = n ∧ FnOk P w K mg base (L2N.CX P w) lv f fd ps (SpF k fr n den) ∧ mg x = some (.ref f) ∧ PySem.W.keepIn K (.ref f) = true ∧ Binds K fd ps []
structure MethodX (P : Program) (w : World) (K : PySem.W.Frag) (mg : Str → Option Value) (base : Heap) (k : Kn) (lv : Nat) (ci : Nat) (m : Str) (n : Nat) (fr : Bool) (den : List D → R D) : Prop where
  ex : ∃ (C f : Addr) (fd : FuncData) (ps nm : List Str), ps.length = n ∧ k.cl ci = some (C, nm) ∧ m ∉ nm ∧ Cls K C ∧ Meth K C m f ∧ FnOk P w K mg base (L2N.CX P w) lv f fd ps (SpF k fr n den) ∧ Binds K fd ps []
structure MakerX (P : Program) (w : World) (K : PySem.W.Frag) (mg : Str → Option Value) (base : Heap) (k : Kn) (lv : Nat) (x : Str) (ci n : Nat) (den : List D → R D) : Prop where
  ex : ∃ (C f : Addr) (fd : FuncData) (ps : List Str) (nm : List Str), ps.length = n + 1 ∧ k.cl ci = some (C, nm) ∧ Mk K C f ∧ FnOk P w K mg base (L2N.CX P w) lv f fd ps (SpN k ci (n + 1) den) ∧ mg x = some (.ref C) ∧ Binds K fd ps []
section
variable {X : Cx} {c : Cf} {kd k1 k2 k3 : Kd} {a b e o : Expr} {f g h : FE} {pos apos : Pos} {fr : Bool} {x : Str} {den : List D → R D} {ci : Nat}
def eCX (o : List D → R D) (g : FA) : FE := fun S => g S >>= fun xs => o xs
theorem callX_go {n : Nat} {fa : FA} {σ : L2.St} {H : Hp} {Q : VK} (hl : ∀ S ds, fa S = .ok ds → ds.length = n) (q : RdE c (kdOf fr) (eCX den fa) σ H Q) : RdA c false fa σ H fun vs H1 => SpF c.k fr n den vs H1 Q (WE c.W σ) := by
  obtain ⟨G, S, rel, p⟩ := q
  have p : PostE c (kdOf fr) G S σ H Q (fa S >>= fun ds => den ds) := p
  refine ⟨G, S, rel, ?_⟩
  cases e0 : fa S with
  | exc x => rw [e0] at p; exact p
  | fail => rw [e0] at p; exact p
  | ok ds =>
    rw [e0] at p
    intro vs G1 H1 s1 q1
    have q1 : RDs c.k G1 ds vs := q1
    refine ⟨by rw [← q1.length]; exact hl S ds e0, G1, ds, s1.gh, q1, ?_⟩
    have p : PostE c (kdOf fr) G S σ H Q (den ds) := p
    cases e1 : den ds with
    | ok d => rw [e1] at p; exact fun v G' H' s2 r2 => p v G' H' (s1.trans s2) (r2.mono s1.h)
    | exc x =>
      rw [e1] at p
      have p : PX c σ x := p
      exact fun _ cls da G' H' s2 xr => p cls da G' H' ((rel.grow s1).st.trans s2) xr
    | fail => rw [e1] at p; exact p.elim
theorem d_callX {lv m n : Nat} {p : Pos} {es : List Expr} {fa : FA} (F : CalleeX X.prog X.w X.K X.mg X.base c.k lv x n fr den) (hr : Room m X.A) (hle : lv ≤ m) (tk : L2N.Takes X c.W) (ha : PA' X c false (e :: es) fa) (hl : Len n fa) (hg : Gl X x := by rfl) (hdb : (x == ("__debug__" : Str)) = false := by decide)
    (hs : starEach (e :: es) X.env = (false, eval e X.env) :: starEach es X.env := by rfl) (hs2 : ((backTo pos (starEach es X.env)).any fun x => x.1) = false := by rfl) : PE' X c (kdOf fr) (.Call (.Name x p) (e :: es) [] pos) (eCX den fa) := by
  obtain ⟨f, fd, ps, hn, ok, hm, hk, hb⟩ := F.ex
  exact peI (pe_callS ok (hr.mono hle) hg hm hk hb (fun σ => L2N.passAt tk σ) ha hdb hs hs2) fun σ H Q q => callX_go hl q
def eMX (ci : Nat) (den : List D → R D) (f : FE) (fa : FA) : FE := fun S => f S >>= fun o => if o.isObj ci then fa S >>= fun ds => den (o :: ds) else .fail
end
end M
set_option Elab.async false
set_option linter.all false
set_option maxRecDepth 100000
set_option maxHeartbeats 4000000
namespace M
open PySem L2
section
variable {X : Cx} {c : Cf} {kd k1 k2 k3 : Kd} {a b e o : Expr} {f g h : FE} {pos apos : Pos} {fr : Bool} {x : Str} {den : List D → R D} {ci : Nat}
structure RaO (K : PySem.W.Frag) (mg : Str → Option Value) (k : Kn) (x : Str) (ci : Nat) : Prop where
  ex : ∃ C, k.cl ci = some (C, []) ∧ PySem.W.excIn K C [.type "ValueError", .type "Exception", .type "BaseException", .type "object"] "ValueError.__new__" = true ∧ mg x = some (.ref C) ∧ PySem.W.keepIn K (.ref C) = true ∧
    PySem.W.subIn K (.ref C) (.type "BaseException") = some true ∧ PySem.W.typeIn K (.ref C) = some (.type "type")
structure RaI (P : Program) (K : PySem.W.Frag) (mg : Str → Option Value) (k : Kn) (x : Str) (ci : Nat) (fs : List Str) : Prop where
  ex : ∃ C fI, k.cl ci = some (C, fs) ∧ fs ≠ [] ∧ fs.length ≤ 900 ∧ PySem.SupX.SupT P K C fI fs ∧ mg x = some (.ref C) ∧ PySem.W.keepIn K (.ref C) = true ∧
    PySem.W.subIn K (.ref C) (.type "BaseException") = some true ∧ PySem.W.typeIn K (.ref C) = some (.type "type")
def sExc0 (ci : Nat) : FS := fun _ => .exc ⟨ci, []⟩
def sExcI (ci n : Nat) (fa : FA) : FS := fun S => fa S >>= fun ds => if ds.length = n then .exc ⟨ci, ds⟩ else .fail
theorem s_raiseI {m n : Nat} {p pos' : Pos} {es : List Expr} {fa : FA} {fs : List Str} (R : RaI X.prog X.K X.mg c.k x ci fs) (hn : fs.length = n) (hr : Room m X.A) (hc : X.calm = true) (tk : L2N.Takes X c.W) (ha : PA' X c false (e :: es) fa) (hg : Gl X x := by rfl) (hdb : (x == ("__debug__" : Str)) = false := by decide)
    (he : starEach (e :: es) X.env = (false, eval e X.env) :: starEach es X.env := by rfl) (hpl : (backTo pos (starEach es X.env)).any (·.1) = false := by rfl) :
    PS' X c fr [] (.Raise (some (.Call (.Name x p) (e :: es) [] pos)) none pos') (sExcI ci n fa) := by
  obtain ⟨C, fI, hcl, hne, hfl, T, h2, h3, h4, h5⟩ := R.ex
  cases fs with
  | nil => exact absurd rfl hne
  | cons f0 fs =>
  refine psI (L2N.ps_raise hc tk (pmk_sup T (by simp at hfl; omega) h2 h3 (raises_own h4 h5) hr ha hg hdb he hpl)) fun Dn σ H ⟨G, S, rel, p⟩ => ?_
  have p : PostS c fr [] G S σ H Dn (fa S >>= fun ds => if ds.length = n then .exc ⟨ci, ds⟩ else .fail) := p
  refine ⟨G, S, rel, ?_⟩
  cases e0 : fa S with
  | exc x => rw [e0] at p; exact p _
  | fail => rw [e0] at p; exact p
  | ok ds =>
    rw [e0] at p
    intro vs G1 H1 s1 q1
    have q1 : RDs c.k G1 ds vs := q1
    have p : PostS c fr [] G S σ H Dn (if ds.length = n then .exc ⟨ci, ds⟩ else .fail) := p
    by_cases hd : ds.length = n
    · rw [if_pos hd] at p
      have p : PXs c ⟨ci, ds⟩ := p
      refine ⟨by rw [hn, ← hd, q1.length], fun d hd0 => ?_⟩
      have sp := s1.trans (Step.new' (o := .xd ((f0 :: fs).zip vs)) s1.gh hd0)
      exact p σ (.ref C) (some d) _ _ (rel.grow sp).st ⟨C, f0 :: fs, hcl, rfl, .inr ⟨d, vs, rfl, upd_same, q1, by rw [hn, ← hd, q1.length]⟩⟩
    · rw [if_neg hd] at p; exact p.elim
end
end M
set_option Elab.async false
set_option linter.all false
set_option maxRecDepth 100000
set_option maxHeartbeats 4000000
namespace M
open PySem L2
def PostS1 (c : Cf) (fr : Bool) (as : List Nat) (G : Hp) (S : Env) (σ : L2.St) (H : Hp) (Dn : Ends) : R (Fl × Env) → Prop
  | .ok z => PostS c fr as G S σ H Dn (.ok z)
  | .exc x => PX c σ x
  | .fail => False
def RdS1 (c : Cf) (fr : Bool) (as : List Nat) (f : FS) : TS := fun Dn σ H => ∃ G S, Rel c G S σ H ∧ PostS1 c fr as G S σ H Dn (f S)
abbrev PS1' (X : Cx) (c : Cf) (fr : Bool) (as : List Nat) (st : Stmt) (f : FS) : Prop := PS X st (RdS1 c fr as f)
abbrev PB1' (X : Cx) (c : Cf) (fr : Bool) (as : List Nat) (sts : List Stmt) (f : FS) : Prop := PSs X sts (RdS1 c fr as f)
theorem PostS1.of {c : Cf} {fr : Bool} {as : List Nat} {G : Hp} {S : Env} {σ : L2.St} {H : Hp} {Dn : Ends} {r : R (Fl × Env)} (p : PostS c fr as G S σ H Dn r) : PostS1 c fr as G S σ H Dn r := by
  cases r with
  | ok z => exact p
  | exc x => exact p σ
  | fail => exact p
section
variable {X : Cx} {c : Cf} {kd k1 k2 k3 : Kd} {a b e o : Expr} {f g h : FE} {t u : FT} {s r : FS} {pos apos : Pos} {fr : Bool} {x : Str} {den : List D → R D} {ci : Nat} {as bs : List Nat} {st : Stmt} {sts : List Stmt}
theorem s1_drop (he : PE' X c kd e f) (hs : swapsWith e none pos.line X.env = pure false := by rfl) : PS1' X c fr [] (.Expr e pos) (sDrop f) :=
  psI (ps_expr he hs) fun Dn σ H ⟨G, S, rel, p⟩ => by
    refine rdE_go (g := fun d => .ok (Fl.nx, S)) (Post := PostS1 c fr [] G S σ H Dn) rel p (fun _ z => z) (fun z => z) fun d v G' H' sp q p1 => ?_
    exact p1 G' σ H' sp.g (rel.grow sp) (Frm.step rel sp)
theorem PostS1.gr {G H G' H' : Hp} {S : Env} {σ : L2.St} {Dn : Ends} {q : R (Fl × Env)} (rel : Rel c G S σ H) (sp : Step G H G' H') (p : PostS1 c fr as G S σ H Dn q) : PostS1 c fr as G' S σ H' Dn q := by
  cases q with
  | ok z => exact PostS.gr rel sp p
  | exc x => exact p
  | fail => exact p
theorem PostS1.sub {as' : List Nat} {G H : Hp} {S : Env} {σ : L2.St} {Dn : Ends} {q : R (Fl × Env)} (hs : ∀ i, i ∈ as' → i ∈ as) (p : PostS1 c fr as G S σ H Dn q) : PostS1 c fr as' G S σ H Dn q := by
  cases q with
  | ok z => exact PostS.sub hs p
  | exc x => exact p
  | fail => exact p
theorem b1_one (h1 : PS1' X c fr as st s) : PB1' X c fr as [st] s := pss_one h1
def noOwn (S : Env) : Bool := S.all fun o => match o with
  | some ⟨true, _⟩ => false
  | _ => true
theorem noOwn_at {S : Env} (h : noOwn S = true) {i : Nat} {d : D} (q : S[i]? = some (some ⟨true, d⟩)) : False := by
  have := List.all_eq_true.mp h _ (List.mem_of_getElem? q)
  simp at this
def hndF (h : FS) (S : Env) : R (Fl × Env) := match h S with
  | .ok (.rt d, _) => if d.noX then .ok (.rt d, S) else .fail
  | _ => .fail
def sTryAs (mt : Nat → Option Bool) (i : Nat) (s : FS) (hnd : Exc → FS) : FS := fun S => if noOwn S then (match s S with
  | .ok z => .ok z
  | .fail => .fail
  | .exc x => match mt x.c with
    | some true => hndF (hnd x) (S.set i (some ⟨false, .cls xix⟩))
    | some false => .exc x
    | none => .fail) else .fail
theorem Rel.rebase {G H : Hp} {S : Env} {σ : L2.St} {W : WX} (rel : Rel c G S σ H) (h : noOwn S = true) : Rel ⟨c.k, H, G, W⟩ G S σ H :=
  ⟨Step.refl rel.st.gh, rel.len, rel.fz, fun i d q => (noOwn_at h q).elim, fun i j a o _ => by obtain ⟨⟨d, q⟩, _⟩ := o; exact (noOwn_at h q).elim⟩
theorem Rel.back {G H G' H' : Hp} {S S' : Env} {σ σ' : L2.St} {W : WX} (rel : Rel c G S σ H) (r2 : Rel ⟨c.k, H, G, W⟩ G' S' σ' H') : Rel c G' S' σ' H' :=
  ⟨rel.st.trans r2.st, r2.len, r2.fz, fun i d q => by
    obtain ⟨a, o, e, g, h0, ho, ct⟩ := r2.ow i d q
    exact ⟨a, o, e, g, rel.st.h.free h0, ho, ct⟩, r2.nd⟩
theorem s_tryAs {n : Str} {cv : Value} {i : Nat} {body suite : List Stmt} {b₀ : Stmt} {np pos' : Pos} {hnd : Exc → FS} {mt : Nat → Option Bool}
    (hs : X.stack = X.env :: X.outer) (hf : X.env.frame = some X.env.locals) (hN : X.N.Nodup) (hi : X.N[i]? = some n) (hln : X.env.kindOf n = some .local) (hcn : Names X x cv) (tk : L2N.Takes X c.W) (h0 : c.k.cl xix = none)
    (hm : ∀ ci b, mt ci = some b → ∃ C nm, c.k.cl ci = some (C, nm) ∧ PySem.W.exmOne X.K (.ref C) cv = some b)
    (hb : ∀ (W : WX) (pn : List (Addr × Obj)) (xe : Value → Shared → Prop) (H0 G0 : Hp), L2N.Takes (X.tr pn xe) W → PassesOwn (model X.prog X.w) X.A X.env xe → PB1' (X.tr pn xe) ⟨c.k, H0, G0, W⟩ false as body s)
    (hsu : ∀ (a : Addr) (oe : Obj) (cls : Value) (d : Option Addr) (pn : List (Addr × Obj)) (H0 G0 : Hp) (y : Exc), L2N.Zn cls d oe → (∃ vs, oe.data = .fields vs) → XR ⟨c.k, H0, G0, liftX E0⟩ G0 y cls d H0 →
      PB' (X.suite a ((a, oe) :: pn)) ⟨c.k.at a, H0, G0, liftX E0⟩ false bs (b₀ :: suite) (hnd y)) :
    PS' X c false as (.Try body [.ExceptHandler (some (.Name x np)) (some n) (b₀ :: suite) pos'] [] [] pos) (sTryAs mt i s hnd) := by
  refine psI (L2N.ps_try_as (tb := fun W => fun D σ H => ∃ G, RdS1 ⟨c.k, H, G, W⟩ false as s D σ H) (ts := fun a cls d => fun D σ H => ∃ (y : Exc) (G : Hp), XR ⟨c.k, H, G, liftX E0⟩ G y cls d H ∧ RdS ⟨c.k.at a, H, G, liftX E0⟩ false bs (hnd y) D σ H) (Wout := c.W)
    hs hf hN hi hln hcn tk (fun W pn xe tkW pa => ⟨fun pins s σ H D I ⟨G, q⟩ => (hb W pn xe H G tkW pa).run pins s σ H D I q⟩) (fun a oe cls d pn hz hd => ⟨fun pins s σ H D I ⟨y, G, xr, q⟩ => (hsu a oe cls d pn H G y hz hd xr).run pins s σ H D I q⟩)) fun Dn σ H ⟨G, S, rel, p⟩ => ?_
  have p : PostS c false as G S σ H Dn (if noOwn S then _ else .fail) := p
  by_cases hno : noOwn S = true
  · rw [if_pos hno] at p
    refine ⟨G, G, S, rel.rebase hno, ?_⟩
    cases e1 : s S with
    | fail => rw [e1] at p; exact p.elim
    | ok z =>
      rw [e1] at p
      obtain ⟨fl, S1⟩ := z
      cases fl with
      | nx => exact fun G' σ' H' ex r2 fm => p G' σ' H' ex (rel.back r2) fm
      | bk => exact fun G' σ' H' ex r2 fm => p G' σ' H' ex (rel.back r2) fm
      | ct => exact fun G' σ' H' ex r2 fm => p G' σ' H' ex (rel.back r2) fm
      | rt d => exact fun v G' H' sp rv ow => p v G' H' (rel.st.trans sp) rv ow
    | exc y =>
      rw [e1] at p
      have p : PostS c false as G S σ H Dn (match mt y.c with
        | some true => hndF (hnd y) (S.set i (some ⟨false, .cls xix⟩))
        | some false => .exc y
        | none => .fail) := p
      intro cls da G' H' sp xr
      have sp : Step G H G' H' := sp
      cases em : mt y.c with
      | none => rw [em] at p; exact p.elim
      | some b =>
        rw [em] at p
        obtain ⟨C, nm, hcl, hex⟩ := hm y.c b em
        have hcls : cls = .ref C := by
          obtain ⟨C', nm', h1, h2, _⟩ := xr
          have h1 : c.k.cl y.c = some (C', nm') := h1
          rw [hcl] at h1; cases h1; exact h2
        refine ⟨b, by rw [hcls]; exact hex, fun hb1 a ha => ?_, fun hb1 => ?_⟩
        · subst hb1
          have p : PostS c false as G S σ H Dn (hndF (hnd y) (S.set i (some ⟨false, .cls xix⟩))) := p
          have relK : Rel ⟨c.k.at a, H', G', liftX E0⟩ G' S σ H' := ⟨Step.refl sp.gh, rel.len, fun i d q => by
            obtain ⟨v, e, r⟩ := rel.fz i d q
            exact ⟨v, e, (r.mono sp.g).up h0⟩, fun i d q => (noOwn_at hno q).elim, fun i j a o _ => by obtain ⟨⟨d, q⟩, _⟩ := o; exact (noOwn_at hno q).elim⟩
          have hx : RD (c.k.at a) G' (.cls xix) (.ref a) := .cls (nm := []) (show (if xix = xix then some (a, []) else c.k.cl xix) = some (a, []) from if_pos rfl)
          refine ⟨y, G', xr, G', _, relK.setS i hx, ?_⟩
          unfold hndF at p
          cases e2 : hnd y (S.set i (some ⟨false, .cls xix⟩)) with
          | exc z => rw [e2] at p; exact p.elim
          | fail => rw [e2] at p; exact p.elim
          | ok z =>
            rw [e2] at p
            obtain ⟨fl, S2⟩ := z
            cases fl with
            | nx => exact p.elim
            | bk => exact p.elim
            | ct => exact p.elim
            | rt d =>
              dsimp only at p
              by_cases hd : d.noX = true
              · rw [if_pos hd] at p
                intro v G2 H2 sp2 rv _
                have sp2 : Step G' H' G2 H2 := sp2
                have rv : RD (c.k.at a) G2 d v := rv
                exact p v G2 H2 ((rel.st.trans sp).trans sp2) (rv.down hd) ⟨σ, fun _ _ => rfl, fun j d q => by
                  by_cases hj : i = j
                  · subst hj
                    have hl : i < S.length := by have := (List.getElem?_eq_some_iff.mp q).1; rwa [List.length_set] at this
                    rw [List.getElem?_set_self hl] at q; cases q
                  · rw [List.getElem?_set_ne hj] at q; exact (noOwn_at hno q).elim⟩
              · rw [if_neg hd] at p; exact p.elim
        · subst hb1
          have p : PXs c y := p
          exact p σ cls da G' H' (rel.st.trans sp) xr
  · rw [if_neg hno] at p; exact p.elim
end
end M
set_option Elab.async false
set_option linter.all false
set_option maxRecDepth 100000
set_option maxHeartbeats 4000000
namespace PySem
namespace SupX
open PySem.W PySem.Spec PySem.Calls PyProof.Rows
section
variable {prog : Program} {w : World} {A : Around} {E : Value → Shared → Prop} {s : Shared} {K : Frag} {x D : Addr} {ox : Obj} {od : Option Obj}
theorem findObj_data {C : Addr} {name : Str} {a g : Value} (hc : (clsIn K C).isSome = true) (ha : findIn K (.ref C) name = some (some a)) (hg : specialIn K a "__get__" = some (some g)) (ht : takesIn K a = some true) : findObj K C od name = some (.bind g a) := by
  obtain ⟨cd, hc⟩ := Option.isSome_iff_exists.mp hc
  unfold findObj
  rw [hc, Option.bind_some, ha, Option.bind_some]
  simp [hg, ht]
theorem kin_class {Q : Option Value → Shared → Prop} (hga : findIn K (.ref D) "__getattribute__" = some (some (.builtin "BaseException.__getattribute__"))) (hgt : findIn K (.ref D) "__getattr__" = some none) (hsub : subIn K (.ref D) (.type "BaseException") = some true)
    (hdct : hasDictIn K D = true) (ha : findIn K (.ref D) "__class__" = some (some (.builtin "object.__class__")))
    (hn : specialIn K (.builtin "object.__class__") "__get__" = some (some (.builtin "getset_descriptor.__get__"))) (htk : takesIn K (.builtin "object.__class__") = some true) (hm : mroIn K D (.type "object") = some true)
    (X : K.In s.heap) (I : InstAt s.heap x ox D od) (h : Q (some (.ref D)) { s with toks := s.toks + 1 }) : wpAny (model prog w) A (getAttr? (.ref x) "__class__") Q E s := by
  have hf : findObj K D od "__class__" = some (.bind (.builtin "getset_descriptor.__get__") (.builtin "object.__class__")) := findObj_data (by obtain ⟨cd, hc, _⟩ := any_some hdct; rw [hc]; rfl) ha hn htk
  obtain ⟨hp, g, d, t, os⟩ := s
  have L0 := I.type (M := model prog w)
  have L1 := looks_findIn (M := model prog w) X hga
  have L2 := looks_findIn (M := model prog w) X hgt
  have L3 := looks_find (M := model prog w) X I hf
  have sub : Looks (model prog w) hp (isInstance (.ref x) (.type "BaseException")) true := L0.andThen (looks_subIn X hsub)
  have hx0 : (false && onTheHeap (Value.builtin "BaseException.__getattribute__")) = false := rfl
  have hx2 : (Value.builtin "BaseException.__getattribute__" == Value.builtin "object.__getattribute__") = false := by decide +kernel
  have hx1 : (onTheHeap (Value.ref D) && Value.builtin "BaseException.__getattribute__" == Value.builtin "object.__getattribute__") = false := by rw [hx2]; rfl
  unfold getAttr? getAttrBy? getAttrBy
  refine wpAny_bind (wpAny_mkText (wpAny_bind (wpAny_attempt (wpAny_holding (wpAny_bind (L0.at (wpAny_bind (L1.at ?_))))))))
  show wpAny _ _ (if (onTheHeap (Value.ref D) && Value.builtin "BaseException.__getattribute__" == Value.builtin "object.__getattribute__") = true then _ else _) _ _ _
  rw [hx1, if_neg Bool.false_ne_true]
  unfold getAttrByItsOwn hookBefore
  refine wpAny_bind ?_
  rw [if_pos (show onTheHeap (Value.ref D) = true from rfl)]
  refine L2.at ?_
  refine wpAny_bind (wpAny_attempt (wpAny_holding ?_))
  unfold callGetattribute
  rw [hx0, if_neg Bool.false_ne_true]
  unfold boundAndCalled
  rw [PySem.F.excAttr_ValueError.ga.bind (.ref x)]
  refine wpAny_bind (wpAny_pure ?_)
  show wpAny _ _ (call (.builtin "BaseException.__getattribute__") [.ref x, .str "__class__" t]) _ _ _
  refine wpAny_call (codeAny_call_builtin PySem.F.excAttr_ValueError.ga.plain PySem.F.entry_bexc_ga ?_)
  refine @check_slot (model prog w) _ _ ⟨hp, g, d, t + 1, os⟩ "BaseException.__getattribute__" "BaseException" "__getattribute__" (.ref x) [.str "__class__" t] [] _ (by decide +kernel) (by decide +kernel) sub (PySem.F.args_bexc_ga (.ref x) (.str "__class__" t)) ?_
  unfold Builtin.«object.__getattribute__»
  refine wpAny_bind (wpAny_of_eq (a := ((Value.ref x : Value), [Value.str "__class__" t])) (by first | rfl | (simp only [slotArgs]; rfl)) ?_)
  refine wpAny_bind (wpAny_pure (wpAny_bind (L0.at (wpAny_bind (L3.at ?_)))))
  show wpAny _ _ (holding [Value.builtin "object.__class__"] (call (.builtin "getset_descriptor.__get__") [.builtin "object.__class__", .ref x, .ref D]) >>= ret) _ _ _
  refine wpAny_bind (wpAny_holding (wpAny_call (class_get (s := ⟨hp, g, d, t + 1, os⟩) (ox := ox) (od := od) X I hm ?_)))
  refine wpAny_pure ?_
  show wpAny _ _ (handedOut (.ref D)) _ _ _
  rw [handedOut_of (v := .ref D) rfl]
  first
    | exact wpAny_pure (wpAny_pure h)
    | exact wpAny_pure h
    | exact wpAny_pure (wpAny_bind (wpAny_pure (wpAny_pure h)))
theorem kitx_exc (C : L2.ExcC K D) : KitX K (.ref x) (.ref D) (fun h => ∃ ox od, InstAt h x ox D od) where
  ty := fun _ _ _ ⟨_, _, I⟩ => I.type
  it := fun _ _ X _ => by
    obtain ⟨cdD, hcD, _⟩ := any_some C.hd
    unfold clsIn at hcD
    split at hcD
    · rename_i c' d' cd' sl' ho
      intro A' Q' E' s' k q
      unfold isType loadHead
      exact wpAny_bind (wpAny_loadPart (k _ _ (X _ _ ho)) (wpAny_pure q))
    · cases hcD
  ne := fun h tp dd its n sl X htp => by
    obtain ⟨cdD, hcD, _⟩ := any_some C.hd
    refine Bool.eq_false_iff.mpr fun q => ?_
    have e : D = tp := Value.ref.inj (beq_iff_eq.mp q)
    subst e
    unfold clsIn at hcD
    split at hcD
    · rename_i c' d' cd' sl' ho
      have z := (X _ _ ho).symm.trans htp
      cases z
    · cases hcD
  ca := fun X ⟨_, _, I⟩ k => kin_class C.hg C.hk C.hs C.hd C.ha C.hn C.ht C.hm X I k
end
end SupX
end PySem
set_option Elab.async false
set_option linter.all false
set_option maxRecDepth 100000
set_option maxHeartbeats 4000000
namespace M
open PySem L2
theorem Kn.at_x {k : Kn} {a : Addr} : (k.at a).cl xix = some (a, []) := (show (if xix = xix then some (a, []) else k.cl xix) = some (a, []) from if_pos rfl)
def rIsX (K : PySem.W.Frag) (Dx a : Addr) (d : Option Addr) : List V → Hp → VK → Prop := fun xs H Q => ∃ (c : V) (b : Bool), xs = [.ref a, c] ∧ ExcC K Dx ∧ (∀ dd, d = some dd → ∃ fs, H dd = some (.xd fs)) ∧
  ((∃ cv, (∀ u, RelV c u → u = cv) ∧ PySem.W.kitOne K (.ref Dx) cv = some b) ∨ ∃ tp cs cvs, c = .ref tp ∧ SqT K H tp cs ∧ (∀ us, Vals cs us → us = cvs) ∧ PySem.W.kitAny K (.ref Dx) cvs = some b) ∧ Q (.bl b) H
theorem call_isX {X : Cx} {a Dx : Addr} {oe : Obj} {d : Option Addr} (hin : (a, oe) ∈ X.pn) (hz : Zc (.ref Dx) d oe) (hf : ∃ vs, oe.data = .fields vs) : CallR X (.builtin "isinstance") (rIsX X.K Dx a d) := by
  intro pins s σ H xs us Q I r h
  obtain ⟨c, b, rfl, C, hdd, hc, q⟩ := h
  obtain ⟨u1, u2, rfl, r1, r2⟩ := vals2 r
  cases (show u1 = Value.ref a from r1)
  obtain ⟨hget, _⟩ := I.pin (a, oe) (List.mem_append.mpr (.inl hin))
  obtain ⟨vs, hv⟩ := hf
  have J : ∃ ox od, PySem.W.InstAt s.heap a ox Dx od := by
    obtain ⟨oc, od, oda, osl⟩ := oe
    obtain ⟨h1, h2⟩ := hz
    dsimp only at h1 h2 hv
    subst h1 h2 hv
    cases od with
    | none => exact ⟨_, none, hget, rfl, rfl, trivial⟩
    | some dd =>
      obtain ⟨fs, hfs⟩ := hdd dd rfl
      have hx : ObjOk X.prog X.w H s.heap dd (.xd fs) := I.hok dd _ hfs
      obtain ⟨mA, hns, _⟩ := hx
      obtain ⟨o, _, _, ho, _⟩ := hns
      exact ⟨_, some o, hget, rfl, rfl, ho⟩
  rcases hc with ⟨cv, hcv, e⟩ | ⟨tp, cs, cvs, rfl, hs, hcs, e⟩
  · have ec := hcv _ r2
    subst ec
    exact PySem.W.kia_one (PySem.SupX.kitx_exc C) I.kIn J e (fun z => nomatch z) fun tk => ⟨.bl b, H, I.kept (t' := tk) fun _ _ z => z, rfl, q⟩
  · cases (show u2 = Value.ref tp from r2)
    obtain ⟨its, rv, ⟨o, ho, hcl, n, hda⟩, _⟩ := I.tuple hs
    have ec := hcs _ rv
    subst ec
    obtain ⟨oc, od, dt, sl⟩ := o
    simp only at hcl hda
    subst hcl hda
    exact PySem.W.kia_tup (PySem.SupX.kitx_exc C) I.kIn J ho e (fun z => nomatch z) fun tk => ⟨.bl b, H, I.kept (t' := tk) fun _ _ z => z, rfl, q⟩
structure IsT (K : PySem.W.Frag) (k : Kn) (ce : Nat) (t : D) (b : Bool) : Prop where
  ex : ∃ C nm, k.cl ce = some (C, nm) ∧ ExcC K C ∧ ((∃ ci C2 nm2, t = .cls ci ∧ ci ≠ xix ∧ k.cl ci = some (C2, nm2) ∧ PySem.W.kitOne K (.ref C) (.ref C2) = some b) ∨ ∃ n, t = .ty n ∧ PySem.W.kitOne K (.ref C) (.type n) = some b)
def tabs (tab : Nat → D → Option Bool) (ce : Nat) : List D → Option Bool
  | [] => some false
  | t :: ts => (tab ce t).bind fun b => (tabs tab ce ts).map fun r => b || r
def isXD (tab : Nat → D → Option Bool) (y : Exc) : D → D → R D
  | .cls i, t => if i = xix then (match t with
    | .tup ts => (match ts with | [] => .fail | t0 :: ts => (match tabs tab y.c (t0 :: ts) with | some b => .ok (.bl b) | none => .fail))
    | t => match tab y.c t with
      | some b => .ok (.bl b)
      | none => .fail) else .fail
  | _, _ => .fail
section
variable {k : Kn} {K : PySem.W.Frag} {a : Addr}
theorem IsT.exc {ce : Nat} {t : D} {b : Bool} {C : Addr} {nm : List Str} (h : IsT K k ce t b) (hc : k.cl ce = some (C, nm)) : ExcC K C := by
  obtain ⟨C', nm', h1, h2, _⟩ := h.ex
  rw [hc] at h1; cases h1
  exact h2
theorem IsT.excs {tab : Nat → D → Option Bool} (hT : ∀ ci t b, tab ci t = some b → IsT K k ci t b) {ce : Nat} {C : Addr} {nm : List Str} (hc : k.cl ce = some (C, nm)) {t : D} {ts : List D} {b : Bool} (h : tabs tab ce (t :: ts) = some b) : ExcC K C := by
  simp only [tabs] at h
  cases e1 : tab ce t with
  | none => rw [e1] at h; cases h
  | some b1 => exact (hT _ _ _ e1).exc hc
theorem IsT.val {ce : Nat} {t : D} {b : Bool} {G : Hp} {v : V} {C : Addr} {nm : List Str} (h : IsT K k ce t b) (hc : k.cl ce = some (C, nm)) (r : RD (k.at a) G t v) : ∃ cv, (∀ u, RelV v u → u = cv) ∧ PySem.W.kitOne K (.ref C) cv = some b := by
  obtain ⟨C', nm', h1, h2, h3⟩ := h.ex
  rw [hc] at h1; cases h1
  rcases h3 with ⟨ci, C2, nm2, rfl, hne, h4, h5⟩ | ⟨n, rfl, h5⟩
  · cases r with
    | cls hr =>
      rw [Kn.at_cl hne, h4] at hr
      cases hr
      exact ⟨.ref C2, fun u hu => hu, h5⟩
  · cases r with
    | ty => exact ⟨.type n, fun u hu => hu, h5⟩
theorem IsT.vals {tab : Nat → D → Option Bool} (hT : ∀ ci t b, tab ci t = some b → IsT K k ci t b) {ce : Nat} {C : Addr} {nm : List Str} (hc : k.cl ce = some (C, nm)) {G : Hp} : ∀ {ts : List D} {vs : List V} {b : Bool}, tabs tab ce ts = some b → RDs (k.at a) G ts vs →
    ∃ cvs, (∀ us, Vals vs us → us = cvs) ∧ PySem.W.kitAny K (.ref C) cvs = some b
  | [], _, b, h, .nil => by
    cases h
    exact ⟨[], fun us hu => by cases hu; rfl, rfl⟩
  | t :: ts, _, b, h, .cons r rs => by
    simp only [tabs] at h
    cases e1 : tab ce t with
    | none => rw [e1] at h; cases h
    | some b1 =>
      rw [e1] at h
      cases e2 : tabs tab ce ts with
      | none => rw [e2] at h; cases h
      | some b2 =>
        rw [e2] at h
        cases h
        obtain ⟨cv, h1, h2⟩ := (hT _ _ _ e1).val hc r
        obtain ⟨cvs, h3, h4⟩ := IsT.vals hT hc e2 rs
        refine ⟨cv :: cvs, fun us hu => ?_, ?_⟩
        · cases hu with
          | cons x y => rw [h1 _ x, h3 _ y]
        · refine kitAny_cons h2 (fun z => ?_) fun z => ?_
          · rw [z]; exact h4
          · rw [z]; rfl
end
section
variable {X : Cx} {c : Cf} {k : Kn} {kd k1 k2 k3 : Kd} {e o : Expr} {f g h : FE} {pos apos : Pos} {fr : Bool} {x : Str}
structure Held (X : Cx) (k : Kn) (a : Addr) (y : Exc) (H0 G0 : Hp) : Prop where
  ex : ∃ (oe : Obj) (cls : Value) (d : Option Addr), (a, oe) ∈ X.pn ∧ Zc cls d oe ∧ (∃ vs, oe.data = .fields vs) ∧ XR ⟨k, H0, G0, liftX E0⟩ G0 y cls d H0
theorem d_isX {ba : Bool} {a : Addr} {y : Exc} {H0 G0 : Hp} {W : WX} {p : Pos} {e1 e2 : Expr} {ga : FA} {tab : Nat → D → Option Bool} (hh : Held X k a y H0 G0) (hK : k.K = X.K) (hT : ∀ ci t b, tab ci t = some b → IsT X.K k ci t b) (hm : X.mg "isinstance" = none) (ha : PA' X ⟨k.at a, H0, G0, W⟩ ba [e1, e2] ga)
    (hg : Gl X "isinstance" := by rfl) (hs : starEach [e1, e2] X.env = (false, eval e1 X.env) :: starEach [e2] X.env := by rfl) (hs2 : ((backTo pos (starEach [e2] X.env)).any fun x => x.1) = false := by rfl) :
    PE' X ⟨k.at a, H0, G0, W⟩ .st (.Call (.Name "isinstance" p) [e1, e2] [] pos) (eC (f2 (isXD tab y)) ga) := by
  obtain ⟨oe, cls, d, hin, hz, hf, C, nm, hcl, rfl, hxd⟩ := hh.ex
  have hcl : k.cl y.c = some (C, nm) := hcl
  refine peI (pe_callB (call_isX hin hz hf) hg hm (by decide +kernel) ha (by decide) (by decide) hs hs2) fun σ H Q ⟨G, S, rel, q⟩ => ?_
  refine ⟨G, S, rel, ?_⟩
  have q : PostE ⟨k.at a, H0, G0, W⟩ .st G S σ H Q (ga S >>= fun xs => (f2 (isXD tab y) xs).nox) := q
  cases e0 : ga S with
  | exc z => rw [e0] at q; exact q
  | fail => rw [e0] at q; exact q
  | ok ds =>
    rw [e0] at q
    intro vs G1 H1 s1 q1
    have q1 := q1.nows
    have q : PostE ⟨k.at a, H0, G0, W⟩ .st G S σ H Q (f2 (isXD tab y) ds).nox := q
    have hdd : ∀ dd, d = some dd → ∃ fs, H1 dd = some (.xd fs) := fun dd e => by
      rcases hxd with ⟨_, _, h⟩ | ⟨d', vs', h1, h2, _⟩
      · rw [h] at e; cases e
      · rw [h1] at e; cases e
        exact ⟨_, (rel.grow s1).st.h _ _ h2⟩
    match ds, q1 with
    | [.cls i, t], .cons (v := v1) n1 (.cons (v := v2) n2 .nil) =>
      have q : PostE ⟨k.at a, H0, G0, W⟩ .st G S σ H Q (isXD tab y (.cls i) t).nox := q
      simp only [isXD] at q
      by_cases hi : i = xix
      · subst hi
        rw [if_pos rfl] at q
        have hv1 : v1 = .ref a := by
          rcases n1 with n1 | ⟨_, _, _, _, ct⟩
          · cases n1 with
            | cls hr =>
              have hr : (k.at a).cl xix = _ := hr
              rw [Kn.at_x] at hr; cases hr; rfl
          · cases ct
        subst hv1
        have fin : ∀ b, isXD tab y (.cls xix) t = .ok (.bl b) → Q (.bl b) H1 := fun b e => by
          simp only [isXD, if_pos] at e
          rw [e] at q
          exact q _ G1 H1 s1 (.bl b)
        cases t with
        | tup ts =>
          cases ts with
          | nil => exact q.elim
          | cons t0 ts =>
            dsimp only at q
            cases e2 : tabs tab y.c (t0 :: ts) with
            | none => rw [e2] at q; exact q.elim
            | some b =>
              obtain ⟨tp, cs, rfl, hsq, r⟩ := n2.tup
              have hx1 := IsT.excs hT hcl e2
              obtain ⟨cvs, h1, h2⟩ := IsT.vals hT hcl e2 r
              refine ⟨_, b, rfl, hx1, hdd, .inr ⟨tp, cs, cvs, rfl, s1.gh.sqT (hK ▸ hsq.t), h1, h2⟩, fin b ?_⟩
              simp only [isXD, if_pos, e2]
        | _ =>
          first
            | (dsimp only at q
               cases e2 : tab y.c _ with
               | none => rw [e2] at q; exact q.elim
               | some b =>
                 have hx1 := (hT _ _ _ e2).exc hcl
                 rcases n2 with n2 | ⟨_, _, _, _, ct⟩
                 · obtain ⟨cv, h1, h2⟩ := (hT _ _ _ e2).val hcl n2
                   refine ⟨_, b, rfl, hx1, hdd, .inl ⟨cv, h1, h2⟩, fin b ?_⟩
                   simp only [isXD, if_pos, e2]
                 · first
                     | (cases ct; done)
                     | (obtain ⟨_, _, _, _, h3⟩ := (hT _ _ _ e2).ex; rcases h3 with ⟨_, _, _, h3, _⟩ | ⟨_, h3, _⟩ <;> cases h3))
      · rw [if_neg hi] at q; exact q.elim
    | [], _ => exact q.elim
    | [_], _ => exact q.elim
    | _ :: _ :: _ :: _, _ => exact q.elim
    | [.non, _], _ => exact q.elim
    | [.bl _, _], _ => exact q.elim
    | [.int _, _], _ => exact q.elim
    | [.str _, _], _ => exact q.elim
    | [.ty _, _], _ => exact q.elim
    | [.tup _, _], _ => exact q.elim
    | [.lst _, _], _ => exact q.elim
    | [.dic _ _, _], _ => exact q.elim
    | [.dit _ _, _], _ => exact q.elim
    | [.dkf _ _, _], _ => exact q.elim
    | [.dig _ _, _], _ => exact q.elim
    | [.dgf _ _, _], _ => exact q.elim
    | [.obj _ _, _], _ => exact q.elim
    | [.scr _, _], _ => exact q.elim
structure XfT (K : PySem.W.Frag) (k : Kn) (ci : Nat) (f : Str) (j : Nat) : Prop where
  ex : ∃ C nm, k.cl ci = some (C, nm) ∧ nm[j]? = some f ∧ nm.Nodup ∧ XfC K C ∧ PySem.W.findIn K (.ref C) f = some none
def eXf (y : Exc) (ci j : Nat) (g : FE) : FE := e1 (fun d => match d with
  | .cls i => if i = xix ∧ y.c = ci then (match y.fs[j]? with | some d => .ok d | none => .fail) else .fail
  | _ => .fail) g
theorem zip_at : ∀ {nm : List Str} {vs : List V} {j : Nat} {f : Str} {v : V}, nm.Nodup → nm[j]? = some f → vs[j]? = some v → (nm.zip vs).lookup f = some v
  | [], _, _, _, _, _, h, _ => by simp at h
  | _ :: _, [], _, _, _, _, _, h => by simp at h
  | n :: nm, u :: vs, 0, f, v, _, h1, h2 => by
    simp at h1 h2; subst h1 h2
    simp [List.lookup]
  | n :: nm, u :: vs, j + 1, f, v, hn, h1, h2 => by
    rw [List.nodup_cons] at hn
    rw [List.getElem?_cons_succ] at h1 h2
    have : (f == n) = false := by
      simp only [beq_eq_false_iff_ne, ne_eq]
      intro e
      subst e
      exact hn.1 (List.mem_of_getElem? h1)
    simp only [List.zip_cons_cons, List.lookup, this]
    exact zip_at hn.2 h1 h2
theorem pe_xf' {X : Cx} {a C : Addr} {oe : Obj} {cls : Value} {d : Option Addr} {e : Expr} {te : TE} {pos : Pos} {n : Str} (hin : (a, oe) ∈ X.pn) (T : XfC X.K C) (hno : PySem.W.findIn X.K (.ref C) n = some none)
    (hz : Zc cls d oe) (hf : ∃ vs, oe.data = .fields vs) (he : PE X e te) (hb : attributeBase e n X.env (eval e X.env) = eval e X.env) :
    PE X (.Attribute e n pos) (tXf a cls d C n te) := by
  refine ⟨fun pins s σ H Q I h => ?_⟩
  refine attr_of hb (thn (he.run pins s σ H _ I h) fun u s1 hh => ?_)
  obtain ⟨x, H1, I1, rx, ex, ec, dd, fs, v, ed, ea, l, q⟩ := hh
  subst ex
  obtain rfl : u = Value.ref a := rx
  subst ec
  subst ed
  obtain ⟨ha, _⟩ := I1.pin (a, oe) (List.mem_append_left _ hin)
  obtain ⟨vs, hd⟩ := hf
  have hx : ObjOk X.prog X.w H1 s1.heap dd (.xd fs) := I1.hok dd _ ea
  obtain ⟨mA, hns, hr⟩ := hx
  obtain ⟨od, ho, hl⟩ := lookIn_ns hns
  obtain ⟨u, hu, ru⟩ := RelO.some_of (v := v) (o := mA n) (by rw [← l]; exact hr n)
  have J : PySem.W.InstAt s1.heap a oe C (some od) := ⟨ha, hz.1, by unfold PySem.W.notCls; rw [hd] <;> rfl, by rw [hz.2]; exact ho⟩
  exact HandSPX.exc_get I1.kIn J T.ga T.gg T.exC (PySem.W.findObj_own T.hdC hno rfl (by rw [hl, hu])) (handed_of ru) ⟨v, H1, I1.tok _, ru, q⟩
theorem d_xf {a : Addr} {y : Exc} {H0 G0 : Hp} {W : WX} {e : Expr} {g : FE} {f : Str} {ci j : Nat} (hh : Held X k a y H0 G0) (T : XfT X.K k ci f j) (h0 : k.cl xix = none) (he : PE' X ⟨k.at a, H0, G0, W⟩ .bo e g)
    (hb : attributeBase e f X.env (eval e X.env) = eval e X.env := by rfl) : PE' X ⟨k.at a, H0, G0, W⟩ .st (.Attribute e f pos) (eXf y ci j g) := by
  obtain ⟨oe, cls, d, hin, hz, hf, C, nm, hcl, rfl, hxd⟩ := hh.ex
  have hcl : k.cl y.c = some (C, nm) := hcl
  obtain ⟨C2, nm2, h1, h2, h3, h4, h5⟩ := T.ex
  refine peI (pe_xf' hin h4 h5 hz hf he hb) fun σ H Q ⟨G, S, rel, q⟩ => ?_
  refine rdE_go (g := fun d => ((match d with
    | .cls i => if i = xix ∧ y.c = ci then (match y.fs[j]? with | some d => .ok d | none => .fail) else .fail
    | _ => .fail : R D)).nox) (Post := PostE ⟨k.at a, H0, G0, W⟩ .st G S σ H Q) rel q (fun _ z => z) (fun z => z) fun d1 v1 G1 H1 s1 q1 p1 => ?_
  cases d1 with
  | cls i =>
    dsimp only at p1
    by_cases hi : i = xix ∧ y.c = ci
    · rw [if_pos hi] at p1
      obtain ⟨rfl, hc⟩ := hi
      rw [hc, h1] at hcl
      cases hcl
      have hv1 : v1 = .ref a := by
        rcases q1 with n1 | ⟨_, _, _, _, ct⟩
        · cases n1 with
          | cls hr =>
            have hr : (k.at a).cl xix = _ := hr
            rw [Kn.at_x] at hr; cases hr; rfl
        · cases ct
      cases e2 : y.fs[j]? with
      | none => rw [e2] at p1; exact p1.elim
      | some d0 =>
        rw [e2] at p1
        rcases hxd with ⟨hnm, _, _⟩ | ⟨dd, vs, hd, hH, r, _⟩
        · rw [hnm] at h2; simp at h2
        · have r : RDs k G0 y.fs vs := r
          obtain ⟨v, hv, rv⟩ := r.get e2
          have st := (rel.grow s1).st
          exact ⟨hv1, rfl, dd, _, v, hd, st.h _ _ hH, zip_at h3 h2 hv, p1 v G1 H1 s1 ((rv.mono st.g).up h0)⟩
    · rw [if_neg hi] at p1; exact p1.elim
  | _ => exact p1.elim
end
end M
set_option Elab.async false
set_option linter.all false
set_option maxRecDepth 100000
set_option maxHeartbeats 4000000
namespace M
open PySem L2 PySem.W
abbrev FnS : Type := Option (Str × Str × Arguments × FuncBody × Scope × Addr × List Str × Addr)
def supI (K : PySem.W.Frag) (x : Str) : Addr := He.ma K (He.ga K x) "__init__"
def seenS (K : PySem.W.Frag) (x : Str) : FnS := (K.lookup (supI K x)).bind fun o => match o.data with
  | .func z => some (z.name, z.qualname, z.params, z.body, z.scope, z.globals, z.closure.map (·.1), z.builtins)
  | _ => none
structure Sx where
  x : Str
  fs : List Str
  qual : Str
  params : Arguments
  body : List Stmt
  scope : Scope
def Sx.val (s : Sx) : FnS := some ("__init__", s.qual, s.params, .stmts s.body, s.scope, mainGlobals, ["__class__"], builtinsNs)
def isNone : Value → Bool
  | .none => true
  | _ => false
theorem isNone_ok {v : Value} (h : isNone v = true) : v = .none := by cases v <;> first | rfl | cases h
def exoB (K : PySem.W.Frag) (C : Addr) : Bool := match K.lookup C with
  | some ⟨.type "type", _, .cls cd, sl⟩ => (match cd.mro, sl.toList with
    | .ref C' :: bm, [_, _, _, _, some (.builtin n), _] => C' == C && (n == "ValueError.__new__" && (!cd.hasDel && (cd.hasDict && PySem.HandSPX.refsVE bm)))
    | _, _ => false)
  | _ => false
theorem exoB_ok {K : PySem.W.Frag} {C : Addr} (q : exoB K C = true) : ∃ nm qn N bs bm sn sub ab col dd k0 k1 k2 k3 k5, K.lookup C = some (excClassObj nm qn C N bs bm true sn sub ab col dd k0 k1 k2 k3 k5 "ValueError.__new__") ∧ PySem.HandSPX.refsVE bm = true := by
  unfold exoB at q
  split at q
  · rename_i dd cd sl ho
    split at q
    · rename_i C' bm k0 k1 k2 k3 n k5 hm hs
      simp only [Bool.and_eq_true, beq_iff_eq, Bool.not_eq_true'] at q
      obtain ⟨rfl, rfl, hdel, hdict, hbm⟩ := q
      obtain ⟨nm, bs, mro, ns, qn, hd, sn, sub, ab, col, del⟩ := cd
      dsimp only at hm hdel hdict
      subst hm hdel hdict
      have hsl : sl = #[k0, k1, k2, k3, some (.builtin "ValueError.__new__"), k5] := by
        obtain ⟨l⟩ := sl
        simp only at hs
        rw [hs]
      subst hsl
      exact ⟨nm, qn, ns, bs, bm, sn, sub, ab, col, dd, k0, k1, k2, k3, k5, ho, hbm⟩
    · cases q
  · cases q
def fnB (file : Str) (K : PySem.W.Frag) (s : Sx) : Bool := match K.lookup (supI K s.x) with
  | some ⟨_, _, .func z, _⟩ => codeIn K z.code s.qual && (isNone z.defaults && (isNone z.kwdefaults && (match z.code, z.closure with
    | .ref cda, [(_, cc)] => (match K.lookup cda with
      | some ⟨_, _, .fields vs, _⟩ => (match (vs[2]? : Option Value) with
        | some (.str f _) => decide (f = file)
        | _ => false)
      | _ => false) && (match K.lookup cc with
      | some ⟨_, _, .cell (some (.ref C')), _⟩ => decide (C' = He.ga K s.x)
      | _ => false)
    | _, _ => false)))
  | _ => false
def supB (file : Str) (K : PySem.W.Frag) (s : Sx) : Bool :=
  exoB K (He.ga K s.x) && (He.eqO (findIn K (.ref (He.ga K s.x)) "__setattr__") (some (some (.builtin "object.__setattr__"))) && ((s.fs.all fun f => He.eqO (findIn K (.ref (He.ga K s.x)) f) (some none)) &&
  (He.eqO (ks_superIn K (He.ga K s.x) (He.ga K s.x) "__init__") (some (some (.builtin "ValueError.__init__"))) && (decide (subIn K (.ref (He.ga K s.x)) (.type "ValueError") = some true) && (decide (mroIn K (He.ga K s.x) (.ref (He.ga K s.x)) = some true) &&
  (He.eqO (nsIn K cStatics "thirdparty.any") (some none) && (He.eqO (findIn K (.ref (He.ga K s.x)) "__init__") (some (some (.ref (supI K s.x)))) && (decide (typeIn K (.ref (supI K s.x)) = some (.type "function")) &&
  (He.eqO (nsIn K mainGlobals "super") (some none) && (keepIn K (.ref (He.ga K s.x)) && (decide (subIn K (.ref (He.ga K s.x)) (.type "BaseException") = some true) && (decide (typeIn K (.ref (He.ga K s.x)) = some (.type "type")) && fnB file K s))))))))))))
theorem sup_ok {P : Program} {K : PySem.W.Frag} {file : Str} {s : Sx} {ar : Arg} (h : supB file K s = true) (e : seenS K s.x = s.val) (hP : ((P.main.file : Str) == file) = true) (ht : (P.main.scope.names.lookup ("super" : Str)).isSome = false) (hb : PySem.SupX.InitBody s.fs s.body)
    (hnd : (("self" : Str) :: s.fs).Nodup) (hnod : ∀ f, f ∈ s.fs → (f == ("__debug__" : Str)) = false) (har : (s.params.posonlyargs ++ s.params.args).head? = some ar) (hars : ar.arg = "self")
    (hbind : ∀ (doc pm cdv ct : Value) (an : Option Addr) (cc : Addr) (sh : Shared) (us : List Value), us.length = s.fs.length + 1 → BindsTo sh (ksFn "__init__" s.qual s.params s.body s.scope .none .none doc pm an cdv ct cc) ⟨us, []⟩ ((("self" : Str) :: s.fs).zip us))
    (h1 : s.scope.names.lookup ("super" : Str) = some .globalImplicit) (h2 : s.scope.names.lookup ("__class__" : Str) = some .free) (h3 : ∀ f, f ∈ ("self" : Str) :: s.fs → s.scope.names.lookup f = some .local) (h4 : s.scope.kind = .function) (h5 : s.scope.isGenerator = false) (h6 : s.scope.isCoroutine = false)
    (h7 : ∀ x ∈ s.scope.names, x.2 ≠ .cell) : PySem.SupX.SupT P K (He.ga K s.x) (supI K s.x) s.fs ∧ keepIn K (.ref (He.ga K s.x)) = true ∧ subIn K (.ref (He.ga K s.x)) (.type "BaseException") = some true ∧ typeIn K (.ref (He.ga K s.x)) = some (.type "type") := by
  unfold supB at h
  obtain ⟨a1, h⟩ := He.ba h
  obtain ⟨a2, h⟩ := He.ba h
  obtain ⟨a3, h⟩ := He.ba h
  obtain ⟨a4, h⟩ := He.ba h
  obtain ⟨a5, h⟩ := He.ba h
  obtain ⟨a6, h⟩ := He.ba h
  obtain ⟨a7, h⟩ := He.ba h
  obtain ⟨a8, h⟩ := He.ba h
  obtain ⟨a9, h⟩ := He.ba h
  obtain ⟨a10, h⟩ := He.ba h
  obtain ⟨a11, h⟩ := He.ba h
  obtain ⟨a12, h⟩ := He.ba h
  obtain ⟨a13, a14⟩ := He.ba h
  refine ⟨⟨exoB_ok a1, He.eqO_ok a2, fun f hf => He.eqO_ok (List.all_eq_true.mp a3 f hf), hnd, hnod, He.eqO_ok a4, of_decide_eq_true a5, of_decide_eq_true a6, He.eqO_ok a7, He.eqO_ok a8, of_decide_eq_true a9, He.eqO_ok a10, ht, ?_⟩, a11, of_decide_eq_true a12, of_decide_eq_true a13⟩
  unfold fnB at a14
  unfold seenS at e
  split at a14
  · rename_i oc od z osl hl
    rw [hl] at e
    obtain ⟨y1, y2, y3, y4, y5, y6, y7, y8, y9, y10, y11, y12, y13, y14, y15⟩ := z
    simp only [Sx.val, Option.bind_some, Option.some.injEq, Prod.mk.injEq] at e
    obtain ⟨b1, b2, b3, b4, b5, b6, b7, b8⟩ := e
    obtain ⟨c1, a15⟩ := He.ba a14
    obtain ⟨c2, a16⟩ := He.ba a15
    obtain ⟨c3, a17⟩ := He.ba a16
    clear a14 a15 a16
    dsimp only at c1 c2 c3 a17
    split at a17
    · rename_i _ _ cda q cc
      obtain ⟨d1, d2⟩ := He.ba a17
      split at d1
      · rename_i ccl cdd vs ccs hcda
        split at d1
        · rename_i f tf hvs
          split at d2
          · rename_i cl cld C' csl hcc
            have e1 := of_decide_eq_true d1
            have e2 := of_decide_eq_true d2
            subst e1 e2
            have z1 := isNone_ok c2
            have z2 := isNone_ok c3
            subst b1 b2 b3 b4 b5 b6 b8 z1 z2
            simp only [List.map_cons, List.map_nil, List.cons.injEq, and_true] at b7
            subst b7
            exact ⟨oc, od, _, _, _, _, _, _, _, _, _, _, osl, cda, cc, ccl, cl, cdd, cld, vs, ccs, csl, f, tf, ar, hl, c1, hcda, hvs, hP, hcc, hb, har, hars, fun s us hus => hbind _ _ _ _ _ _ s us hus, h1, h2, h3, h4, h5, h6, h7⟩
          · cases d2
        · cases d1
      · cases d1
    · cases a17
  · cases a14
def kwAt (w : Wh) (x : Str) (K : PySem.W.Frag) : Addr := match K.lookup (w.ad K) with
  | some ⟨_, _, .func z, _⟩ => (match z.kwdefaults with
    | .ref D => (match nsIn K D x with
      | some (some (.ref a)) => a
      | _ => 0)
    | _ => 0)
  | _ => 0
inductive XF where
  | isT (x y : Str) (b : Bool)
  | isTy (x : Str) (n : String) (b : Bool)
  | ecc (x : Str)
  | fld (x f : Str)
  | cme (x m : Str)
  | dfl (w : Wh) (x : Str) (d : D)
  | sf (x : Str)
def XF.ok (K : PySem.W.Frag) : XF → Bool
  | .isT x y b => decide (kitOne K (.ref (He.ga K x)) (.ref (He.ga K y)) = some b)
  | .isTy x n b => decide (kitOne K (.ref (He.ga K x)) (.type n) = some b)
  | .ecc x => He.eqO (findIn K (.ref (He.ga K x)) "__getattribute__") (some (some (.builtin "BaseException.__getattribute__"))) && (He.eqO (findIn K (.ref (He.ga K x)) "__getattr__") (some none) && (decide (subIn K (.ref (He.ga K x)) (.type "BaseException") = some true) && (hasDictIn K (He.ga K x) &&
    (He.eqO (findIn K (.ref (He.ga K x)) "__class__") (some (some (.builtin "object.__class__"))) && (He.eqO (specialIn K (.builtin "object.__class__") "__get__") (some (some (.builtin "getset_descriptor.__get__"))) && (decide (takesIn K (.builtin "object.__class__") = some true) && decide (mroIn K (He.ga K x) (.type "object") = some true)))))))
  | .cme x m => readsIn K (He.ga K x) (.type "type") && (He.eqO (specialIn K (.ref (He.ga K x)) "__getattribute__") (some (some (.builtin "type.__getattribute__"))) && (He5.wrapB K (He.ga K x) "classmethod" "classmethod.__get__" m && fnIn K (He5.wf K (He.ga K x) "classmethod" m)))
  | .dfl w x d => dB K d (.ref (kwAt w x K))
  | .sf x => PySem.W.selfFirst K (He.ga K x)
  | .fld x f => xfB K (He.ga K x) && He.eqO (findIn K (.ref (He.ga K x)) f) (some none)
section
variable {K : PySem.W.Frag} {cl : Nat → Option (Addr × List Str)} {x y f : Str} {n : String} {b : Bool} {ci cj j : Nat} {nm nm2 : List Str}
theorem ecc_ok (h : (XF.ecc x).ok K = true) : ExcC K (He.ga K x) := by
  obtain ⟨h1, h⟩ := He.ba h
  obtain ⟨h2, h⟩ := He.ba h
  obtain ⟨h3, h⟩ := He.ba h
  obtain ⟨h4, h⟩ := He.ba h
  obtain ⟨h5, h⟩ := He.ba h
  obtain ⟨h6, h⟩ := He.ba h
  obtain ⟨h7, h8⟩ := He.ba h
  exact ⟨He.eqO_ok h1, He.eqO_ok h2, of_decide_eq_true h3, h4, He.eqO_ok h5, He.eqO_ok h6, of_decide_eq_true h7, of_decide_eq_true h8⟩
theorem isT_ok (h : (XF.isT x y b).ok K = true) (e : (XF.ecc x).ok K = true) (h1 : cl ci = some (He.ga K x, nm)) (h2 : cl cj = some (He.ga K y, nm2)) (hj : cj ≠ xix := by decide) : IsT K ⟨K, cl⟩ ci (.cls cj) b :=
  ⟨_, nm, h1, ecc_ok e, .inl ⟨cj, _, nm2, rfl, hj, h2, of_decide_eq_true h⟩⟩
theorem isTy_ok (h : (XF.isTy x n b).ok K = true) (e : (XF.ecc x).ok K = true) (h1 : cl ci = some (He.ga K x, nm)) : IsT K ⟨K, cl⟩ ci (.ty n) b :=
  ⟨_, nm, h1, ecc_ok e, .inr ⟨n, rfl, of_decide_eq_true h⟩⟩
theorem fld_ok (h : (XF.fld x f).ok K = true) (h1 : cl ci = some (He.ga K x, nm)) (hj : nm[j]? = some f := by rfl) (hn : nm.Nodup := by decide +kernel) : XfT K ⟨K, cl⟩ ci f j := by
  obtain ⟨h3, h4⟩ := He.ba h
  exact ⟨_, nm, h1, hj, hn, xfB_ok h3, He.eqO_ok h4⟩
end
def sameC : D → D → Bool
  | .cls i, .cls j => i == j
  | .ty m, .ty n => m == n
  | _, _ => false
def xtabOf (l : List ((Nat × D) × Bool)) (ce : Nat) (t : D) : Option Bool := match l.find? fun p => p.1.1 == ce && sameC p.1.2 t with
  | some p => some p.2
  | none => none
theorem xtab_ok {K : PySem.W.Frag} {k : Kn} {l : List ((Nat × D) × Bool)} (h : ∀ p, p ∈ l → IsT K k p.1.1 p.1.2 p.2) : ∀ ci t b, xtabOf l ci t = some b → IsT K k ci t b := fun ci t b e => by
  unfold xtabOf at e
  cases hf : l.find? fun p => p.1.1 == ci && sameC p.1.2 t with
  | none => rw [hf] at e; cases e
  | some p =>
    rw [hf] at e
    cases e
    have hp := h p (List.mem_of_find?_eq_some hf)
    have hq := List.find?_some hf
    simp only [Bool.and_eq_true, beq_iff_eq] at hq
    obtain ⟨h1, h2⟩ := hq
    obtain ⟨⟨ce, t2⟩, b⟩ := p
    dsimp only at h1 h2 hp ⊢
    subst h1
    cases t2 <;> cases t <;> first | (cases h2; done) | (simp only [sameC, beq_iff_eq] at h2; subst h2; exact hp)
def mtOf (l : List (Nat × Bool)) (ci : Nat) : Option Bool := l.lookup ci
structure TryC (K : PySem.W.Frag) (mg : Str → Option Value) (k : Kn) (x : Str) (mt : Nat → Option Bool) : Prop where
  ex : ∃ cv, mg x = some cv ∧ ∀ ci b, mt ci = some b → ∃ C nm, k.cl ci = some (C, nm) ∧ PySem.W.exmOne K (.ref C) cv = some b
theorem tryC_ok {K : PySem.W.Frag} {mg : Str → Option Value} {k : Kn} {x : Str} {l : List (Nat × Bool)} {cv : Value} (hm : mg x = some cv) (h : ∀ p, p ∈ l → ∃ C nm, k.cl p.1 = some (C, nm) ∧ PySem.W.exmOne K (.ref C) cv = some p.2) : TryC K mg k x (mtOf l) :=
  ⟨cv, hm, fun ci b e => by
    unfold mtOf at e
    have key : ∀ {l : List (Nat × Bool)}, l.lookup ci = some b → (ci, b) ∈ l := fun {l} => by
      induction l with
      | nil => intro h; cases h
      | cons p l ih =>
        intro h
        obtain ⟨c, d⟩ := p
        by_cases hc : ci = c
        · subst hc; simp [List.lookup] at h; subst h; simp
        · have : (ci == c) = false := by simpa using hc
          simp only [List.lookup, this] at h
          exact List.mem_cons_of_mem _ (ih h)
    exact h _ (key e)⟩
section
variable {X : Cx} {c : Cf} {pos : Pos} {s : FS} {as bs : List Nat}
end
theorem takes0 {X : Cx} : L2N.Takes X (liftX E0) := fun _ _ ⟨_, _, _, _, _, _, _, _, _, _, _, _, _, _, _, _, w⟩ => w.elim
abbrev AlV : Type := AlZ × (Bool × List FnS)
structure Fv where
  y : Fy
  ts : List TabI
  xs : List XF
  ss : List Sx
  file : Str
def obsV (x : Fv) (fn : List Dx) (K : PySem.W.Frag) : AlV := (obsZ x.y x.ts fn K, (x.xs.all fun f => f.ok K) && x.ss.all fun s => supB x.file K s, x.ss.map fun s => seenS K s.x)
def valHV (x : Fv) (fn : List Dx) (w : World) : AlV := (valZ x.ts fn w, true, x.ss.map fun s => s.val)
def SaysV (x : Fv) (fn : List Dx) (w : World) (K : PySem.W.Frag) : Prop := obsV x fn K = valHV x fn w
def obsVG (n : Nat) (x : Fv) (fn : List Dx) (g : Addr → Option Obj) : AlV := obsV x fn (He.frG g (cStatics :: He.asD g n))
def hookV (n : Nat) (x : Fv) (fn : List Dx) : PySem.W.Hook where
  α := AlV
  obs := fun s => obsVG n x fn s.heap.get?
  val := fun w => valHV x fn w
  says := fun w h => ∃ K : PySem.W.Frag, K.In h ∧ SaysV x fn w K
  of := fun _ _ e => ⟨_, He.frG_in, e⟩
  keeps := fun _ _ _ ⟨K, hK, c⟩ k => ⟨K, PySem.W.Frag.In.keeps hK k, c⟩
theorem obsVG_eq {n : Nat} {x : Fv} {fn : List Dx} {g : Addr → Option Obj} {s : Shared} (h : ∀ a, g a = s.heap.get? a) : obsVG n x fn g = (hookV n x fn).obs s := by
  have q : g = s.heap.get? := funext h
  subst q; rfl
section
variable {x : Fv} {fn : List Dx} {K : PySem.W.Frag} {w : World}
theorem SaysV.z (c : SaysV x fn w K) : SaysZ x.y x.ts fn w K := congrArg (fun z : AlV => z.1) c
theorem SaysV.both (c : SaysV x fn w K) : ((x.xs.all fun f => f.ok K) && x.ss.all fun s => supB x.file K s) = true := congrArg (fun z : AlV => z.2.1) c
theorem SaysV.xf (c : SaysV x fn w K) (i : Nat) {f : XF} (h : x.xs[i]? = some f := by rfl) : f.ok K = true := List.all_eq_true.mp (He.ba c.both).1 f (List.mem_of_getElem? h)
theorem SaysV.sx (c : SaysV x fn w K) (i : Nat) {s : Sx} (h : x.ss[i]? = some s := by rfl) : supB x.file K s = true ∧ seenS K s.x = s.val := by
  refine ⟨List.all_eq_true.mp (He.ba c.both).2 s (List.mem_of_getElem? h), ?_⟩
  have e : x.ss.map (fun s => seenS K s.x) = x.ss.map fun s => s.val := congrArg (fun z : AlV => z.2.2) c
  have e2 := congrArg (fun l : List FnS => l[i]?) e
  simp only [List.getElem?_map, h, Option.map_some, Option.some.injEq] at e2
  exact e2
end
end M
set_option Elab.async false
set_option linter.all false
set_option maxRecDepth 100000
set_option maxHeartbeats 0
namespace Pf
open PySem L2 M
def topS (i : Nat) : Stmt := PySem.Challenge.pw_firstbreach_k66_wrong_word_of_a_row.main.body.getD i (.Pass ⟨0, 0, 0, 0⟩)
def clsB : Stmt → List Stmt
  | .ClassDef _ _ _ b .. => b
  | _ => []
def clsS (i j : Nat) : Stmt := (clsB (topS i)).getD j (.Pass ⟨0, 0, 0, 0⟩)
def tv_ENTRIES : List (Str × Int) := [(".", (-1)), ("0", 0), ("1", 1)]
def tv_BITS : List (Str × Int) := [("0", 0), ("1", 1)]
def tv_RUNS : List (Str × Int) := [(".", (-1)), ("0", 0), ("1", 1), ("2", 2)]
def tv_MORES : List (Str × Int) := [(".", 0), ("+", 1)]
def gv_MOST_ENTRIES : D := .int 3
def gv_MOST_ROWS : D := .int 3
abbrev st_entries_of : Stmt := topS 16
abbrev st_meaning : Stmt := topS 17
abbrev st_word_at : Stmt := topS 15
abbrev st_read_joint : Stmt := topS 18
abbrev st_read_row : Stmt := topS 19
abbrev st__law_cell : Stmt := topS 21
abbrev st__law_draws : Stmt := topS 22
abbrev st__law_entries : Stmt := topS 23
abbrev st__law_row : Stmt := topS 24
abbrev st__law_joint : Stmt := topS 25
abbrev st__law_words : Stmt := topS 26
abbrev st__law_same : Stmt := topS 27
abbrev st__law_sign : Stmt := topS 28
abbrev st__law_odd : Stmt := topS 29
abbrev st__law_spoilt : Stmt := topS 30
abbrev st__law_fits : Stmt := topS 31
abbrev st__law_wrong_word : Stmt := topS 32
abbrev st__law_is_joint : Stmt := topS 33
abbrev st__law_refused_word : Stmt := topS 34
abbrev st__law_right_word : Stmt := topS 35
abbrev st_law : Stmt := topS 36
def dd_entries_of : Dx := ⟨.glo "entries_of", ⟨("", none), "entries_of", "entries_of", defArgs st_entries_of, defBody st_entries_of, defScope st_entries_of, [], []⟩⟩
def dd_meaning : Dx := ⟨.glo "meaning", ⟨("", none), "meaning", "meaning", defArgs st_meaning, defBody st_meaning, defScope st_meaning, [], []⟩⟩
def dd_word_at : Dx := ⟨.glo "word_at", ⟨("", none), "word_at", "word_at", defArgs st_word_at, defBody st_word_at, defScope st_word_at, [], []⟩⟩
def dd_read_joint : Dx := ⟨.glo "read_joint", ⟨("", none), "read_joint", "read_joint", defArgs st_read_joint, defBody st_read_joint, defScope st_read_joint, [], []⟩⟩
def dd_read_row : Dx := ⟨.glo "read_row", ⟨("", none), "read_row", "read_row", defArgs st_read_row, defBody st_read_row, defScope st_read_row, [], []⟩⟩
def dd__law_cell : Dx := ⟨.glo "_law_cell", ⟨("", none), "_law_cell", "_law_cell", defArgs st__law_cell, defBody st__law_cell, defScope st__law_cell, [], []⟩⟩
def dd__law_draws : Dx := ⟨.glo "_law_draws", ⟨("", none), "_law_draws", "_law_draws", defArgs st__law_draws, defBody st__law_draws, defScope st__law_draws, [], []⟩⟩
def dd__law_entries : Dx := ⟨.glo "_law_entries", ⟨("", none), "_law_entries", "_law_entries", defArgs st__law_entries, defBody st__law_entries, defScope st__law_entries, [], []⟩⟩
def dd__law_row : Dx := ⟨.glo "_law_row", ⟨("", none), "_law_row", "_law_row", defArgs st__law_row, defBody st__law_row, defScope st__law_row, [], []⟩⟩
def dd__law_joint : Dx := ⟨.glo "_law_joint", ⟨("", none), "_law_joint", "_law_joint", defArgs st__law_joint, defBody st__law_joint, defScope st__law_joint, [], []⟩⟩
def dd__law_words : Dx := ⟨.glo "_law_words", ⟨("", none), "_law_words", "_law_words", defArgs st__law_words, defBody st__law_words, defScope st__law_words, [], []⟩⟩
def dd__law_same : Dx := ⟨.glo "_law_same", ⟨("", none), "_law_same", "_law_same", defArgs st__law_same, defBody st__law_same, defScope st__law_same, [], []⟩⟩
def dd__law_sign : Dx := ⟨.glo "_law_sign", ⟨("", none), "_law_sign", "_law_sign", defArgs st__law_sign, defBody st__law_sign, defScope st__law_sign, [], []⟩⟩
def dd__law_odd : Dx := ⟨.glo "_law_odd", ⟨("", none), "_law_odd", "_law_odd", defArgs st__law_odd, defBody st__law_odd, defScope st__law_odd, [], []⟩⟩
def dd__law_spoilt : Dx := ⟨.glo "_law_spoilt", ⟨("", none), "_law_spoilt", "_law_spoilt", defArgs st__law_spoilt, defBody st__law_spoilt, defScope st__law_spoilt, [], []⟩⟩
def dd__law_fits : Dx := ⟨.glo "_law_fits", ⟨("", none), "_law_fits", "_law_fits", defArgs st__law_fits, defBody st__law_fits, defScope st__law_fits, [], []⟩⟩
def dd__law_wrong_word : Dx := ⟨.glo "_law_wrong_word", ⟨("", none), "_law_wrong_word", "_law_wrong_word", defArgs st__law_wrong_word, defBody st__law_wrong_word, defScope st__law_wrong_word, [], []⟩⟩
def dd__law_is_joint : Dx := ⟨.glo "_law_is_joint", ⟨("", none), "_law_is_joint", "_law_is_joint", defArgs st__law_is_joint, defBody st__law_is_joint, defScope st__law_is_joint, [], []⟩⟩
def dd__law_refused_word : Dx := ⟨.glo "_law_refused_word", ⟨("", none), "_law_refused_word", "_law_refused_word", defArgs st__law_refused_word, defBody st__law_refused_word, defScope st__law_refused_word, [], []⟩⟩
def dd__law_right_word : Dx := ⟨.glo "_law_right_word", ⟨("", none), "_law_right_word", "_law_right_word", defArgs st__law_right_word, defBody st__law_right_word, defScope st__law_right_word, [], []⟩⟩
def dd_law : Dx := ⟨.glo "law", ⟨("", none), "law", "law", defArgs st_law, defBody st_law, defScope st_law, [], []⟩⟩
abbrev st_BadText : Stmt := clsS 7 0
def sx_BadText : Sx := ⟨"BadText", ["line", "word"], "BadText.__init__", defArgs st_BadText, defBody st_BadText, defScope st_BadText⟩
def fn : List Dx := [dd_entries_of, dd_meaning, dd_word_at, dd_read_joint, dd_read_row, dd__law_cell, dd__law_draws, dd__law_entries, dd__law_row, dd__law_joint, dd__law_words, dd__law_same, dd__law_sign, dd__law_odd, dd__law_spoilt, dd__law_fits, dd__law_wrong_word, dd__law_is_joint, dd__law_refused_word, dd__law_right_word, dd_law]
def ftab : List TabI := [("ENTRIES", tv_ENTRIES), ("BITS", tv_BITS), ("RUNS", tv_RUNS), ("MORES", tv_MORES)]
def fx : Fy := ⟨[.glo "entries_of", .glo "meaning", .glo "word_at", .glo "read_joint", .glo "read_row", .glo "_law_cell", .glo "_law_draws", .glo "_law_entries", .glo "_law_row", .glo "_law_joint", .glo "_law_words", .glo "_law_same", .glo "_law_sign", .glo "_law_odd", .glo "_law_spoilt", .glo "_law_fits", .glo "_law_wrong_word", .glo "_law_is_joint", .glo "_law_refused_word", .glo "_law_right_word", .glo "law", .free "ValueError", .free "abs", .free "all", .free "any", .free "bool", .free "int", .free "isinstance", .free "len", .free "list", .free "max", .free "min", .free "range", .free "str", .free "tuple", .glo "BadText", .glo "BadAct", .glo "BadRow", .glo "InvalidHouse", .glo "TooLarge", .glo "UnknownPath", .glo "BreachError", .exm "BadText" "BadText" true, .glo "ENTRIES", .glo "BITS", .glo "RUNS", .glo "MORES"], [("MOST_ENTRIES", gv_MOST_ENTRIES), ("MOST_ROWS", gv_MOST_ROWS)], [], []⟩
def fv : Fv := ⟨fx, ftab, [.ecc "BadText", .isT "BadText" "BadAct" false, .isT "BadText" "BadRow" false, .isT "BadText" "InvalidHouse" false, .isT "BadText" "TooLarge" false, .isT "BadText" "UnknownPath" false, .isT "BadText" "BreachError" true, .isTy "BadText" "ValueError" true, .fld "BadText" "line", .fld "BadText" "word"], [sx_BadText], "/claim/cut.py"⟩
def clK (K : PySem.W.Frag) : Nat → Option (Addr × List Str) := fun i => if i = 16 then some (He.ga K "BadText", ["line", "word"]) else if i = 15 then some (He.ga K "BadAct", ["index"]) else if i = 13 then some (He.ga K "BadRow", ["index"]) else if i = 11 then some (He.ga K "InvalidHouse", []) else if i = 12 then some (He.ga K "TooLarge", ["bound"]) else if i = 14 then some (He.ga K "UnknownPath", ["path"]) else if i = 10 then some (He.ga K "BreachError", []) else none
def looseN : List Str := (["BreachError", "InvalidHouse", "TooLarge", "BadRow", "UnknownPath", "BadAct", "BadText", "MOST_ROWS", "MOST_ENTRIES", "BITS", "ENTRIES", "RUNS", "MORES", "word_at", "entries_of", "meaning", "read_joint", "read_row", "_law_cell", "_law_draws", "_law_entries", "_law_row", "_law_joint", "_law_words", "_law_same", "_law_sign", "_law_odd", "_law_spoilt", "_law_fits", "_law_wrong_word"] : List Str) ++ (["_law_is_joint", "_law_refused_word", "_law_right_word"] : List Str)
abbrev Rw : PySem.W.OpenRow := PySem.W.OpenLaw.row PySem.Challenge.rw_firstbreach_k66_wrong_word_of_a_row
end Pf
set_option Elab.async false
set_option linter.all false
set_option maxRecDepth 100000
set_option maxHeartbeats 0
namespace Pf
open PySem L2 M
abbrev hk : PySem.W.Hook := hookV 5 fv fn
def ob (s : PySem.W.SharedT) : AlV := obsVG 5 fv fn (HandSHeadRun.getT s)
theorem ob_eq (s : PySem.W.SharedT) : ob s = hk.obs s.abs := obsVG_eq (HandSHeadRun.getT_eq s)
theorem run (w : World) : HandSHeadRun.RunEq Rw (PySem.W.view Rw.prog [36]) hk ob 4000 looseN w := by
  exact PySem.W.byRow2 "special-get-raises" (P := fun w => HandSHeadRun.RunEq Rw (PySem.W.view Rw.prog [36]) hk ob 4000 looseN w) (fun w os => by kernel_rfl) (fun w os => by kernel_rfl) w
end Pf
set_option Elab.async false
set_option linter.all false
set_option maxRecDepth 100000
set_option maxHeartbeats 4000000
namespace M
open PySem L2
section
variable {X : Cx} {c : Cf} {a b e o : Expr} {f g h : FE} {pos apos : Pos} {x : Str} {den : List D → R D}
theorem d_callXS {lv m n : Nat} {p : Pos} {es : List Expr} {fa : FA} (F : CalleeX X.prog X.w X.K X.mg X.base c.k lv x n false den) (hr : Room m X.A) (hle : lv ≤ m) (tk : L2N.Takes X c.W) (ha : PA' X c false (e :: es) fa) (hl : Len n fa) (hg : Gl X x := by rfl) (hdb : (x == ("__debug__" : Str)) = false := by decide)
    (hs : starEach (e :: es) X.env = (false, eval e X.env) :: starEach es X.env := by rfl) (hs2 : ((backTo pos (starEach es X.env)).any fun x => x.1) = false := by rfl) : PE' X c .st (.Call (.Name x p) (e :: es) [] pos) (eCX den fa) := d_callX F hr hle tk ha hl hg hdb hs hs2
end
end M
set_option Elab.async false
set_option linter.all false
set_option maxRecDepth 100000
set_option maxHeartbeats 4000000
namespace M
open PySem L2
structure MakerXD (P : Program) (w : World) (K : PySem.W.Frag) (mg : Str → Option Value) (base : Heap) (k : Kn) (lv : Nat) (x : Str) (ci n : Nat) (dd : List D) (den : List D → R D) : Prop where
  ex : ∃ (C f : Addr) (fd : FuncData) (ps nm : List Str) (dvs : List V) (ds : List Value), k.cl ci = some (C, nm) ∧ Mk K C f ∧ FnOk P w K mg base (L2N.CX P w) lv f fd ps (SpN k ci (n + dd.length + 1) den) ∧ mg x = some (.ref C) ∧ Binds K fd ps ds ∧ Vals dvs ds ∧ ∀ G, RDs k G dd dvs
structure CmethX (P : Program) (w : World) (K : PySem.W.Frag) (mg : Str → Option Value) (base : Heap) (k : Kn) (lv : Nat) (ci : Nat) (m : Str) (n : Nat) (fr : Bool) (den : List D → R D) : Prop where
  ex : ∃ (C p g : Addr) (mc : Value) (fd : FuncData) (ps nm : List Str), ps.length = n ∧ k.cl ci = some (C, nm) ∧ ClX.CRead K C mc ∧ ClX.CMet K C mc m p g ∧ FnOk P w K mg base (L2N.CX P w) lv g fd ps (SpF k fr n den) ∧ Binds K fd ps []
section
variable {X : Cx} {c : Cf} {kd k1 k2 k3 : Kd} {a b e o : Expr} {f g h : FE} {pos apos : Pos} {fr : Bool} {x : Str} {den : List D → R D} {ci : Nat}
end
end M
set_option Elab.async false
set_option linter.all false
set_option maxRecDepth 100000
set_option maxHeartbeats 4000000
namespace M
open PySem L2 PyProof.Rows
def keyT : D → Option (List Key)
  | .tup ds => if 1 < ds.length ∧ ds.length < 4 ∧ ds.all isStrD = false then keysD ds else none
  | _ => none
section
variable {k : Kn} {G H : Hp}
def dlook (d y : D) : Option (Option D) := match d with
  | .dic ks ds => (keyD y).map fun q => getL ks ds q
  | .dit ks ds => (keyT y).map fun q => getL ks ds q
  | .dkf ks ds => (keyD y).map fun q => getL ks ds q
  | _ => none
end
section
variable {X : Cx} {c : Cf} {kd k1 k2 k3 : Kd} {a b e o : Expr} {f g h : FE} {pos apos cpos : Pos} {fr : Bool} {x : Str} {k : Kn}
def ixA (d y : D) : R D := match dlook d y with
  | some (some r) => .ok r
  | some none => .fail
  | none => ixD d y
def inA (y d : D) : R D := match dlook d y with
  | some r => .ok (.bl r.isSome)
  | none => inD y d
def notInA (y d : D) : R D := match dlook d y with
  | some r => .ok (.bl (!r.isSome))
  | none => notInD y d
def eGet2 (f g h : FE) : FE := fun S => f S >>= fun d => if isDct d then (g S >>= fun y => h S >>= fun z => match dlook d y with
  | some (some r) => .ok r
  | some none => .ok z
  | none => .fail) else .fail
def putA (i : Nat) (S : Env) (m d y : D) : R (Fl × Env) := match m with
  | .dic ks ds => (match keyD y with
    | some q => if ks.Nodup ∧ ks.length < sizeLine then .ok (.nx, S.set i (some ⟨true, .dic (putL ks ds q d).1 (putL ks ds q d).2⟩)) else .fail
    | none => .fail)
  | .dit ks ds => (match keyT y with
    | some q => if ks.Nodup ∧ ks.length < sizeLine then .ok (.nx, S.set i (some ⟨true, .dit (putL ks ds q d).1 (putL ks ds q d).2⟩)) else .fail
    | none => .fail)
  | _ => .fail
def ownD (i : Nat) (S : Env) : R D := match S[i]? with
  | some (some ⟨true, d⟩) => .ok d
  | _ => .fail
def sPutA (i : Nat) (fy f : FE) : FS := fun S => ownD i S >>= fun m => f S >>= fun d => fy S >>= fun y => putA i S m d y
end
end M
set_option Elab.async false
set_option linter.all false
set_option maxRecDepth 100000
set_option maxHeartbeats 4000000
namespace M
open PySem L2
variable {X : Cx} {c : Cf} {kd : Kd} {a : Expr} {t t1 : FT} {fr : Bool} {pos : Pos} {tg tg1 : Expr}
end M
set_option Elab.async false
set_option linter.all false
set_option maxRecDepth 100000
set_option maxHeartbeats 4000000
namespace M
open PySem L2 PySem.Spec PyProof.Rows
section
variable {prog : Program} {w : World} {A : Around} {R : Result → Shared → Prop} {s : Shared} {elt t0 i0 t1 i1 : Expr} {ifs0 ifs1 : List Expr} {scope : Scope} {pos : Pos} {it acc : Value} {env : PySem.Env}
end
section
variable {τ κ : Type}
variable {X : Cx}
end
end M
set_option Elab.async false
set_option linter.all false
set_option maxRecDepth 100000
set_option maxHeartbeats 4000000
namespace M
open PySem L2
variable {c : Cf} {kd : Kd} {a : Expr} {t t1 : FT} {fr : Bool} {pos : Pos} {tg tg1 : Expr}
end M
set_option Elab.async false
set_option linter.all false
set_option maxRecDepth 100000
set_option maxHeartbeats 4000000
namespace M
open PySem L2 PySem.Spec PyProof.Rows
section
variable {X : Cx} {pins : List (Addr × Obj)} {σ : L2.St} {H H' : Hp} {s : Shared} {a : Addr} {y v : V} {u r : Value} {A : Around} {E : Value → Shared → Prop}
end
structure DK (κ : Type) [DecidableEq κ] where
  key : D → Option κ
  mkd : List κ → List D → D
  ho : List (κ × V) → HO
  put : ∀ {k : Kn} {G H : Hp} {a : Addr} {d : D} {y v : V} {q : κ} {kvs : List (κ × V)}, Ex G H → key d = some q → RD k G d y → H a = some (ho kvs) → kvs.length < sizeLine → DPut H a y v (upd H a (ho (putK kvs q v)))
  cont : ∀ {k : Kn} {G : Hp} {ks : List κ} {ds : List D} {vs : List V}, ks.length = ds.length → RDs k G ds vs → Cont k G (mkd ks ds) (ho (ks.zip vs))
  new : ∀ {P : Program} {w : World} {H : Hp} (h : Heap), sysModules < h.objs.size → ObjOk P w H (h.push { cls := .type "dict", data := .dict #[] }) h.objs.size (ho [])
section
variable {κ : Type} [DecidableEq κ] {X : Cx}
end
end M
set_option Elab.async false
set_option linter.all false
set_option maxRecDepth 100000
set_option maxHeartbeats 4000000
namespace M
open PySem L2
section
variable {κ : Type} [DecidableEq κ]
def putAll (ps : List (κ × D)) : List κ × List D := ps.foldl (fun z p => putL z.1 z.2 p.1 p.2) ([], [])
end
section
variable {κ : Type} [DecidableEq κ]
end
end M
set_option Elab.async false
set_option linter.all false
set_option maxRecDepth 100000
set_option maxHeartbeats 4000000
namespace M
open PySem L2
variable {X : Cx} {c : Cf} {kd k1 k2 k3 : Kd} {e o : Expr} {f g h : FE} {pos apos cpos : Pos} {k : Kn}
end M
set_option Elab.async false
set_option linter.all false
set_option maxRecDepth 100000
set_option maxHeartbeats 4000000
namespace M
open PySem L2 PySem.W
section
variable {prog : Program} {w : World} {A : Around} {E : Value → Shared → Prop} {s : Shared} {K : PySem.W.Frag} {a C f : Addr} {ox : Obj} {od : Option Obj} {x : Value}
end
section
variable {X : Cx} {k : Kn} {lv m' ci : Nat} {den : List D → R D}
end
section
variable {X : Cx} {c : Cf} {a b : Expr} {f g : FE} {pos : Pos} {den : List D → R D}
def hasB (neg : Bool) : D → R D
  | .bl b => .ok (.bl (b != neg))
  | _ => .fail
def eHas (ci : Nat) (den : List D → R D) (neg : Bool) (f g : FE) : FE := fun S => f S >>= fun x => g S >>= fun o => if o.isObj ci then (den [o, x]).nox >>= hasB neg else .fail
end
end M
set_option Elab.async false
set_option linter.all false
set_option maxRecDepth 100000
set_option maxHeartbeats 4000000
namespace M
open PySem L2 PyProof.Rows
open PySem.Sem (wp)
def boolD : D → R D
  | .lst ds => .ok (.bl (!ds.isEmpty))
  | .tup ds => .ok (.bl (!ds.isEmpty))
  | .bl b => .ok (.bl b)
  | .int i => .ok (.bl (i != 0))
  | _ => .fail
section
variable {X : Cx} {k : Kn}
end
end M
set_option Elab.async false
set_option linter.all false
set_option maxRecDepth 100000
set_option maxHeartbeats 4000000
namespace M
open PySem L2 RZ
end M
set_option Elab.async false
set_option linter.all false
set_option maxRecDepth 100000
set_option maxHeartbeats 4000000
namespace M
open PySem L2
section
variable {X : Cx} {c : Cf} {kd k1 k2 k3 : Kd} {a b e o : Expr} {f g h : FE} {pos apos : Pos} {fr : Bool} {x : Str} {den : List D → R D} {ci : Nat}
end
end M
set_option Elab.async false
set_option linter.all false
set_option maxRecDepth 100000
set_option maxHeartbeats 4000000
namespace M
open PySem L2
section
variable {X : Cx} {c : Cf} {k : Kn} {kd k1 k2 k3 : Kd} {a b e o : Expr} {f g h : FE} {pos apos cpos p' : Pos} {fr : Bool} {x y : Str} {den : List D → R D}
end
end M
set_option Elab.async false
set_option linter.all false
set_option maxRecDepth 100000
set_option maxHeartbeats 4000000
namespace M
open PySem L2
structure MakerXK (P : Program) (w : World) (K : PySem.W.Frag) (mg : Str → Option Value) (base : Heap) (k : Kn) (lv : Nat) (x : Str) (ci n : Nat) (ks : List Str) (den : List D → R D) : Prop where
  ex : ∃ (C f : Addr) (fd : FuncData) (ps nm : List Str) (g : List Value → List Value → List Value), k.cl ci = some (C, nm) ∧ Mk K C f ∧ FnOk P w K mg base (L2N.CX P w) lv f fd ps (SpN k ci (n + ks.length + 1) den) ∧ mg x = some (.ref C) ∧ KBn K fd ps (n + 1) ks g (fun vs zs => vs ++ zs)
section
variable {X : Cx} {c : Cf} {kd k1 k2 k3 : Kd} {a b e o : Expr} {f g h : FE} {pos apos : Pos} {fr : Bool} {x : Str} {den : List D → R D} {ci : Nat}
def eCXK (o : List D → R D) (fa fk : FA) : FE := fun S => fa S >>= fun as => fk S >>= fun bs => o (as ++ bs)
end
end M
set_option Elab.async false
set_option linter.all false
set_option maxRecDepth 100000
set_option maxHeartbeats 4000000
namespace M
open PySem L2
section
variable {X : Cx} {c : Cf} {a b : Expr} {f g : FE} {pos : Pos} {fr : Bool} {x y : Str}
def sParO (i j : Nat) (f g : FE) : FS := fun S => f S >>= fun d => g S >>= fun e => .ok (.nx, (S.set i (some ⟨true, d⟩)).set j (some ⟨true, e⟩))
end
end M
set_option Elab.async false
set_option linter.all false
set_option maxRecDepth 100000
set_option maxHeartbeats 4000000
namespace M
open PySem L2
mutual
def noL : D → Bool
  | .lst _ => false
  | .scr _ => false
  | .tup xs => noLs xs
  | .dic _ _ => false
  | .dit _ xs => noLs xs
  | .dkf _ xs => noLs xs
  | .dig _ _ => false
  | .dgf _ _ => false
  | .obj _ xs => noLs xs
  | _ => true
def noLs : List D → Bool
  | [] => true
  | x :: xs => noL x && noLs xs
end
def noC : D → Bool
  | .lst xs => noLs xs
  | .dic _ xs => noLs xs
  | .dit _ xs => noLs xs
  | .obj _ xs => noLs xs
  | .dig _ _ => false
  | .dgf _ _ => false
  | _ => false
def Lnt : HO → Bool
  | .lst _ => true
  | .dK _ => true
  | _ => false
def Lnd (G Gp : Hp) : Prop := ∀ b, Gp b = G b ∨ (G b = none ∧ ∃ o, Gp b = some o ∧ Lnt o = true)
def unL (G G' : Hp) : Hp := fun b => match G b with
  | some o => some o
  | none => match G' b with
    | some o => if Lnt o then none else some o
    | none => none
theorem unL_old {G G' : Hp} {b : Addr} {o : HO} (h : G b = some o) : unL G G' b = some o := by unfold unL; rw [h]
theorem unL_keep {G G' : Hp} (e : Ex G G') {b : Addr} {o : HO} (h : G' b = some o) (hn : Lnt o = false) : unL G G' b = some o := by
  unfold unL
  cases g : G b with
  | some u => have := e b u g; rw [h] at this; cases this; rfl
  | none =>
    rw [h]
    dsimp only
    rw [if_neg (by rw [hn]; decide)]
theorem unL_sub {G G' : Hp} (e : Ex G G') {b : Addr} {o : HO} (h : unL G G' b = some o) : G' b = some o ∧ (G b = some o ∨ (G b = none ∧ Lnt o = false)) := by
  unfold unL at h
  cases g : G b with
  | some u => rw [g] at h; cases h; exact ⟨e b _ g, .inl rfl⟩
  | none =>
    rw [g] at h
    cases g' : G' b with
    | none => rw [g'] at h; cases h
    | some u =>
      rw [g'] at h
      dsimp only at h
      by_cases hl : Lnt u = true
      · rw [if_pos hl] at h; cases h
      · rw [if_neg hl] at h; cases h
        exact ⟨rfl, .inr ⟨rfl, by simpa using hl⟩⟩
mutual
theorem RD.unL {k : Kn} {G G' : Hp} (e : Ex G G') : ∀ {d : D} {v : V}, noL d = true → RD k G' d v → RD k (M.unL G G') d v
  | _, _, _, .non => .non
  | _, _, _, .bl b => .bl b
  | _, _, _, .int i => .int i
  | _, _, _, .str x => .str x
  | _, _, _, .ty n => .ty n
  | _, _, h, .tup s r => .tup (by
      rcases s with s | s
      · exact .inl (unL_keep e s rfl)
      · exact .inr s) (RDs.unL e (by simpa only [noL] using h) r)
  | _, _, h, .lst _ _ => by simp [noL] at h
  | _, _, h, .scr _ => by simp [noL] at h
  | _, _, _, .cls h => .cls h
  | _, _, h, .dic _ _ _ => by simp [noL] at h
  | _, _, h, .dig _ _ _ _ => by simp [noL] at h
  | _, _, h, .dgf _ _ _ _ => by simp [noL] at h
  | _, _, h, .dit s l r => .dit (unL_keep e s rfl) l (RDs.unL e (by simpa only [noL] using h) r)
  | _, _, h, .dkf s l r => .dkf (unL_keep e s rfl) l (RDs.unL e (by simpa only [noL] using h) r)
  | _, _, h, .obj c s r => .obj c (unL_keep e s rfl) (RDs.unL e (by simpa only [noL] using h) r)
theorem RDs.unL {k : Kn} {G G' : Hp} (e : Ex G G') : ∀ {ds : List D} {vs : List V}, noLs ds = true → RDs k G' ds vs → RDs k (M.unL G G') ds vs
  | _, _, _, .nil => .nil
  | _, _, h, .cons a b => by
    simp only [noLs, Bool.and_eq_true] at h
    exact .cons (RD.unL e h.1 a) (RDs.unL e h.2 b)
end
theorem Cont.unL {k : Kn} {G G' : Hp} (e : Ex G G') {d : D} {o : HO} (h : noC d = true) (c : Cont k G' d o) : Cont k (M.unL G G') d o := by
  cases c with
  | lst r => exact .lst (r.unL e (by simpa only [noC] using h))
  | dic l r => exact .dic l (r.unL e (by simpa only [noC] using h))
  | dit l r => exact .dit l (r.unL e (by simpa only [noC] using h))
  | dig l kk r => simp [noC] at h
  | obj q r => exact .obj q (r.unL e (by simpa only [noC] using h))
theorem Step.unL {G H Gp G' H' : Hp} (e : Ex G Gp) (l : Lnd G Gp) (s : Step Gp H G' H') : Step G H (M.unL G G') H' where
  g := fun b o h => unL_old h
  h := s.h
  gh := fun b o h => s.gh b o (unL_sub (e.trans s.g) h).1
  gr := fun b o h => by
    obtain ⟨h1, h2⟩ := unL_sub (e.trans s.g) h
    rcases h2 with h2 | ⟨h2, h3⟩
    · exact .inl h2
    · rcases s.gr b o h1 with q | q
      · rcases l b with z | ⟨z, u, z2, z3⟩
        · rw [q, h2] at z; cases z
        · rw [q] at z2; cases z2; rw [h3] at z3; cases z3
      · exact .inr q
section
variable {c : Cf} {G H : Hp} {S S' : Env} {σ : St}
end
end M
set_option Elab.async false
set_option linter.all false
set_option maxRecDepth 100000
set_option maxHeartbeats 4000000
namespace M
open PySem L2 PyProof.Rows
def KwT {α : Type} (D : Addr) : List (Str × Value) → Sem α → Sem α → Prop
  | [], t, r => t = r
  | q :: l, t, r => ∃ (β γ : Type) (k1 : Option Value → Sem β) (k2 : β → Sem γ) (k3 : γ → Sem α) (a : β), t = ((nsGet D q.1 >>= k1) >>= k2) >>= k3 ∧ k1 (some q.2) = pure a ∧ KwT D l (k2 a >>= k3) r
theorem KwT.run {α : Type} {K : PySem.W.Frag} {M : Model} {A : Around} {D : Addr} {Q : α → Shared → Prop} {E : Value → Shared → Prop} {s : Shared} (X : K.In s.heap) {r : Sem α} (h : wpAny M A r Q E s) : ∀ {l : List (Str × Value)} {t : Sem α}, (∀ q ∈ l, PySem.W.nsIn K D q.1 = some (some q.2)) → KwT D l t r → wpAny M A t Q E s
  | [], t, _, e => by cases (show t = r from e); exact h
  | q :: l, t, hl, ⟨β, γ, k1, k2, k3, a, e1, e2, e3⟩ => by
    have ih := KwT.run X h (fun p hp => hl p (List.mem_cons_of_mem _ hp)) e3
    have l1 : PySem.W.Looks M s.heap (nsGet D q.1 >>= k1) a := (PySem.W.looks_nsIn X (hl q (List.mem_cons_self ..))).andThen (PySem.W.Looks.of_pure e2)
    rw [e1, bind_assoc]
    exact wpAny_bind (l1.here ih)
section
variable {K : PySem.W.Frag} {x qual : Str} {params : Arguments} {body : List Stmt} {scope : Scope} {dvs : List V} {kws : List (Str × V)} {f : Addr} {fd : FuncData} {ps : List Str} {pv : Str}
end
def FnStar (P : Program) (w : World) (K : PySem.W.Frag) (mg : Str → Option Value) (base : Heap) (CX : CXT) (lv : Nat) (f : Addr) (m : Nat) (ks : List Str) (gV : List V → List V → List V) (sp : Sp) : Prop :=
  ∀ (A : Around) (outer : List PySem.Env) (s : Shared) (H : Hp) (us rs ws : List Value) (vs xs zs : List V) (Q : VK) (E : XK), Room lv A → Env0 P w K mg base A outer s H → Vals vs us → Vals xs rs → Vals zs ws → us.length = m → ws.length = ks.length → xs.length ≤ sizeLine →
    (∀ p, H p = none → sp (gV vs zs ++ [.ref p]) (upd H p (.tup xs)) Q E) → codeAny (model P w) A (.call (.ref f) ⟨us ++ rs, ks.zip ws⟩) (CR CX outer P w H s Q E) s
section
variable {CX : CXT} {P : Program} {w : World} {K : PySem.W.Frag} {mg : Str → Option Value} {base : Heap} {k : Nat} {x qual : Str} {params : Arguments} {body : List Stmt} {scope : Scope} {dvs : List V} {kws : List (Str × V)} {f : Addr} {fd : FuncData} {N ps : List Str} {pv : Str} {sp : Sp}
end
def mergeK {α : Type} : List Bool → List α → List α → List α
  | true :: bs, _ :: ds, g :: gs => g :: mergeK bs ds gs
  | false :: bs, d :: ds, gs => d :: mergeK bs ds gs
  | _, _, _ => []
structure MakerXS (P : Program) (w : World) (K : PySem.W.Frag) (mg : Str → Option Value) (base : Heap) (k : Kn) (lv : Nat) (x : Str) (ci n : Nat) (mask : List Bool) (ks : List Str) (dd : List D) (den : List D → R D) : Prop where
  ex : ∃ (C f : Addr) (nm : List Str) (dvs : List V), k.cl ci = some (C, nm) ∧ Mk K C f ∧ mg x = some (.ref C) ∧ (∀ G, RDs k G dd dvs) ∧ dd.length = mask.length ∧ (mask.filter id).length = ks.length ∧
    FnStar P w K mg base (L2N.CX P w) lv f (n + 1) ks (fun vs zs => vs ++ mergeK mask dvs zs) (SpN k ci (n + 1 + mask.length + 1) den)
section
variable {X : Cx} {c : Cf} {kd k1 k2 k3 : Kd} {a b e o : Expr} {f g h : FE} {pos apos : Pos} {fr : Bool} {x : Str} {den : List D → R D} {ci : Nat}
end
end M
namespace M
open PySem L2
end M
set_option Elab.async false
set_option linter.all false
set_option maxRecDepth 100000
set_option maxHeartbeats 4000000
namespace M
open PySem L2
def PostM (k : Kn) (x : Addr) (G0 H : Hp) (Q : VK) : R (D × D) → Prop
  | .ok (r, d) => ∀ v G' H' o, Ex G0 G' → (∀ b u, b ≠ x → H b = some u → H' b = some u) → Ex G' H' → G' x = none → (∀ b u, G' b = some u → G0 b = some u ∨ H b = none) → H' x = some o → Cont k G' d o → RD k G' r v → Q v H'
  | _ => False
def SpM (k : Kn) (n j : Nat) (den : List D → R (D × D)) : Sp := fun vs H Q E => vs.length = n ∧ ∃ x G0 ds d0 o0, vs[j]? = some (.ref x) ∧ ds[j]? = some d0 ∧ ds.length = vs.length ∧ (∀ (i : Nat) (d : D), ds[i]? = some d → i ≠ j → ∃ v, vs[i]? = some v ∧ RD k G0 d v) ∧
  H x = some o0 ∧ G0 x = none ∧ Ex G0 H ∧ Cont k G0 d0 o0 ∧ PostM k x G0 H Q (den ds)
section
variable {P : Program} {w : World} {K : PySem.W.Frag} {mg : Str → Option Value} {base : Heap}
end
structure MethodM (P : Program) (w : World) (K : PySem.W.Frag) (mg : Str → Option Value) (base : Heap) (k : Kn) (lv : Nat) (ci : Nat) (m : Str) (n : Nat) (den : List D → R (D × D)) : Prop where
  ex : ∃ (C f : Addr) (fd : FuncData) (ps nm : List Str), ps.length = n ∧ k.cl ci = some (C, nm) ∧ m ∉ nm ∧ Cls K C ∧ Meth K C m f ∧ FnOk P w K mg base CX0 lv f fd ps (SpM k n 1 den) ∧ Binds K fd ps []
section
variable {X : Cx} {c : Cf} {o : Expr} {f : FE} {pos apos spos : Pos} {fr : Bool} {den : List D → R (D × D)}
end
end M
set_option Elab.async false
set_option linter.all false
set_option maxRecDepth 100000
set_option maxHeartbeats 4000000
namespace M
open PySem L2
theorem unitsH {k : Nat} {A : Around} (r : L2H.RoomH k A) : A.units + 64 < cLine := by have := r.un; omega
theorem units5H {k : Nat} {A : Around} (r : L2H.RoomH k A) : A.units + 65 < cLine := by have := r.un; omega
structure CalleeH (P : Program) (w : World) (K : PySem.W.Frag) (mg : Str → Option Value) (base : Heap) (k : Kn) (lv : Nat) (x : Str) (n : Nat) (den : List D → R D) : Prop where
  ex : ∃ (f : Addr) (fd : FuncData) (ps : List Str), ps.length = n ∧ L2H.FnH P w K mg base CX0 lv f fd ps (SpF k false n den) ∧ mg x = some (.ref f) ∧ PySem.W.keepIn K (.ref f) = true ∧ Binds K fd ps []
section
variable {P : Program} {w : World} {K : PySem.W.Frag} {mg : Str → Option Value} {base : Heap}
theorem fn_okH {k : Kn} {as : List Nat} {x qual : Str} {params : Arguments} {body : List Stmt} {scope : Scope} {dvs : List V} {kws : List (Str × V)} {f : Addr} {fd : FuncData} {N ps : List Str} {lv : Nat} {s : FS} (F : FunD K x qual params body scope dvs kws f fd) (S : FnScope N ps scope)
    (hb : ∀ (cdv : Value) (A : Around) (outer : List PySem.Env) (sh : Shared) (H G0 : Hp) (p : Addr × Obj), L2H.RoomH lv (A.deeper (PyProof.Rows.envOfC qual scope sh.heap.objs.size f cdv)) → L2H.HotC (L2H.cxH CX0 P w K mg base N qual scope f cdv A outer sh H E0 p).nox → PB' (L2H.cxH CX0 P w K mg base N qual scope f cdv A outer sh H E0 p).nox ⟨k, H, G0, liftX E0⟩ false as body s) :
    L2H.FnH P w K mg base CX0 (lv + 1) f fd ps (SpF k false ps.length (fun ds => (runF false N.length s ds).nox)) := by
  obtain ⟨oc, od, dV, kV, doc, pm, an, cdv, ct, osl, rfl, lk, hcd, _, _⟩ := F.ex
  refine L2H.fn_ofH lk hcd S (fun vs H Q E q => q.1) fun A outer sh H vs Q E p hot hr q => ?_
  have q' : SpF k false ps.length (runF false N.length s) vs H Q E0 := by
    obtain ⟨hl, G0, ds, e, r, p⟩ := q
    refine ⟨hl, G0, ds, e, r, ?_⟩
    dsimp only at p
    cases e1 : runF false N.length s ds with
    | ok d => rw [e1] at p; exact p
    | exc x => rw [e1] at p; exact p.elim
    | fail => rw [e1] at p; exact p.elim
  obtain ⟨t, h1, h2⟩ := body_ok (X := (L2H.cxH CX0 P w K mg base N qual scope f cdv A outer sh H E0 p).nox) (fun G0 => hb cdv A outer sh H G0 p hr ⟨p, hot, List.mem_cons_self ..⟩) q'
  exact ⟨t, h1.nox, h2⟩
end
section
variable {X : Cx} {c : Cf} {k : Kn} {e : Expr} {pos : Pos} {den : List D → R D}
def eCH (den : List D → R D) (fa : FA) : FE := fun S => fa S >>= fun ds => if D.noXs ds then (den ds).nox else .fail
theorem d_callH {lv m n : Nat} {a : Addr} {H0 G0 : Hp} {W : WX} {x : Str} {p : Pos} {es : List Expr} {fa : FA} (F : CalleeH X.prog X.w X.K X.mg X.base k lv x n den) (hr : L2H.RoomH m X.A) (hle : lv ≤ m) (hc : L2H.HotC X) (h0 : k.cl xix = none) (ha : PA' X ⟨k.at a, H0, G0, W⟩ false (e :: es) fa) (hl : Len n fa)
    (hg : Gl X x := by rfl) (hdb : (x == ("__debug__" : Str)) = false := by decide)
    (hs : starEach (e :: es) X.env = (false, eval e X.env) :: starEach es X.env := by rfl) (hs2 : ((backTo pos (starEach es X.env)).any fun x => x.1) = false := by rfl) : PE' X ⟨k.at a, H0, G0, W⟩ .st (.Call (.Name x p) (e :: es) [] pos) (eCH den fa) := by
  obtain ⟨f, fd, ps, hn, ok, hm, hk, hb⟩ := F.ex
  refine peI (L2H.pe_callH (E := fun _ => E0) ok (hr.mono hle) hc hg hm hk hb (fun σ => fun _ _ _ _ _ _ h => h.elim) ha hdb hs hs2) fun σ H Q ⟨G, S, rel, q⟩ => ?_
  have q : PostE ⟨k.at a, H0, G0, W⟩ .st G S σ H Q (fa S >>= fun ds => if D.noXs ds then (den ds).nox else .fail) := q
  refine ⟨G, S, rel, ?_⟩
  cases e0 : fa S with
  | exc x => rw [e0] at q; exact q
  | fail => rw [e0] at q; exact q
  | ok ds =>
    rw [e0] at q
    intro vs G1 H1 s1 q1
    have q1 : RDs (k.at a) G1 ds vs := q1
    have q : PostE ⟨k.at a, H0, G0, W⟩ .st G S σ H Q (if D.noXs ds then (den ds).nox else .fail) := q
    by_cases hd : D.noXs ds = true
    · rw [if_pos hd] at q
      refine ⟨by rw [← q1.length]; exact hl S ds e0, G1, ds, s1.gh, q1.down hd, ?_⟩
      cases e1 : den ds with
      | ok d => rw [e1] at q; exact fun v G' H' s2 r2 => q v G' H' (s1.trans s2) (RD.up h0 r2)
      | exc x => rw [e1] at q; exact q.elim
      | fail => rw [e1] at q; exact q.elim
    · rw [if_neg hd] at q; exact q.elim
end
section
variable {X : Cx} {c : Cf} {pos : Pos} {s : FS} {as bs : List Nat}
theorem roomS {k : Nat} {A : Around} {o : Option Value} (r : Room k A) : L2H.RoomH k (A.mark o) := ⟨r.dp, r.un⟩
end
end M
set_option Elab.async false
set_option linter.all false
set_option maxRecDepth 100000
set_option maxHeartbeats 4000000
namespace M
open PySem
section
variable {prog : Program} {w : World} {A : Around} {R : GenEnd} {Y : Protocol} {n : Nat} {s₀ : Shared} {c : Code} {fs : List Frame} {s : Shared} {env : PySem.Env} {K : Flow → Sem Fin} {J : Value → Sem Fin} {gd : Bool → Bool} {lv : List Value → List Value}
end
end M
set_option Elab.async false
set_option linter.all false
set_option maxRecDepth 100000
set_option maxHeartbeats 4000000
namespace M
open PySem L2 PySem.Spec PyProof.Rows
section
variable {X : Cx}
end
end M
set_option Elab.async false
set_option linter.all false
set_option maxRecDepth 100000
set_option maxHeartbeats 4000000
namespace M
open PySem L2
abbrev FY := Env → R (Fl × Env × List D)
section
variable {X : Cx} {c : Cf} {k1 : Kd} {e : Expr} {f : FE} {pos : Pos} {as bs : List Nat} {s : FS} {y z : FY} {st : Stmt} {sts : List Stmt}
end
end M
set_option Elab.async false
set_option linter.all false
set_option maxRecDepth 100000
set_option maxHeartbeats 4000000
namespace M
open PySem L2
def PostGn (k : Kn) (G0 H : Hp) (Q : List V → Hp → Prop) (E : XK) : R (List D) → Prop
  | .ok ds => ds.length ≤ sizeLine ∧ ∀ vs G' H', Step G0 H G' H' → RDs k G' ds vs → Q vs H'
  | .exc x => PXs ⟨k, H, G0, liftX E⟩ x
  | .fail => False
def SpGn (k : Kn) (n : Nat) (den : List D → R (List D)) : SpG := fun vs H Q E => vs.length = n ∧ ∃ G0 ds, Ex G0 H ∧ RDs k G0 ds vs ∧ PostGn k G0 H Q E (den ds)
section
variable {P : Program} {w : World} {K : PySem.W.Frag} {mg : Str → Option Value} {base : Heap}
end
end M
set_option Elab.async false
set_option linter.all false
set_option maxRecDepth 100000
set_option maxHeartbeats 4000000
namespace M
open PySem L2
structure GMethod (P : Program) (w : World) (K : PySem.W.Frag) (mg : Str → Option Value) (base : Heap) (k : Kn) (lv : Nat) (ci : Nat) (m : Str) (n : Nat) (den : List D → R (List D)) : Prop where
  ex : ∃ (C f : Addr) (fd : FuncData) (ps nm : List Str), ps.length = n ∧ k.cl ci = some (C, nm) ∧ m ∉ nm ∧ Cls K C ∧ Meth K C m f ∧ GFn P w K mg base lv f fd ps (SpGn k n den) ∧ Binds K fd ps []
section
variable {X : Cx} {c : Cf} {e o : Expr} {f : FE} {pos apos pos' : Pos} {den : List D → R (List D)}
def lstE (out : List D) : R D := if out.length ≤ sizeLine then .ok (.lst out) else .fail
def eLM (ci : Nat) (den : List D → R (List D)) (f : FE) (fa : FA) : FE := fun S => f S >>= fun o => if o.isObj ci then fa S >>= fun ds => (den (o :: ds)).nox >>= fun out => lstE out else .fail
end
end M
set_option Elab.async false
set_option linter.all false
set_option maxRecDepth 100000
set_option maxHeartbeats 4000000
namespace M
open PySem L2 PyProof.Rows
section
variable {prog : Program} {w : World} {A : Around} {E : Value → Shared → Prop} {s : Shared}
theorem lend_hot {it l x1 : Addr} {i : Nat} {items : Array Value} {Q : Option Value → Shared → Prop} (hot : HotX.HotAt A x1 s.heap) (hit : s.heap.IsListIter it l i) (hl : s.heap.IsList l items) (hx : items[i]? = none) (hne : x1 ≠ it)
    (hQ : ∀ h', (∀ b o, b ≠ it → s.heap.get? b = some o → h'.get? b = some o) → Q none { s with heap := h' }) : wpAny (model prog w) A (pyNext (.ref it)) Q E s := by
  obtain ⟨o, ho, hc, hd⟩ := id hit
  obtain ⟨ol, hol, _, nl, hdl⟩ := hl
  obtain ⟨hh, o1, vs1, h1, d1, c1⟩ := hot
  unfold pyNext
  refine wpAny_bind (wpAny_attempt (wpAny_callSpecial?_slot (name := Str.ofString "__next__") hit.typeIs slot_listiter_next
    (wpAny_call_entry slot_listiter_next hit.typeIs entry_listiter_next ?_ (args_listiter_next _))))
  show wpAny _ _ (field (.ref it) 0 >>= _) _ _ s
  refine wpAny_bind (wpAny_field ho hd (x := .ref l) rfl ?_)
  show wpAny _ _ (if (Value.ref l == Value.none) = true then _ else _) _ _ s
  rw [if_neg (show ¬ ((Value.ref l == Value.none) = true) from Bool.false_ne_true)]
  show wpAny _ _ (field (.ref it) 1 >>= _) _ _ s
  refine wpAny_bind (wpAny_field ho hd (x := .int i 0) rfl ?_)
  show wpAny _ _ (seqItems? (.ref l) >>= _) _ _ s
  refine wpAny_bind (wpAny_seqItems hol hdl ?_)
  simp only [Int.toNat_natCast, hx]
  refine wpAny_bind (wpAny_rule (wpAny_bind (wpAny_setField ho hd (by simp) ?_)))
  show wpAny _ _ (newExc (.type "StopIteration") [] >>= _) _ _ _
  refine wpAny_bind ?_
  simp only [newExc, newTuple]
  refine wpAny_bind (wpAny_newObj_type ?_ (by size_fits))
  refine wpAny_bind (m := firstArgMember _ _) (wpAny_of_eq (a := Value.none) (by first | rfl | (simp only [firstArgMember]; rfl)) ?_)
  refine wpAny_newObj_type ?_ (by size_fits)
  have keep : ∀ b o, b ≠ it → s.heap.get? b = some o → (s.heap.update it (Obj.mapFields (·.setIfInBounds 0 .none))).get? b = some o := fun b o hb e => by
    rw [Heap.get?_update_other _ _ (Ne.symm hb)]; exact e
  refine HotX.raiseNew_hot ⟨hh, o1, vs1, Heap.get?_push_of_some _ (Heap.get?_push_of_some _ (keep _ _ hne h1)), d1, c1⟩ (Nat.ne_of_lt (Heap.lt_size (Heap.get?_push_of_some _ (keep _ _ hne h1)))) (Heap.get?_push_size _ rfl) rfl (by first | (simp; done) | (simp; omega) | (simp only [Array.size_append]; simp; omega)) ?_
  refine wpAny_bind (wpAny_isInstance (T := "StopIteration") (b := true) ⟨_, Heap.get?_update_self _ (Heap.get?_push_size _ rfl) rfl, rfl⟩ isSubtype_stop ?_)
  refine wpAny_pure (hQ _ fun b o hb e => ?_)
  rw [Heap.get?_update_other _ _ (Nat.ne_of_gt (Heap.lt_size (Heap.get?_push_of_some _ (keep _ _ hb e))))]
  exact Heap.get?_push_of_some _ (Heap.get?_push_of_some _ (keep _ _ hb e))
theorem hot_keep {x1 : Addr} {h h' : Heap} (hot : HotX.HotAt A x1 h) (e : ∀ o, h.get? x1 = some o → h'.get? x1 = some o) : HotX.HotAt A x1 h' := by
  obtain ⟨hh, o1, vs1, h1, d1, c1⟩ := hot
  exact ⟨hh, o1, vs1, e _ h1, d1, c1⟩
theorem walks_hot {I ax x1 : Addr} (hne : ax ≠ I) (hx : x1 ≠ I) (items : Array Value) :
    Walks prog w A I [I, ax, x1] [I] items.size (fun i v => items[i]? = some v) (fun i h => h.IsListIter I ax i ∧ h.IsList ax items ∧ HotX.HotAt A x1 h) where
  sub := fun b hb => by simp at hb; simp [hb]
  frame := fun _ _ _ st hk => ⟨st.1.at fun o e => hk I (by simp) o e, st.2.1.at fun o e => hk ax (by simp) o e, hot_keep st.2.2 fun o e => hk x1 (by simp) o e⟩
  item := fun i s Q E hi st hQ => by
    refine wpAny_pyNext_list_item st.1 st.2.1 (x := items[i]) (by simp [hi]) fun h' hit' hs' => ?_
    exact hQ _ h' s.toks (by simp [hi]) ⟨hit', st.2.1.extBut hs'.extBut hne, hot_keep st.2.2 fun o e => hs'.extBut x1 o hx e⟩ fun b o hb e => hs'.extBut b o (fun h => hb (by simp [h])) e
  done := fun s Q E st hQ => lend_hot st.2.2 st.1 st.2.1 (by simp) hx fun h' he' => hQ h' s.toks fun b o hb e => he' b o (fun h => hb (by simp [h])) e
  self := fun _ _ _ _ st hQ => wpAny_pyIter_listiter st.1 hQ
end
section
variable {X : Cx} {k : Kn}
end
end M
set_option Elab.async false
set_option linter.all false
set_option maxRecDepth 100000
set_option maxHeartbeats 4000000
namespace L2H
open PySem PySem.Spec PyProof.Rows L2 HotX
structure FnE (P : Program) (w : World) (K : PySem.W.Frag) (mg : Str → Option Value) (base : Heap) (CX : CXT) (k : Nat) (f : Addr) (fd : FuncData) (ps : List Str) (sp : Addr × Obj → Sp) : Prop where
  len : ∀ p vs H Q E, sp p vs H Q E → vs.length = ps.length
  run : ∀ (A : Around) (outer : List Env) (s : Shared) (H : Hp) (args : Args) (us : List Value) (vs : List V) (Q : VK) (E : XK) (p : Addr × Obj), RoomH k A → Hot1 A p → PinOk outer H s p → Env0 P w K mg base A outer s H → BindsTo s fd args (ps.zip us) → Vals vs us → sp p vs H Q E →
    codeAny (model P w) A (.call (.ref f) args) (CR CX outer P w H s Q E) s
section
variable {X : Cx} {CX : CXT} {k : Nat} {f C : Addr} {fd : FuncData} {ps : List Str} {sp : Addr × Obj → Sp} {E : St → XK} {x m : Str} {q pos apos : Pos} {e o : Expr} {es : List Expr} {ta : TE} {t : TA} {p : Addr × Obj}
end
end L2H
namespace M
open PySem L2
structure HeldE (X : Cx) (k : Kn) (a : Addr) (y : Exc) (H0 G0 : Hp) : Prop where
  ex : ∃ (oe : Obj) (cls : Value) (d : Option Addr), (a, oe) ∈ X.pn ∧ L2H.Hot1 X.A (a, oe) ∧ Zc cls d oe ∧ (∃ vs, oe.data = .fields vs) ∧ XR ⟨k, H0, G0, liftX E0⟩ G0 y cls d H0
theorem HeldE.held {X : Cx} {k : Kn} {a : Addr} {y : Exc} {H0 G0 : Hp} (h : HeldE X k a y H0 G0) : Held X k a y H0 G0 := by
  obtain ⟨oe, cls, d, h1, _, h2, h3, h4⟩ := h.ex
  exact ⟨oe, cls, d, h1, h2, h3, h4⟩
theorem HeldE.hot {X : Cx} {k : Kn} {a : Addr} {y : Exc} {H0 G0 : Hp} (h : HeldE X k a y H0 G0) : L2H.HotC X := by
  obtain ⟨oe, cls, d, h1, h2, _⟩ := h.ex
  exact ⟨(a, oe), h2, h1⟩
def SpE (k : Kn) (n : Nat) (den : Exc → List D → R D) (p : Addr × Obj) : Sp := fun vs H Q E => vs.length = n ∧ ∃ y cls d, Zc cls d p.2 ∧ (∃ vs, p.2.data = .fields vs) ∧ ∃ G0 ds, XR ⟨k, H, G0, liftX E0⟩ G0 y cls d H ∧ Ex G0 H ∧ RDs (k.at p.1) G0 ds vs ∧ PostF (k.at p.1) false G0 H Q E (den y ds)
structure CalleeE (P : Program) (w : World) (K : PySem.W.Frag) (mg : Str → Option Value) (base : Heap) (k : Kn) (lv : Nat) (x : Str) (n : Nat) (den : Exc → List D → R D) : Prop where
  ex : ∃ (f : Addr) (fd : FuncData) (ps : List Str), ps.length = n ∧ L2H.FnE P w K mg base CX0 lv f fd ps (SpE k n den) ∧ mg x = some (.ref f) ∧ PySem.W.keepIn K (.ref f) = true ∧ Binds K fd ps []
section
variable {P : Program} {w : World} {K : PySem.W.Frag} {mg : Str → Option Value} {base : Heap}
end
section
variable {X : Cx} {c : Cf} {k : Kn} {e : Expr} {pos : Pos} {den : Exc → List D → R D} {s : FS} {as bs : List Nat}
theorem XR.step {k : Kn} {G0 H0 G H G1 H1 : Hp} {y : Exc} {cls : Value} {d : Option Addr} (xr : XR ⟨k, H0, G0, liftX E0⟩ G0 y cls d H0) (st : Step G0 H0 G H) : XR ⟨k, H, G, liftX E0⟩ G y cls d H := by
  obtain ⟨C, nm, h1, h2, h3⟩ := xr
  refine ⟨C, nm, h1, h2, ?_⟩
  rcases h3 with ⟨a, b, c⟩ | ⟨d', vs, a, b, c, e⟩
  · exact .inl ⟨a, b, c⟩
  · exact .inr ⟨d', vs, a, st.h _ _ b, RDs.mono st.g c, e⟩
theorem s_tryE {x n : Str} {i : Nat} {body suite : List Stmt} {b₀ : Stmt} {np pos' : Pos} {hnd : Exc → FS} {mt : Nat → Option Bool} (T : TryC X.K X.mg c.k x mt) (hN : X.N.Nodup) (tk : L2N.Takes X c.W) (h0 : c.k.cl xix = none)
    (hb : ∀ (W : WX) (pn : List (Addr × Obj)) (xe : Value → Shared → Prop) (H0 G0 : Hp), L2N.Takes (X.tr pn xe) W → PassesOwn (model X.prog X.w) X.A X.env xe → PB1' (X.tr pn xe) ⟨c.k, H0, G0, W⟩ false as body s)
    (hsu : ∀ (a : Addr) (oe : Obj) (cls : Value) (d : Option Addr) (pn : List (Addr × Obj)) (H0 G0 : Hp) (y : Exc), Held (X.suite a ((a, oe) :: pn)) c.k a y H0 G0 → HeldE (X.suite a ((a, oe) :: pn)) c.k a y H0 G0 → L2H.HotC (X.suite a ((a, oe) :: pn)) →
      PB' (X.suite a ((a, oe) :: pn)) ⟨c.k.at a, H0, G0, liftX E0⟩ false bs (b₀ :: suite) (hnd y))
    (hi : X.N[i]? = some n := by rfl) (hln : X.env.kindOf n = some .local := by rfl) (hg : Gl X x := by rfl) (hdb : (x == ("__debug__" : Str)) = false := by decide) (hs : X.stack = X.env :: X.outer := by rfl) (hf : X.env.frame = some X.env.locals := by rfl) :
    PS' X c false as (.Try body [.ExceptHandler (some (.Name x np)) (some n) (b₀ :: suite) pos'] [] [] pos) (sTryAs mt i s hnd) := by
  obtain ⟨cv, hm, he⟩ := T.ex
  refine s_tryAs (bs := bs) hs hf hN hi hln ⟨hg, hdb, .inl hm⟩ tk h0 he hb fun a oe cls d pn H0 G0 y hz hv xr => ?_
  have hot : L2H.Hot1 (X.suite a ((a, oe) :: pn)).A (a, oe) := ⟨rfl, by obtain ⟨vs, e⟩ := hv; exact ⟨vs, e, hz.2.2 vs e⟩⟩
  have hh : HeldE (X.suite a ((a, oe) :: pn)) c.k a y H0 G0 := ⟨oe, cls, d, List.mem_cons_self .., hot, hz.zc, hv, xr⟩
  exact hsu a oe cls d pn H0 G0 y hh.held hh hh.hot
end
end M
set_option Elab.async false
set_option linter.all false
set_option maxRecDepth 100000
set_option maxHeartbeats 4000000
namespace M
open PySem L2 PyProof.Rows
abbrev blkH (X : Cx) (s : Shared) (H : Hp) (scope : Scope) (cenv : PySem.Env) (fp : List Addr) (p : Addr × Obj) : Cx := { X.blk s H scope cenv fp with pn := [p] }
theorem inv_blkH {X : Cx} {s s' : Shared} {H H' : Hp} {scope : Scope} {ce : PySem.Env} {fp : List Addr} {σ : L2.St} {p : Addr × Obj} (I : Inv (X.blk s H scope ce fp) [] σ H' s')
    (h : s'.heap.get? p.1 = some p.2 ∧ H' p.1 = none ∧ p.1 ≠ ce.locals ∧ p.1 ∉ frs X.stack ∧ ∀ v, p.2.data ≠ .cell v) : Inv (blkH X s H scope ce fp p) [] σ H' s' :=
  ⟨⟨I.ok.mod, I.ok.kind, I.ok.glob, I.ok.blt, I.ok.above, I.ok.inj, I.ok.has, I.ok.cab, I.ok.hd, I.ok.frames, I.ok.stk, I.ok.exf, I.ok.bs, I.ok.bsz, I.ok.noex, I.ok.exfs, I.ok.funs, I.ok.frf⟩, I.os, I.bare, I.base, I.loc, I.cell, I.free, I.freeC,
    fun q hq => by
      have hq : q ∈ [p] ++ ([] : List (Addr × Obj)) := hq
      have e : q = p := by simpa using hq
      subst e
      exact h, I.hok, I.len⟩
section
variable {X : Cx}
theorem lcH_core {pins : List (Addr × Obj)} {s : Shared} {σ : L2.St} {H : Hp} {Q : VK} {elt tg iter : Expr} {ifs : List Expr} {scope : Scope} {own : List (Str × Nat)} {pos pos' : Pos} {wi : TI} {g : TG} {tt : TT} {te : TE} {use : Option (Value → Sem Unit)} {Qf : Value → Shared → Prop}
    (hc : L2H.HotC X) (hN : X.N.Nodup) (I : Inv X pins σ H s) (hi : L2H.PIH X tg iter wi) (ok : BlkOk X.N X.env.scope scope own)
    (hg : ∀ (s : Shared) (H : Hp) (C : Addr) (cl : List (Str × Addr)) (fp : List Addr) (p : Addr × Obj), PG (blkH X s H scope (compEnvC scope cl C X.env) fp p) tg g)
    (ht : ∀ (s : Shared) (H : Hp) (C : Addr) (cl : List (Str × Addr)) (fp : List Addr) (p : Addr × Obj), L2H.HotC (blkH X s H scope (compEnvC scope cl C X.env) fp p) → PTs (blkH X s H scope (compEnvC scope cl C X.env) fp p) ifs tt)
    (he : ∀ (s : Shared) (H : Hp) (C : Addr) (cl : List (Str × Addr)) (fp : List Addr) (p : Addr × Obj), L2H.HotC (blkH X s H scope (compEnvC scope cl C X.env) fp p) → PE (blkH X s H scope (compEnvC scope cl C X.env) fp p) elt te) (hs : ∀ x, foldedSetIterable iter X.env x = pure x)
    (h : tLc wi g tt te (own.map (·.2)) σ H Q)
    (hRR : ∀ D C s' m H', Inv X pins σ H' s' → Q (.ref D) H' → s'.heap.Ns C m → FpOk X pins H' C → compPost (model X.prog X.w) X.A X.xe use Qf (.ref D) C (.ok .next) s') :
    wpAny (model X.prog X.w) X.A (comprehension (.ListComp elt [⟨tg, iter, ifs, 0⟩] scope pos) scope X.env pos' (newList []) false (eval iter X.env) use) Qf X.xe s := by
  have hfree : ∀ y ∈ scope.names, y.2 = .free → ∃ c, X.env.cells.lookup y.1 = some c := fun y hy e => by
    rcases ok.free y hy e with k | k
    · exact I.ok.has _ (.inl k)
    · exact I.ok.has _ (.inr k)
  obtain ⟨p, hp1, hp2⟩ := hc
  refine wpAny_comprehension_free (use := use) rfl hs (closure_ok hfree) ok.kind (fun y hy e => by rw [ok.uniq y hy, e])
    (thn (hi.run pins s σ H _ I h) fun xv s1 hx => thn hx fun itv s2 h2 => ?_)
  obtain ⟨it, fp, tn, J, H2, e, I2, T, st2, f2, q⟩ := h2
  subst e
  refine wpAny_newObj_type (newEnv_comp ?_) (by show 0 ≤ sizeLine; decide)
  generalize hD : s2.heap.objs.size = D
  have hDn : H2 D = none := I2.hok.fresh (Nat.le_of_eq hD)
  obtain ⟨W, ⟨m0, w0⟩, turn⟩ := q D hDn
  generalize hs3 : ({ s2 with heap := s2.heap.push { cls := .type "list", data := .seq ([] : List Value).toArray } } : Shared) = s3
  have I3 : Inv X pins σ (upd H2 D (.lst [])) s3 := by
    rw [← hs3]
    refine I2.laid (t' := s2.toks) (fun b o e => Heap.get?_push_of_some _ e) (Nat.le_of_eq hD) ⟨Nat.zero_le _, [], 0, .nil, ?_⟩
    rw [← hD]
    exact Heap.get?_push_size _ rfl
  have h3 : s3.heap = s2.heap.push { cls := .type "list", data := .seq ([] : List Value).toArray } := by rw [← hs3]
  have sz : ∀ b ∈ fp, b < s2.heap.objs.size := fun b hb => by
    obtain ⟨o, e, _⟩ := T.obj _ _ st2 b hb
    exact Heap.lt_size e
  have f3 : ∀ b ∈ fp, FpOk X pins (upd H2 D (.lst [])) b ∧ b < s3.heap.objs.size := fun b hb => by
    have hlt := sz b hb
    refine ⟨⟨?_, (f2 b hb).2⟩, by rw [h3, Heap.size_push]; exact Nat.lt_succ_of_lt hlt⟩
    rw [upd_ne (by rw [← hD]; exact Nat.ne_of_lt hlt)]
    exact (f2 b hb).1
  have st3 : tn 0 s3.heap := T.keep _ _ _ st2 fun b _ o e => by rw [h3]; exact Heap.get?_push_of_some _ e
  have I4 := block_start I3 ok hN f3
  have pP := I3.pin p (List.mem_append_left _ hp2)
  have pK : ∀ b ∈ fp, p.1 ≠ b := fun b hb => (f2 b hb).2.2.2.2.2 p (List.mem_append_left _ hp2)
  have pS : p.1 ∉ frs X.stack := fun z => by
    rcases List.mem_cons.mp (I3.stkSub _ z) with e | z
    · exact pP.2.2.1 e
    · exact pP.2.2.2.1 z
  have hot : ∀ cenv : PySem.Env, L2H.HotC (blkH X s3 (upd H2 D (.lst [])) scope cenv fp p) := fun cenv => ⟨p, hp1, List.mem_cons_self ..⟩
  have pg := hg s3 (upd H2 D (.lst [])) s3.heap.objs.size (cellsFrom (s3.heap.objs.size + 1) scope.names (cloFrom X.env.cells scope.names [])) fp p
  have pt := ht s3 (upd H2 D (.lst [])) s3.heap.objs.size (cellsFrom (s3.heap.objs.size + 1) scope.names (cloFrom X.env.cells scope.names [])) fp p (hot _)
  have pe := he s3 (upd H2 D (.lst [])) s3.heap.objs.size (cellsFrom (s3.heap.objs.size + 1) scope.names (cloFrom X.env.cells scope.names [])) fp p (hot _)
  show codeAny _ _ (.compStart (.ListComp elt [⟨tg, iter, ifs, 0⟩] scope pos) 0 (.ref it) (.ref D) (compEnvC scope (cellsFrom (s3.heap.objs.size + 1) scope.names (cloFrom X.env.cells scope.names [])) s3.heap.objs.size X.env)) (compPost (model X.prog X.w) X.A X.xe use Qf (.ref D) s3.heap.objs.size) { s3 with heap := pushCells (s3.heap.push { cls := .type "dict", data := .dict #[] }) scope.names }
  have nfp : ∀ b ∈ fp, (upd H2 D (.lst [])) b = none := fun b hb => (f3 b hb).1.1
  generalize hce : compEnvC scope (cellsFrom (s3.heap.objs.size + 1) scope.names (cloFrom X.env.cells scope.names [])) s3.heap.objs.size X.env = ce at I4 pg pt pe hot ⊢
  have cL : ce.locals = s3.heap.objs.size := by subst hce; rfl
  generalize hH3 : upd H2 D (.lst []) = H3 at I3 I4 pg pt pe w0 nfp f3 pP hot
  generalize hs4 : ({ s3 with heap := pushCells (s3.heap.push { cls := .type "dict", data := .dict #[] }) scope.names } : Shared) = s4 at I4 ⊢
  have st4 : tn 0 s4.heap := T.keep _ _ _ st3 fun b _ o e => by rw [← hs4]; exact pushCells_keeps _ _ _ _ (Heap.get?_push_of_some _ e)
  have I4 : Inv (blkH X s3 H3 scope ce fp p) [] (wipe σ (own.map (·.2))) H3 s4 := inv_blkH I4 ⟨by rw [← hs4]; exact pushCells_keeps _ _ _ _ (Heap.get?_push_of_some _ pP.1), pP.2.1, by rw [cL]; exact Nat.ne_of_lt (Heap.lt_size pP.1), pS, pP.2.2.2.2⟩
  have stat : ∀ {σ' : L2.St} {H' : Hp} {s' : Shared}, Inv (blkH X s3 H3 scope ce fp p) [] σ' H' s' → (∀ b ∈ fp, H' b = none) → ∀ b ∈ fp, FpOk (blkH X s3 H3 scope ce fp p) [] H' b := fun {σ' H' s'} I' hn b hb =>
    ⟨hn b hb, (I'.ok.exf b hb).1, I'.ok.exfs b hb, .inl hb, fun x c e => (I'.ok.exf b hb).2 x c e, fun q hq => by
      have hq : q ∈ [p] ++ ([] : List (Addr × Obj)) := hq
      have e : q = p := by simpa using hq
      subst e
      exact pK b hb⟩
  have loop : codeAny (model X.prog X.w) X.A (.compLoop (.ListComp elt [⟨tg, iter, ifs, 0⟩] scope pos) 0 (.ref it) (.ref D) ce) (compPost (model X.prog X.w) X.A X.xe use Qf (.ref D) s3.heap.objs.size) s4 := by
    refine compLoop_any (fun n s' => ∃ i H', Inv (blkH X s3 H3 scope ce fp p) [] (wipe σ (own.map (·.2))) H' s' ∧ tn i s'.heap ∧ (∀ b ∈ fp, H' b = none) ∧ W i n H') ?_ m0 ⟨0, H3, I4, st4, nfp, w0⟩
    rintro n s5 ⟨i, H5, I5, st5, n5, w5⟩
    rcases turn i n H5 w5 with ⟨stop, qq⟩ | ⟨go1, Nx, hNx, step⟩
    · have td := T.done (blkH X s3 H3 scope ce fp p) rfl rfl rfl (hot _) i [] s5 _ H5 (fun _ _ => False) I5 (stat I5 n5) st5 stop
      refine thnF td fun r s6 ⟨hr, I6⟩ => ?_
      subst hr
      have I7 : Inv X pins σ H5 s6 := I3.call' (ch := fp) I6.os I6.base I6.hok I6.bare fun b hb => ⟨(f3 b hb).1.2.2.2.1, (f3 b hb).1.2.1, (f3 b hb).1.2.2.2.2.1, (f3 b hb).1.2.2.2.2.2⟩
      have nC : H5 s3.heap.objs.size = none := by
        have z : H5 ce.locals = none := I6.free
        rw [cL] at z
        exact z
      obtain ⟨m, hn, _⟩ := I6.loc
      have hn : s6.heap.Ns ce.locals m := hn
      rw [cL] at hn
      exact hRR D s3.heap.objs.size s6 m H5 I7 qq hn (I3.fpOk (Nat.le_refl _) nC)
    · have ti := T.item (blkH X s3 H3 scope ce fp p) rfl rfl rfl (hot _) i [] s5 _ H5 (fun _ _ => False) I5 (stat I5 n5) st5 go1
      refine thnF ti fun r s6 ⟨u, hr, h6⟩ => ?_
      subst hr
      refine thnF h6 fun _ s7 ⟨x, H7, I7, r7, y7, st7, n7⟩ => ?_
      have I7' := I7.pinned (stat I7 n7) (T.obj _ _ st7)
      refine thnF (pg.run _ s7 _ H7 x u _ I7' r7 (step x H7 y7)) fun _ s8 ⟨σ8, H8, I8, hw8, q8⟩ => ?_
      refine thnF (pt.run _ s8 σ8 H8 _ I8 q8) fun b s9 ⟨H9, I9, q9⟩ => ?_
      have fin : ∀ {s' : Shared} {H' : Hp}, Inv (blkH X s3 H3 scope ce fp p) ([] ++ pinsAt fp s7.heap) σ8 H' s' → Nx H' → ∃ m, m < n ∧ ∃ i H', Inv (blkH X s3 H3 scope ce fp p) [] (wipe σ (own.map (·.2))) H' s' ∧ tn i s'.heap ∧ (∀ b ∈ fp, H' b = none) ∧ W i m H' := fun {s' H'} I' nx => by
        obtain ⟨m', hm, w'⟩ := hNx H' nx
        have pin' : ∀ b ∈ fp, ∀ o, s7.heap.get? b = some o → s'.heap.get? b = some o ∧ H' b = none := fun b hb o e =>
          let z := I'.pin (b, o) (List.mem_append_right _ (List.mem_append_right _ (mem_pinsAt hb e)))
          ⟨z.1, z.2.1⟩
        have hl : (wipe σ (own.map (·.2))).length = σ8.length := by rw [← hw8, wipe_length]
        refine ⟨m', hm, i + 1, H', (I'.unpinned (pins := [])).weak hl (fun j v e => ?_), T.keep _ _ _ st7 fun b hb o e => (pin' b hb o e).1, fun b hb => ?_, w'⟩
        · rw [← hw8] at e
          exact (wipe_some e).1
        · obtain ⟨o, e, _⟩ := T.obj _ _ st7 b hb
          exact (pin' b hb o e).2
      cases b with
      | false =>
        simp only [Bool.false_eq_true, if_false] at q9 ⊢
        exact fin I9 q9
      | true =>
        simp only [if_true] at q9 ⊢
        refine thnF (pe.run _ s9 σ8 H9 _ I9 q9) fun z s10 ⟨yv, H10, I10, r10, acc, hD10, hz10, nx⟩ => ?_
        exact app_ok (X := blkH X s3 H3 scope ce fp p) I10 hD10 hz10 r10 fun s11 I11 => fin I11 nx
  exact codeAny_compStart_list loop (T.self X.A 0 _ _ _ st4 loop)
theorem pe_lcH {elt tg iter : Expr} {ifs : List Expr} {scope : Scope} {own : List (Str × Nat)} {pos : Pos} {wi : TI} {g : TG} {tt : TT} {te : TE} (hc : L2H.HotC X) (hN : X.N.Nodup) (hi : L2H.PIH X tg iter wi) (ok : BlkOk X.N X.env.scope scope own)
    (hg : ∀ (s : Shared) (H : Hp) (C : Addr) (cl : List (Str × Addr)) (fp : List Addr) (p : Addr × Obj), PG (blkH X s H scope (compEnvC scope cl C X.env) fp p) tg g)
    (ht : ∀ (s : Shared) (H : Hp) (C : Addr) (cl : List (Str × Addr)) (fp : List Addr) (p : Addr × Obj), L2H.HotC (blkH X s H scope (compEnvC scope cl C X.env) fp p) → PTs (blkH X s H scope (compEnvC scope cl C X.env) fp p) ifs tt)
    (he : ∀ (s : Shared) (H : Hp) (C : Addr) (cl : List (Str × Addr)) (fp : List Addr) (p : Addr × Obj), L2H.HotC (blkH X s H scope (compEnvC scope cl C X.env) fp p) → PE (blkH X s H scope (compEnvC scope cl C X.env) fp p) elt te) (hs : ∀ x, foldedSetIterable iter X.env x = pure x := by intro _; rfl) :
    PE X (.ListComp elt [⟨tg, iter, ifs, 0⟩] scope pos) (tLc wi g tt te (own.map (·.2))) := by
  refine ⟨fun pins s σ H Q I h => ?_⟩
  rw [eval_ListComp]
  refine lcH_core hc hN I hi ok hg ht he hs h fun D C s' m H' I' q hn f => ⟨m, hn, fun h'' sb => ?_⟩
  obtain ⟨f0, f1, f2, f3, f4, f5⟩ := f
  exact ⟨.ref D, H', I'.turned (t' := s'.toks) (fun b o hb e => (sb.2 b hb).trans e) f0 f1 f3 f4 f5, rfl, q⟩
section
variable {c : Cf} {tg : Expr} {t : FT} {pos : Pos}
theorem d_lcH {elt a : Expr} {ifs : List Expr} {scope : Scope} {p : Pos} {fa : FA} {ba : Bool} (own : List (Str × Nat)) {gs : List Nat} {ga : FG} {fe : FE} (hc : L2H.HotC X) (hN : X.N.Nodup) (hm : X.mg "range" = none) (ha : PA' X c ba [a] fa) (ok : BlkOk X.N X.env.scope scope own)
    (hg : ∀ (s : Shared) (H : Hp) (C : Addr) (cl : List (Str × Addr)) (fp : List Addr) (p : Addr × Obj), PG' (blkH X s H scope (compEnvC scope cl C X.env) fp p) c.nx gs tg ga)
    (ht : ∀ (s : Shared) (H : Hp) (C : Addr) (cl : List (Str × Addr)) (fp : List Addr) (p : Addr × Obj), L2H.HotC (blkH X s H scope (compEnvC scope cl C X.env) fp p) → PTs' (blkH X s H scope (compEnvC scope cl C X.env) fp p) c.nx ifs t)
    (he : ∀ (s : Shared) (H : Hp) (C : Addr) (cl : List (Str × Addr)) (fp : List Addr) (p : Addr × Obj), L2H.HotC (blkH X s H scope (compEnvC scope cl C X.env) fp p) → PE' (blkH X s H scope (compEnvC scope cl C X.env) fp p) c.nx .st elt fe)
    (hgs : ∀ i, i ∈ gs → i ∈ own.map (·.2) := by decide) (hgr : Gl X "range" := by rfl) (hst : starEach [a] X.env = [(false, eval a X.env)] := by rfl) (hs : ∀ x, foldedSetIterable (.Call (.Name "range" p) [a] [] pos) X.env x = pure x := by intro _; rfl) {pos' : Pos} :
    PE' X c .fr (.ListComp elt [⟨tg, .Call (.Name "range" p) [a] [] pos, ifs, 0⟩] scope pos') (lcE (fun S => fa S >>= rng1) ga t fe (own.map (·.2))) := by
  refine peI (pe_lcH hc hN (L2H.pi_range1H hgr hm ha hst) ok hg ht he hs) fun σ H Q q => ?_
  have z := lc_go (ki := []) (gi := RdG c.nx gs ga) (tt := RdT c.nx t) (te := RdE c.nx .st fe) (fun _ _ _ _ z => z) (fun _ _ _ z => z) (fun _ _ _ z => z) hgs q
  obtain ⟨G, S, rel, p⟩ := z
  refine rdA_go (g := rng1) (Post := PostI c [] G S σ H _) rel p (fun _ z => z) (fun z => z) fun ds vs G' H' sp q p1 => ?_
  rcases ds with _ | ⟨d1, _ | ⟨d2, dr⟩⟩
  · exact p1.elim
  · cases d1 with
    | int j =>
      have p1 : PostI c [] G S σ H _ (if -(2 ^ 62) ≤ j ∧ j < 2 ^ 62 then .ok (rngL 0 j.toNat) else .fail) := p1
      cases q.nows with
      | cons n1 n2 =>
        cases n2
        obtain rfl := n1.int
        by_cases hj : -(2 ^ 62) ≤ j ∧ j < 2 ^ 62
        · rw [if_pos hj] at p1
          exact ⟨j, rfl, hj.1, hj.2, p1 _ G' H' sp (itm_rng 0 _)⟩
        · rw [if_neg hj] at p1; exact p1.elim
    | _ => exact p1.elim
  · cases d1 <;> exact p1.elim
end
theorem cr_allH (hc : L2H.HotC X) : CallR X (.builtin "all") (rAll X.K) := by
  intro pins s σ H vs us Q I r h
  obtain ⟨a, bs, rfl, hs, q⟩ := h
  obtain ⟨its, rv, hl, _⟩ := I.list hs
  obtain ⟨x1, hot⟩ := hc.at I
  rw [Vals.ref1 r]
  have hb := rv.bls
  refine call_all_walk (iter_any hl.isList fun s₂ e2 st hne => ?_)
  subst e2
  have hx : x1 ≠ s.heap.objs.size := by
    obtain ⟨_, o1, _, h1, _, _⟩ := hot
    exact Nat.ne_of_lt (Heap.lt_size h1)
  have hot' : HotX.HotAt X.A.in1 x1 (s.heap.push { cls := .type "list_iterator", data := .fields #[.ref a, .int 0 0] }) := by
    obtain ⟨hh, o1, vs1, h1, d1, c1⟩ := hot
    exact ⟨hh, o1, vs1, Heap.get?_push_of_some _ h1, d1, c1⟩
  refine ⟨_, _, _, _, _, _, _, rfl, walks_hot (A := X.A.in1) hne hx its.toArray, ⟨st.1, st.2, hot'⟩, truth_bools hb, fun h' tk hk => ?_⟩
  refine ⟨.bl _, H, I.kept fun b o eo => hk b o (fun hmem => ?_) (Heap.get?_push_of_some _ eo), ?_, q⟩
  · rcases List.mem_cons.mp hmem with e1 | hmem
    · exact absurd (e1 ▸ Heap.lt_size eo) (Nat.lt_irrefl _)
    · cases hmem
  · show Value.bool _ = Value.bool _
    rw [← L2.all_range, hb, List.size_toArray, List.length_map]
theorem c_allH {k : Kn} (hc : L2H.HotC X) : ClR X k (.builtin "all") .st (f1 allD) := cl1 (cr_allH hc) fun G H x v d e n hg Q p => by
  cases x <;> simp only [allD] at hg <;> first | (cases hg; done) | skip
  split at hg
  · rename_i ns hn
    cases hg; obtain ⟨a, vs, rfl, ha, r⟩ := n.lst e
    have := asB_of r hn; subst this
    exact ⟨a, ns, rfl, SqL.of ha, p _ G H (Step.refl e) (.bl _)⟩
  · cases hg
section
variable {c : Cf} {e : Expr} {pos : Pos} {den : List D → R D}
theorem d_callHH {k : Kn} {lv m n : Nat} {x : Str} {p : Pos} {es : List Expr} {fa : FA} (F : CalleeH X.prog X.w X.K X.mg X.base k lv x n den) (hr : L2H.RoomH m X.A) (hle : lv ≤ m) (hc : L2H.HotC X) (ha : PA' X c false (e :: es) fa) (hl : Len n fa)
    (hg : Gl X x := by rfl) (hdb : (x == ("__debug__" : Str)) = false := by decide)
    (hs : starEach (e :: es) X.env = (false, eval e X.env) :: starEach es X.env := by rfl) (hs2 : ((backTo pos (starEach es X.env)).any fun x => x.1) = false := by rfl) (hkk : c.k = k := by rfl) : PE' X c .st (.Call (.Name x p) (e :: es) [] pos) (eC den fa) := by
  subst hkk
  obtain ⟨f, fd, ps, hn, ok, hm, hk, hb⟩ := F.ex
  refine peI (L2H.pe_callH (E := fun _ => E0) ok (hr.mono hle) hc hg hm hk hb (fun σ => fun _ _ _ _ _ _ h => h.elim) ha hdb hs hs2) fun σ H Q ⟨G, S, rel, q⟩ => ?_
  have q : PostE c .st G S σ H Q (fa S >>= fun ds => (den ds).nox) := q
  refine ⟨G, S, rel, ?_⟩
  cases e0 : fa S with
  | exc x => rw [e0] at q; exact q
  | fail => rw [e0] at q; exact q
  | ok ds =>
    rw [e0] at q
    intro vs G1 H1 s1 q1
    have q1 : RDs c.k G1 ds vs := q1
    have q : PostE c .st G S σ H Q (den ds).nox := q
    refine ⟨by rw [← q1.length]; exact hl S ds e0, G1, ds, s1.gh, q1, ?_⟩
    cases e1 : den ds with
    | ok d => rw [e1] at q; exact fun v G' H' s2 r2 => q v G' H' (s1.trans s2) r2
    | exc x => rw [e1] at q; exact q.elim
    | fail => rw [e1] at q; exact q.elim
end
end
end M
set_option Elab.async false
set_option linter.all false
set_option maxRecDepth 100000
set_option maxHeartbeats 4000000
namespace Pf
open PySem L2 M
structure Bt (mg : Str → Option Value) : Prop where
  ValueError : mg "ValueError" = none
  abs : mg "abs" = none
  all : mg "all" = none
  any : mg "any" = none
  bool : mg "bool" = none
  int : mg "int" = none
  isinstance : mg "isinstance" = none
  len : mg "len" = none
  list : mg "list" = none
  max : mg "max" = none
  min : mg "min" = none
  range : mg "range" = none
  str : mg "str" = none
  tuple : mg "tuple" = none
section
variable {P : Program} {w : World} {K : PySem.W.Frag} {mg : Str → Option Value} {base : Heap} {cl : Nat → Option (Addr × List Str)}
def mt_BadText : Nat → Option Bool := mtOf [(16, true)]
def xtab : Nat → D → Option Bool := xtabOf [((16, .cls 15), false), ((16, .cls 13), false), ((16, .cls 11), false), ((16, .cls 12), false), ((16, .cls 14), false), ((16, .cls 10), true), ((16, .ty "ValueError"), true)]
def m_entries_of : FS :=
    (sSeq (sIf (tB' (e2 eqD (eW 0) (eS "-"))) (sRet (eT aN)) sNil)
    (sSeq (sIf (tO (tB' (e2 eqD (eW 0) (eS ""))) (tO (tB' (e2 gtD (eC (f1 lenD) (aC (eW 0) aN)) (eG gv_MOST_ENTRIES))) (tT' (eC (f1 anyD) (aC (lcE (fun S => (eV 0) S >>= itemsD) (gN 1) tY (e1 (kinD true tv_ENTRIES) (eW 1)) [1]) aN))))) (sRet eN) sNil)
    (sRet (eC (f1 tupD) (aC (lcE (fun S => (eV 0) S >>= itemsD) (gN 1) tY (e1 (kixD tv_ENTRIES) (eW 1)) [1]) aN)))))
def d_entries_of : List D → R D := fun ds => (runF false 2 m_entries_of ds).nox
theorem sc_entries_of : FnScope ["word", "sign"] ["word"] (defScope st_entries_of) := ⟨rfl, rfl, rfl, by decide +kernel, rfl, by decide +kernel, by decide +kernel⟩
theorem ok_entries_of {f : Addr} {fd : FuncData} (F : FunD K "entries_of" "entries_of" (defArgs st_entries_of) (defBody st_entries_of) (defScope st_entries_of) [] [] f fd) (mgf : mg "entries_of" = some (.ref f)) (B : Bt mg) (g_MOST_ENTRIES : Gc mg ⟨K, cl⟩ "MOST_ENTRIES" gv_MOST_ENTRIES) (t_ENTRIES : KTab K w mg "ENTRIES" tv_ENTRIES) : Callee P w K mg base ⟨K, cl⟩ 1 "entries_of" 1 false d_entries_of := by
  have nd : (["word", "sign"] : List Str).Nodup := sc_entries_of.nd
  have z := fn_ok (P := P) (w := w) (mg := mg) (base := base) (k := ⟨K, cl⟩) (fr := false) (lv := 0) (as := []) (s := m_entries_of) F sc_entries_of fun cdv A outer sh H G0 hr => by
    have hu := hr.units
    have hu5 := hr.units5
    exact (b_cons (s_if (d_tc (o_eq rfl hu) (d_w 0) d_str) (b_one (s_ret (d_tup d_an))) b_nil)
    (b_cons (s_if (d_pw (d_or (d_tc (o_eq rfl hu) (d_w 0) d_str) (d_or (d_tc (o_gt) (d_bltn (c_len rfl) B.len (d_ab (d_w 0) d_an)) (d_g g_MOST_ENTRIES)) (d_or1 (d_tt rfl (d_bltn (c_any rfl) B.any (d_ab (d_lc [("sign", 1)] rfl nd (i_seq rfl (d_v 0)) (blkOk_by (N := ["word", "sign"]) (sc := (defScope st_entries_of)) (by decide +kernel)) (fun _ _ _ _ _ => (g_n 1 nd)) (fun _ _ _ _ _ => ts_n) (fun _ _ _ _ _ => (d_knotin t_ENTRIES (d_w 1)))) d_an))))))) (b_one (s_ret d_non)) b_nil)
    (b_one (s_ret (d_btyp (c_tup rfl) B.tuple (d_ab (d_lc [("sign", 1)] rfl nd (i_seq rfl (d_v 0)) (blkOk_by (N := ["word", "sign"]) (sc := (defScope st_entries_of)) (by decide +kernel)) (fun _ _ _ _ _ => (g_n 1 nd)) (fun _ _ _ _ _ => ts_n) (fun _ _ _ _ _ => (d_kix t_ENTRIES (d_w 1)))) d_an))))))
  exact ⟨f, fd, ["word"], rfl, z, mgf, F.kp, F.bindsN fun _ _ _ _ _ _ us hl => match us, hl with | [_], _ => rfl⟩
def m_meaning : FS :=
    (sMatch (eW 0) [(some (0), (sRet (e1 (kgetD tv_BITS) (eW 1)))), (some (1), (sRet (eC d_entries_of (aC (eV 1) aN)))), (some (2), (sRet (e1 (kgetD tv_RUNS) (eW 1)))), (none, (sRet (e1 (kgetD tv_MORES) (eW 1))))])
def d_meaning : List D → R D := fun ds => (runF false 2 m_meaning ds).nox
theorem sc_meaning : FnScope ["place", "word"] ["place", "word"] (defScope st_meaning) := ⟨rfl, rfl, rfl, by decide +kernel, rfl, by decide +kernel, by decide +kernel⟩
theorem ok_meaning {f : Addr} {fd : FuncData} (F : FunD K "meaning" "meaning" (defArgs st_meaning) (defBody st_meaning) (defScope st_meaning) [] [] f fd) (mgf : mg "meaning" = some (.ref f)) (B : Bt mg) (t_BITS : KTab K w mg "BITS" tv_BITS) (h_entries_of : Callee P w K mg base ⟨K, cl⟩ 1 "entries_of" 1 false d_entries_of) (t_RUNS : KTab K w mg "RUNS" tv_RUNS) (t_MORES : KTab K w mg "MORES" tv_MORES) : Callee P w K mg base ⟨K, cl⟩ 2 "meaning" 2 false d_meaning := by
  have nd : (["place", "word"] : List Str).Nodup := sc_meaning.nd
  have z := fn_ok (P := P) (w := w) (mg := mg) (base := base) (k := ⟨K, cl⟩) (fr := false) (lv := 1) (as := []) (s := m_meaning) F sc_meaning fun cdv A outer sh H G0 hr => by
    have hu := hr.units
    have hu5 := hr.units5
    exact (b_one (s_match (d_w 0) (m_val (b_one (s_ret (d_kget t_BITS (d_w 1)))) (m_val (b_one (s_ret (d_callS (h_entries_of.at hr (by decide)) (d_ac (d_v 1) d_an) (len_c len_n)))) (m_val (b_one (s_ret (d_kget t_RUNS (d_w 1)))) (m_any (b_one (s_ret (d_kget t_MORES (d_w 1))))))))))
  exact ⟨f, fd, ["place", "word"], rfl, z, mgf, F.kp, F.bindsN fun _ _ _ _ _ _ us hl => match us, hl with | [_, _], _ => rfl⟩
def m_word_at : FS :=
    (sSeq (sIf (tB' (e2 eqD (eW 1) (eC (f1 lenD) (aC (eW 0) aN)))) (sExcI 16 2 (aC (eI (1)) (aC (e2 addD (eW 1) (eI (1))) aN))) sNil)
    (sRet (e2 ixD (eW 0) (eW 1))))
def d_word_at : List D → R D := runF false 2 m_word_at
theorem sc_word_at : FnScope ["words", "at"] ["words", "at"] (defScope st_word_at) := ⟨rfl, rfl, rfl, by decide +kernel, rfl, by decide +kernel, by decide +kernel⟩
theorem ok_word_at {f : Addr} {fd : FuncData} (F : FunD K "word_at" "word_at" (defArgs st_word_at) (defBody st_word_at) (defScope st_word_at) [] [] f fd) (mgf : mg "word_at" = some (.ref f)) (B : Bt mg) (R_BadText : RaI P K mg ⟨K, cl⟩ "BadText" 16 ["line", "word"]) : CalleeX P w K mg base ⟨K, cl⟩ 1 "word_at" 2 false d_word_at := by
  have nd : (["words", "at"] : List Str).Nodup := sc_word_at.nd
  have z := fn_okX (P := P) (w := w) (mg := mg) (base := base) (k := ⟨K, cl⟩) (fr := false) (lv := 0) (as := _) (s := m_word_at) F sc_word_at fun cdv A outer sh H G0 E hr tk => by
    have hu := hr.units
    have hu5 := hr.units5
    exact (b_cons (s_if (d_tc (o_eq rfl hu) (d_w 1) (d_bltn (c_len rfl) B.len (d_ab (d_w 0) d_an))) (b_one (s_raiseI R_BadText rfl hr rfl tk (d_ac d_int (d_ac (d_op (o_add rfl) (d_w 1) d_int) d_an)))) b_nil)
    (b_one (s_ret (d_ix (o_ix rfl) (d_w 0) (d_w 1)))))
  exact ⟨f, fd, ["words", "at"], rfl, z, mgf, F.kp, F.bindsN fun _ _ _ _ _ _ us hl => match us, hl with | [_, _], _ => rfl⟩
def m_read_joint (self : List D → R D) : FS :=
    (sSeq (sOwn 3 (eL aN))
    (sSeq (sFor (fun S => (aC (eI (4)) aN) S >>= rng1) (gN 4) (sSeq (sSet 5 (eC d_meaning (aC (eV 4) (aC (eCX d_word_at (aC (eV 0) (aC (eV 1) aN))) aN))))
    (sSeq (sIf (tB' (e2 isD (eW 5) eN)) (sExcI 16 2 (aC (eI (1)) (aC (e2 addD (eW 1) (eI (1))) aN))) sNil)
    (sSeq (sApp 3 (eV 5))
    (sAugI 1 addD (eI (1)))))))
    (sSeq (sOwn 6 (eL aN))
    (sSeq (whileF (tA (tB' (e2 ltD (eW 1) (eC (f1 lenD) (aC (eW 0) aN)))) (tA (tB' (e2 eqD (e2 ixD (eW 0) (eW 1)) (eS "("))) (tB' (e2 ltD (eW 2) (eG gv_MOST_ROWS))))) (sSeq (sAsg (gT 3 (gsC (gN 7) (gsC (gN 1) (gsC (gN 2) gsN)))) (eCX self (aC (eV 0) (aC (e2 addD (eW 1) (eI (1))) (aC (e2 addD (eW 2) (eI (1))) aN)))))
    (sSeq (sIf (tB' (e2 neD (eCX d_word_at (aC (eV 0) (aC (eV 1) aN))) (eS ")"))) (sExcI 16 2 (aC (eI (1)) (aC (e2 addD (eW 1) (eI (1))) aN))) sNil)
    (sSeq (sApp 6 (eV 7))
    (sAugI 1 addD (eI (1)))))) 10)
    (sRet (eT (aC (eT (aC (eC (f1 tupD) (aC (eW 3) aN)) (aC (eC (f1 tupD) (aC (eW 6) aN)) aN))) (aC (eV 1) (aC (eV 2) aN)))))))))
def d_read_joint' : Nat → List D → R D
  | 0 => fun _ => .fail
  | n + 1 => fun ds => runF false 8 (m_read_joint (d_read_joint' n)) ds
def d_read_joint : List D → R D := d_read_joint' 5
theorem sc_read_joint : FnScope ["words", "at", "begun", "row", "place", "told", "guests", "guest"] ["words", "at", "begun"] (defScope st_read_joint) := ⟨rfl, rfl, rfl, by decide +kernel, rfl, by decide +kernel, by decide +kernel⟩
theorem okr_read_joint {f : Addr} {fd : FuncData} (F : FunD K "read_joint" "read_joint" (defArgs st_read_joint) (defBody st_read_joint) (defScope st_read_joint) [] [] f fd) (mgf : mg "read_joint" = some (.ref f)) (B : Bt mg) (h_meaning : Callee P w K mg base ⟨K, cl⟩ 2 "meaning" 2 false d_meaning) (h_word_at : CalleeX P w K mg base ⟨K, cl⟩ 1 "word_at" 2 false d_word_at) (R_BadText : RaI P K mg ⟨K, cl⟩ "BadText" 16 ["line", "word"]) (g_MOST_ROWS : Gc mg ⟨K, cl⟩ "MOST_ROWS" gv_MOST_ROWS) (n : Nat) : CalleeX P w K mg base ⟨K, cl⟩ (3 + n) "read_joint" 3 false (d_read_joint' n) := by
  have nd : (["words", "at", "begun", "row", "place", "told", "guests", "guest"] : List Str).Nodup := sc_read_joint.nd
  induction n with
  | zero => exact ⟨f, fd, ["words", "at", "begun"], rfl, fn_okX (P := P) (w := w) (mg := mg) (base := base) (k := ⟨K, cl⟩) (fr := false) (lv := 2) (as := []) (s := fun _ => .fail) F sc_read_joint fun cdv A outer sh H G0 E hr tk => b_fail, mgf, F.kp, F.bindsN fun _ _ _ _ _ _ us hl => match us, hl with | [_, _, _], _ => rfl⟩
  | succ n ih =>
    have z := fn_okX (P := P) (w := w) (mg := mg) (base := base) (k := ⟨K, cl⟩) (fr := false) (lv := 3 + n) (as := _) (s := m_read_joint (d_read_joint' n)) F sc_read_joint fun cdv A outer sh H G0 E hr tk => by
      have hu := hr.units
      have hu5 := hr.units5
      exact (b_cons (s_own 3 nd (d_lst d_an))
    (b_cons (s_for (L2.passes_of rfl) rfl (i_rng1 B.range (d_ab d_int d_an)) (g_n 4 nd) (b_cons (s_set 5 nd (d_callS (h_meaning.at hr (by omega)) (d_ac (d_v 4) (d_ac (d_callXS h_word_at hr (by omega) tk (d_ac (d_v 0) (d_ac (d_v 1) d_an)) (len_c (len_c len_n))) d_an)) (len_c (len_c len_n))))
    (b_cons (s_if (d_tc (o_is) (d_w 5) d_non) (b_one (s_raiseI R_BadText rfl hr rfl tk (d_ac d_int (d_ac (d_op (o_add rfl) (d_w 1) d_int) d_an)))) b_nil)
    (b_cons (s_app 3 (d_v 5))
    (b_one (s_aug 1 i_add nd d_int))))))
    (b_cons (s_own 6 nd (d_lst d_an))
    (b_cons (s_while 10 (L2.passes_of rfl) (d_pw (d_and (d_tc (o_lt) (d_w 1) (d_bltn (c_len rfl) B.len (d_ab (d_w 0) d_an))) (d_and (d_tc (o_eq rfl hu) (d_ix (o_ix rfl) (d_w 0) (d_w 1)) d_str) (d_and1 (d_tc (o_lt) (d_w 2) (d_g g_MOST_ROWS)))))) (b_cons (s_asg (d_callXS ih hr (by omega) tk (d_ac (d_v 0) (d_ac (d_op (o_add rfl) (d_w 1) d_int) (d_ac (d_op (o_add rfl) (d_w 2) d_int) d_an))) (len_c (len_c (len_c len_n)))) (g_t rfl rfl (gs_c (g_n 7 nd) (gs_c (g_n 1 nd) (gs_c (g_n 2 nd) gs_n)))))
    (b_cons (s_if (d_tc (o_ne rfl hu) (d_callXS h_word_at hr (by omega) tk (d_ac (d_v 0) (d_ac (d_v 1) d_an)) (len_c (len_c len_n))) d_str) (b_one (s_raiseI R_BadText rfl hr rfl tk (d_ac d_int (d_ac (d_op (o_add rfl) (d_w 1) d_int) d_an)))) b_nil)
    (b_cons (s_app 6 (d_v 7))
    (b_one (s_aug 1 i_add nd d_int))))))
    (b_one (s_ret (d_tup (d_ac (d_tup (d_ac (d_btyp (c_tup rfl) B.tuple (d_ab (d_w 3) d_an)) (d_ac (d_btyp (c_tup rfl) B.tuple (d_ab (d_w 6) d_an)) d_an))) (d_ac (d_v 1) (d_ac (d_v 2) d_an))))))))))
    exact ⟨f, fd, ["words", "at", "begun"], rfl, z, mgf, F.kp, F.bindsN fun _ _ _ _ _ _ us hl => match us, hl with | [_, _, _], _ => rfl⟩
theorem ok_read_joint {f : Addr} {fd : FuncData} (F : FunD K "read_joint" "read_joint" (defArgs st_read_joint) (defBody st_read_joint) (defScope st_read_joint) [] [] f fd) (mgf : mg "read_joint" = some (.ref f)) (B : Bt mg) (h_meaning : Callee P w K mg base ⟨K, cl⟩ 2 "meaning" 2 false d_meaning) (h_word_at : CalleeX P w K mg base ⟨K, cl⟩ 1 "word_at" 2 false d_word_at) (R_BadText : RaI P K mg ⟨K, cl⟩ "BadText" 16 ["line", "word"]) (g_MOST_ROWS : Gc mg ⟨K, cl⟩ "MOST_ROWS" gv_MOST_ROWS) : CalleeX P w K mg base ⟨K, cl⟩ 8 "read_joint" 3 false d_read_joint := okr_read_joint F mgf B h_meaning h_word_at R_BadText g_MOST_ROWS 5
def m_read_row : FS :=
    (sSeq (sSet 1 (eM1 splitD (eW 0) (eS " ")))
    (sSeq (sAsg (gT 3 (gsC (gN 2) (gsC (gN 3) (gsC (gN 4) gsN)))) (eCX d_read_joint (aC (eV 1) (aC (eI (0)) (aC (eI (1)) aN)))))
    (sSeq (sIf (tB' (e2 ltD (eW 3) (eC (f1 lenD) (aC (eW 1) aN)))) (sExcI 16 2 (aC (eI (1)) (aC (e2 addD (eW 3) (eI (1))) aN))) sNil)
    (sRet (eV 2)))))
def d_read_row : List D → R D := runF false 5 m_read_row
theorem sc_read_row : FnScope ["text", "words", "joint", "at", "begun"] ["text"] (defScope st_read_row) := ⟨rfl, rfl, rfl, by decide +kernel, rfl, by decide +kernel, by decide +kernel⟩
theorem ok_read_row {f : Addr} {fd : FuncData} (F : FunD K "read_row" "read_row" (defArgs st_read_row) (defBody st_read_row) (defScope st_read_row) [] [] f fd) (mgf : mg "read_row" = some (.ref f)) (B : Bt mg) (h_read_joint : CalleeX P w K mg base ⟨K, cl⟩ 8 "read_joint" 3 false d_read_joint) (R_BadText : RaI P K mg ⟨K, cl⟩ "BadText" 16 ["line", "word"]) : CalleeX P w K mg base ⟨K, cl⟩ 9 "read_row" 1 false d_read_row := by
  have nd : (["text", "words", "joint", "at", "begun"] : List Str).Nodup := sc_read_row.nd
  have z := fn_okX (P := P) (w := w) (mg := mg) (base := base) (k := ⟨K, cl⟩) (fr := false) (lv := 8) (as := _) (s := m_read_row) F sc_read_row fun cdv A outer sh H G0 E hr tk => by
    have hu := hr.units
    have hu5 := hr.units5
    exact (b_cons (s_set 1 nd (d_z (d_split (d_w 0) d_str)))
    (b_cons (s_asg (d_callXS h_read_joint hr (by decide) tk (d_ac (d_v 1) (d_ac d_int (d_ac d_int d_an))) (len_c (len_c (len_c len_n)))) (g_t rfl rfl (gs_c (g_n 2 nd) (gs_c (g_n 3 nd) (gs_c (g_n 4 nd) gs_n)))))
    (b_cons (s_if (d_tc (o_lt) (d_w 3) (d_bltn (c_len rfl) B.len (d_ab (d_w 1) d_an))) (b_one (s_raiseI R_BadText rfl hr rfl tk (d_ac d_int (d_ac (d_op (o_add rfl) (d_w 3) d_int) d_an)))) b_nil)
    (b_one (s_ret (d_v 2))))))
  exact ⟨f, fd, ["text"], rfl, z, mgf, F.kp, F.bindsN fun _ _ _ _ _ _ us hl => match us, hl with | [_], _ => rfl⟩
def m__law_cell : FS :=
    (sSeq (sIf (tB' (e2 ltD (eW 1) (eC (f1 lenD) (aC (eW 0) aN)))) (sRet (e2 ixD (eW 0) (eW 1))) sNil)
    (sSeq (sIf (tB' (e2 eqD (eC (f1 lenD) (aC (eW 0) aN)) (eI (0)))) (sRet (eV 1)) sNil)
    (sRet (e2 addD (e2 ixD (eW 0) (e2 modD (eC (f1 intD) (aC (eW 1) aN)) (eC (f1 lenD) (aC (eW 0) aN)))) (e2 mulD (eI (104729)) (eW 1))))))
def d__law_cell : List D → R D := fun ds => (runF false 2 m__law_cell ds).nox
theorem sc__law_cell : FnScope ["_law_script", "_law_at"] ["_law_script", "_law_at"] (defScope st__law_cell) := ⟨rfl, rfl, rfl, by decide +kernel, rfl, by decide +kernel, by decide +kernel⟩
theorem ok__law_cell {f : Addr} {fd : FuncData} (F : FunD K "_law_cell" "_law_cell" (defArgs st__law_cell) (defBody st__law_cell) (defScope st__law_cell) [] [] f fd) (mgf : mg "_law_cell" = some (.ref f)) (B : Bt mg)  : Callee P w K mg base ⟨K, cl⟩ 1 "_law_cell" 2 false d__law_cell := by
  have nd : (["_law_script", "_law_at"] : List Str).Nodup := sc__law_cell.nd
  have z := fn_ok (P := P) (w := w) (mg := mg) (base := base) (k := ⟨K, cl⟩) (fr := false) (lv := 0) (as := []) (s := m__law_cell) F sc__law_cell fun cdv A outer sh H G0 hr => by
    have hu := hr.units
    have hu5 := hr.units5
    exact (b_cons (s_if (d_tc (o_lt) (d_w 1) (d_bltn (c_len rfl) B.len (d_ab (d_w 0) d_an))) (b_one (s_ret (d_ix (o_ix rfl) (d_w 0) (d_w 1)))) b_nil)
    (b_cons (s_if (d_tc (o_eq rfl hu) (d_bltn (c_len rfl) B.len (d_ab (d_w 0) d_an)) d_int) (b_one (s_ret (d_v 1))) b_nil)
    (b_one (s_ret (d_op (o_add rfl) (d_ix (o_ix rfl) (d_w 0) (d_op (o_mod) (d_btyp (c_int) B.int (d_ab (d_w 1) d_an)) (d_bltn (c_len rfl) B.len (d_ab (d_w 0) d_an)))) (d_op (o_mul rfl) d_int (d_w 1)))))))
  exact ⟨f, fd, ["_law_script", "_law_at"], rfl, z, mgf, F.kp, F.bindsN fun _ _ _ _ _ _ us hl => match us, hl with | [_, _], _ => rfl⟩
def m__law_draws : FS :=
    (sSeq (sSet 3 (eC (f1 absD) (aC (eC d__law_cell (aC (eV 0) (aC (eV 1) aN))) aN)))
    (sSeq (sSet 4 (eI (0)))
    (sSeq (sIf (tB' (e2 geD (eW 3) (e2 powD (eI (10)) (eI (18))))) (sSet 4 (e2 subD (eW 3) (e2 powD (eI (10)) (eI (18))))) sNil)
    (sSeq (sOwn 5 (eL aN))
    (sSeq (sFor (fun S => (aC (eW 2) aN) S >>= rng1) (gN 6) (sIf (tB' (e2 gtD (eW 4) (eI (0)))) (sSeq (sApp 5 (e2 modD (eC (f1 intD) (aC (eW 4) aN)) (eI (60))))
    (sSet 4 (e2 fdivD (eW 4) (eI (60))))) (sSeq (sSet 7 (e2 modD (eC (f1 intD) (aC (e2 addD (e2 addD (e2 addD (e2 mulD (eW 3) (eI (48271))) (e2 mulD (eW 6) (eI (69621)))) (e2 mulD (eW 1) (eI (7919)))) (eI (12345))) aN)) (eI (2147483647))))
    (sSeq (sSet 7 (e2 modD (eC (f1 intD) (aC (e2 addD (e2 addD (e2 mulD (eW 7) (eI (40692))) (e2 fdivD (eW 7) (eI (127)))) (e2 mulD (eW 6) (eI (101)))) aN)) (eI (2147483399))))
    (sApp 5 (e2 modD (eC (f1 intD) (aC (e2 fdivD (eW 7) (eI (11))) aN)) (eI (60))))))))
    (sFz 5 (sRet (eV 5))))))))
def d__law_draws : List D → R D := fun ds => (runF false 8 m__law_draws ds).nox
theorem sc__law_draws : FnScope ["_law_script", "_law_at", "_law_count", "_law_cell_here", "_law_rest", "_law_found", "_law_k", "_law_mixed"] ["_law_script", "_law_at", "_law_count"] (defScope st__law_draws) := ⟨rfl, rfl, rfl, by decide +kernel, rfl, by decide +kernel, by decide +kernel⟩
theorem ok__law_draws {f : Addr} {fd : FuncData} (F : FunD K "_law_draws" "_law_draws" (defArgs st__law_draws) (defBody st__law_draws) (defScope st__law_draws) [] [] f fd) (mgf : mg "_law_draws" = some (.ref f)) (B : Bt mg) (h__law_cell : Callee P w K mg base ⟨K, cl⟩ 1 "_law_cell" 2 false d__law_cell) : Callee P w K mg base ⟨K, cl⟩ 2 "_law_draws" 3 false d__law_draws := by
  have nd : (["_law_script", "_law_at", "_law_count", "_law_cell_here", "_law_rest", "_law_found", "_law_k", "_law_mixed"] : List Str).Nodup := sc__law_draws.nd
  have z := fn_ok (P := P) (w := w) (mg := mg) (base := base) (k := ⟨K, cl⟩) (fr := false) (lv := 1) (as := [3, 4, 4, 5, 6, 1005, 4, 7, 7, 1005, 5]) (s := m__law_draws) F sc__law_draws fun cdv A outer sh H G0 hr => by
    have hu := hr.units
    have hu5 := hr.units5
    exact (b_cons (s_set 3 nd (d_bltn (c_abs) B.abs (d_ab (d_callS (h__law_cell.at hr (by decide)) (d_ac (d_v 0) (d_ac (d_v 1) d_an)) (len_c (len_c len_n))) d_an)))
    (b_cons (s_set 4 nd d_int)
    (b_cons (s_if (d_tc (o_ge) (d_w 3) (d_op (o_pow) d_int d_int)) (b_one (s_set 4 nd (d_op (o_sub) (d_w 3) (d_op (o_pow) d_int d_int)))) b_nil)
    (b_cons (s_own 5 nd (d_lst d_an))
    (b_cons (s_for PassesOwn.never rfl (i_rng1 B.range (d_ab (d_w 2) d_an)) (g_n 6 nd) (b_one (s_if (d_tc (o_gt) (d_w 4) d_int) (b_cons (s_app 5 (d_op (o_mod) (d_btyp (c_int) B.int (d_ab (d_w 4) d_an)) d_int))
    (b_one (s_set 4 nd (d_op (o_fdiv) (d_w 4) d_int)))) (b_cons (s_set 7 nd (d_op (o_mod) (d_btyp (c_int) B.int (d_ab (d_op (o_add rfl) (d_op (o_add rfl) (d_op (o_add rfl) (d_op (o_mul rfl) (d_w 3) d_int) (d_op (o_mul rfl) (d_w 6) d_int)) (d_op (o_mul rfl) (d_w 1) d_int)) d_int) d_an)) d_int))
    (b_cons (s_set 7 nd (d_op (o_mod) (d_btyp (c_int) B.int (d_ab (d_op (o_add rfl) (d_op (o_add rfl) (d_op (o_mul rfl) (d_w 7) d_int) (d_op (o_fdiv) (d_w 7) d_int)) (d_op (o_mul rfl) (d_w 6) d_int)) d_an)) d_int))
    (b_one (s_app 5 (d_op (o_mod) (d_btyp (c_int) B.int (d_ab (d_op (o_fdiv) (d_w 7) d_int) d_an)) d_int))))))))
    (b_one (s_fz 5 (s_ret (d_v 5)))))))))
  exact ⟨f, fd, ["_law_script", "_law_at", "_law_count"], rfl, z, mgf, F.kp, F.bindsN fun _ _ _ _ _ _ us hl => match us, hl with | [_, _, _], _ => rfl⟩
def m__law_entries : FS :=
    (sSeq (sSet 1 (eC (f1 lenD) (aC (lcE (fun S => (eT (aC (eI (1)) (aC (eI (4)) (aC (eI (13)) aN)))) S >>= itemsD) (gN 5) (tB' (e2 leD (eW 5) (eW 0))) (eV 5) [5]) aN)))
    (sSeq (sSet 2 (e2 subD (eW 0) (e2 ixD (eL (aC (eI (0)) (aC (eI (1)) (aC (eI (4)) (aC (eI (13)) aN))))) (eW 1))))
    (sSeq (sOwn 3 (eL aN))
    (sSeq (sFor (fun S => (aC (eW 1) aN) S >>= rng1) (gN 4) (sSeq (sApp 3 (e2 subD (e2 modD (eC (f1 intD) (aC (eW 2) aN)) (eI (3))) (eI (1))))
    (sSet 2 (e2 fdivD (eW 2) (eI (3))))))
    (sRet (eC (f1 tupD) (aC (eW 3) aN)))))))
def d__law_entries : List D → R D := fun ds => (runF false 6 m__law_entries ds).nox
theorem sc__law_entries : FnScope ["_law_number", "_law_size", "_law_rest", "_law_found", "_law_k", "_law_least"] ["_law_number"] (defScope st__law_entries) := ⟨rfl, rfl, rfl, by decide +kernel, rfl, by decide +kernel, by decide +kernel⟩
theorem ok__law_entries {f : Addr} {fd : FuncData} (F : FunD K "_law_entries" "_law_entries" (defArgs st__law_entries) (defBody st__law_entries) (defScope st__law_entries) [] [] f fd) (mgf : mg "_law_entries" = some (.ref f)) (B : Bt mg)  : Callee P w K mg base ⟨K, cl⟩ 1 "_law_entries" 1 false d__law_entries := by
  have nd : (["_law_number", "_law_size", "_law_rest", "_law_found", "_law_k", "_law_least"] : List Str).Nodup := sc__law_entries.nd
  have z := fn_ok (P := P) (w := w) (mg := mg) (base := base) (k := ⟨K, cl⟩) (fr := false) (lv := 0) (as := [1, 2, 3, 4, 1003, 2]) (s := m__law_entries) F sc__law_entries fun cdv A outer sh H G0 hr => by
    have hu := hr.units
    have hu5 := hr.units5
    exact (b_cons (s_set 1 nd (d_bltn (c_len rfl) B.len (d_ab (d_lc [("_law_least", 5)] rfl nd (i_seq rfl (d_tup (d_ac d_int (d_ac d_int (d_ac d_int d_an))))) (blkOk_by (N := ["_law_number", "_law_size", "_law_rest", "_law_found", "_law_k", "_law_least"]) (sc := (defScope st__law_entries)) (by decide +kernel)) (fun _ _ _ _ _ => (g_n 5 nd)) (fun _ _ _ _ _ => (ts_1 (d_tc (o_le) (d_w 5) (d_w 0)))) (fun _ _ _ _ _ => (d_v 5))) d_an)))
    (b_cons (s_set 2 nd (d_op (o_sub) (d_w 0) (d_ix (o_ix rfl) (d_lst (d_ac d_int (d_ac d_int (d_ac d_int (d_ac d_int d_an))))) (d_w 1))))
    (b_cons (s_own 3 nd (d_lst d_an))
    (b_cons (s_for PassesOwn.never rfl (i_rng1 B.range (d_ab (d_w 1) d_an)) (g_n 4 nd) (b_cons (s_app 3 (d_op (o_sub) (d_op (o_mod) (d_btyp (c_int) B.int (d_ab (d_w 2) d_an)) d_int) d_int))
    (b_one (s_set 2 nd (d_op (o_fdiv) (d_w 2) d_int)))))
    (b_one (s_ret (d_btyp (c_tup rfl) B.tuple (d_ab (d_w 3) d_an))))))))
  exact ⟨f, fd, ["_law_number"], rfl, z, mgf, F.kp, F.bindsN fun _ _ _ _ _ _ us hl => match us, hl with | [_], _ => rfl⟩
def m__law_row : FS :=
    (sRet (eT (aC (e2 modD (eC (f1 intD) (aC (eW 0) aN)) (eI (2))) (aC (eC d__law_entries (aC (e2 modD (eC (f1 intD) (aC (eW 1) aN)) (eI (40))) aN)) (aC (e2 subD (e2 modD (eC (f1 intD) (aC (e2 fdivD (eW 0) (eI (2))) aN)) (eI (4))) (eI (1))) (aC (e2 modD (eC (f1 intD) (aC (e2 fdivD (eW 0) (eI (8))) aN)) (eI (2))) aN))))))
def d__law_row : List D → R D := fun ds => (runF false 2 m__law_row ds).nox
theorem sc__law_row : FnScope ["_law_a", "_law_b"] ["_law_a", "_law_b"] (defScope st__law_row) := ⟨rfl, rfl, rfl, by decide +kernel, rfl, by decide +kernel, by decide +kernel⟩
theorem ok__law_row {f : Addr} {fd : FuncData} (F : FunD K "_law_row" "_law_row" (defArgs st__law_row) (defBody st__law_row) (defScope st__law_row) [] [] f fd) (mgf : mg "_law_row" = some (.ref f)) (B : Bt mg) (h__law_entries : Callee P w K mg base ⟨K, cl⟩ 1 "_law_entries" 1 false d__law_entries) : Callee P w K mg base ⟨K, cl⟩ 2 "_law_row" 2 false d__law_row := by
  have nd : (["_law_a", "_law_b"] : List Str).Nodup := sc__law_row.nd
  have z := fn_ok (P := P) (w := w) (mg := mg) (base := base) (k := ⟨K, cl⟩) (fr := false) (lv := 1) (as := []) (s := m__law_row) F sc__law_row fun cdv A outer sh H G0 hr => by
    have hu := hr.units
    have hu5 := hr.units5
    exact (b_one (s_ret (d_tup (d_ac (d_op (o_mod) (d_btyp (c_int) B.int (d_ab (d_w 0) d_an)) d_int) (d_ac (d_callS (h__law_entries.at hr (by decide)) (d_ac (d_op (o_mod) (d_btyp (c_int) B.int (d_ab (d_w 1) d_an)) d_int) d_an) (len_c len_n)) (d_ac (d_op (o_sub) (d_op (o_mod) (d_btyp (c_int) B.int (d_ab (d_op (o_fdiv) (d_w 0) d_int) d_an)) d_int) d_int) (d_ac (d_op (o_mod) (d_btyp (c_int) B.int (d_ab (d_op (o_fdiv) (d_w 0) d_int) d_an)) d_int) d_an)))))))
  exact ⟨f, fd, ["_law_a", "_law_b"], rfl, z, mgf, F.kp, F.bindsN fun _ _ _ _ _ _ us hl => match us, hl with | [_, _], _ => rfl⟩
def m__law_joint : FS :=
    (sSeq (sSet 1 (lcE (fun S => (aC (eI (3)) aN) S >>= rng1) (gN 3) tY (eC d__law_row (aC (e2 ixD (eW 0) (e2 addD (eI (1)) (e2 mulD (eI (2)) (eW 3)))) (aC (e2 ixD (eW 0) (e2 addD (eI (2)) (e2 mulD (eI (2)) (eW 3)))) aN))) [3]))
    (sSeq (sSet 2 (e2 modD (eC (f1 intD) (aC (e2 ixD (eW 0) (eI (0))) aN)) (eI (4))))
    (sSeq (sIf (tB' (e2 eqD (eW 2) (eI (0)))) (sRet (eT (aC (e2 ixD (eW 1) (eI (0))) (aC (eT aN) aN)))) sNil)
    (sSeq (sIf (tB' (e2 eqD (eW 2) (eI (1)))) (sRet (eT (aC (e2 ixD (eW 1) (eI (0))) (aC (eT (aC (eT (aC (e2 ixD (eW 1) (eI (1))) (aC (eT aN) aN))) aN)) aN)))) sNil)
    (sSeq (sIf (tB' (e2 eqD (eW 2) (eI (2)))) (sRet (eT (aC (e2 ixD (eW 1) (eI (0))) (aC (eT (aC (eT (aC (e2 ixD (eW 1) (eI (1))) (aC (eT aN) aN))) (aC (eT (aC (e2 ixD (eW 1) (eI (2))) (aC (eT aN) aN))) aN))) aN)))) sNil)
    (sRet (eT (aC (e2 ixD (eW 1) (eI (0))) (aC (eT (aC (eT (aC (e2 ixD (eW 1) (eI (1))) (aC (eT (aC (eT (aC (e2 ixD (eW 1) (eI (2))) (aC (eT aN) aN))) aN)) aN))) aN)) aN)))))))))
def d__law_joint : List D → R D := fun ds => (runF false 4 m__law_joint ds).nox
theorem sc__law_joint : FnScope ["_law_d", "_law_rows", "_law_way", "_law_k"] ["_law_d"] (defScope st__law_joint) := ⟨rfl, rfl, rfl, by decide +kernel, rfl, by decide +kernel, by decide +kernel⟩
theorem ok__law_joint {f : Addr} {fd : FuncData} (F : FunD K "_law_joint" "_law_joint" (defArgs st__law_joint) (defBody st__law_joint) (defScope st__law_joint) [] [] f fd) (mgf : mg "_law_joint" = some (.ref f)) (B : Bt mg) (h__law_row : Callee P w K mg base ⟨K, cl⟩ 2 "_law_row" 2 false d__law_row) : Callee P w K mg base ⟨K, cl⟩ 3 "_law_joint" 1 false d__law_joint := by
  have nd : (["_law_d", "_law_rows", "_law_way", "_law_k"] : List Str).Nodup := sc__law_joint.nd
  have z := fn_ok (P := P) (w := w) (mg := mg) (base := base) (k := ⟨K, cl⟩) (fr := false) (lv := 2) (as := [1, 2]) (s := m__law_joint) F sc__law_joint fun cdv A outer sh H G0 hr => by
    have hu := hr.units
    have hu5 := hr.units5
    exact (b_cons (s_lcZ 1 [("_law_k", 3)] rfl nd (i_rng1 B.range (d_ab d_int d_an)) (blkOk_by (N := ["_law_d", "_law_rows", "_law_way", "_law_k"]) (sc := (defScope st__law_joint)) (by decide +kernel)) (fun _ _ _ _ _ => (g_n 3 nd)) (fun _ _ _ _ _ => ts_n) (fun _ _ _ _ _ => (d_callS (h__law_row.at hr (by decide)) (d_ac (d_ix (o_ix rfl) (d_w 0) (d_op (o_add rfl) d_int (d_op (o_mul rfl) d_int (d_w 3)))) (d_ac (d_ix (o_ix rfl) (d_w 0) (d_op (o_add rfl) d_int (d_op (o_mul rfl) d_int (d_w 3)))) d_an)) (len_c (len_c len_n)))))
    (b_cons (s_set 2 nd (d_op (o_mod) (d_btyp (c_int) B.int (d_ab (d_ix (o_ix rfl) (d_w 0) d_int) d_an)) d_int))
    (b_cons (s_if (d_tc (o_eq rfl hu) (d_w 2) d_int) (b_one (s_ret (d_tup (d_ac (d_ix (o_ix rfl) (d_w 1) d_int) (d_ac (d_tup d_an) d_an))))) b_nil)
    (b_cons (s_if (d_tc (o_eq rfl hu) (d_w 2) d_int) (b_one (s_ret (d_tup (d_ac (d_ix (o_ix rfl) (d_w 1) d_int) (d_ac (d_tup (d_ac (d_tup (d_ac (d_ix (o_ix rfl) (d_w 1) d_int) (d_ac (d_tup d_an) d_an))) d_an)) d_an))))) b_nil)
    (b_cons (s_if (d_tc (o_eq rfl hu) (d_w 2) d_int) (b_one (s_ret (d_tup (d_ac (d_ix (o_ix rfl) (d_w 1) d_int) (d_ac (d_tup (d_ac (d_tup (d_ac (d_ix (o_ix rfl) (d_w 1) d_int) (d_ac (d_tup d_an) d_an))) (d_ac (d_tup (d_ac (d_ix (o_ix rfl) (d_w 1) d_int) (d_ac (d_tup d_an) d_an))) d_an))) d_an))))) b_nil)
    (b_one (s_ret (d_tup (d_ac (d_ix (o_ix rfl) (d_w 1) d_int) (d_ac (d_tup (d_ac (d_tup (d_ac (d_ix (o_ix rfl) (d_w 1) d_int) (d_ac (d_tup (d_ac (d_tup (d_ac (d_ix (o_ix rfl) (d_w 1) d_int) (d_ac (d_tup d_an) d_an))) d_an)) d_an))) d_an)) d_an))))))))))
  exact ⟨f, fd, ["_law_d"], rfl, z, mgf, F.kp, F.bindsN fun _ _ _ _ _ _ us hl => match us, hl with | [_], _ => rfl⟩
def m__law_words (self : List D → R D) : FS :=
    (sSeq (sAsg (gT 2 (gsC (gN 1) (gsC (gN 2) gsN))) (eV 0))
    (sSeq (sSet 3 (eM1 joinD (eS "") (lcE (fun S => (e2 ixD (eW 1) (eI (1))) S >>= itemsD) (gN 6) tY (e2 ixD (eS ".01") (e2 addD (eW 6) (eI (1)))) [6])))
    (sSeq (sIf (tB' (e2 eqD (eC (f1 lenD) (aC (e2 ixD (eW 1) (eI (1))) aN)) (eI (0)))) (sSet 3 (eS "-")) sNil)
    (sSeq (sOwn 4 (eL (aC (e2 ixD (eS "01") (e2 ixD (eW 1) (eI (0)))) (aC (eV 3) (aC (e2 ixD (eS ".012") (e2 addD (e2 ixD (eW 1) (eI (2))) (eI (1)))) (aC (e2 ixD (eS ".+") (e2 ixD (eW 1) (eI (3)))) aN))))))
    (sSeq (sFor (fun S => (eV 2) S >>= itemsD) (gN 5) (sExt 4 (e2 addD (e2 addD (eL (aC (eS "(") aN)) (eC self (aC (eV 5) aN))) (eL (aC (eS ")") aN)))))
    (sFz 4 (sRet (eV 4))))))))
def d__law_words' : Nat → List D → R D
  | 0 => fun _ => .fail
  | n + 1 => fun ds => (runF false 7 (m__law_words (d__law_words' n)) ds).nox
def d__law_words : List D → R D := d__law_words' 4
theorem sc__law_words : FnScope ["_law_joint_here", "_law_row_here", "_law_guests", "_law_entries_here", "_law_found", "_law_guest", "_law_node"] ["_law_joint_here"] (defScope st__law_words) := ⟨rfl, rfl, rfl, by decide +kernel, rfl, by decide +kernel, by decide +kernel⟩
theorem okr__law_words {f : Addr} {fd : FuncData} (F : FunD K "_law_words" "_law_words" (defArgs st__law_words) (defBody st__law_words) (defScope st__law_words) [] [] f fd) (mgf : mg "_law_words" = some (.ref f)) (B : Bt mg)  (n : Nat) : Callee P w K mg base ⟨K, cl⟩ (1 + n) "_law_words" 1 false (d__law_words' n) := by
  have nd : (["_law_joint_here", "_law_row_here", "_law_guests", "_law_entries_here", "_law_found", "_law_guest", "_law_node"] : List Str).Nodup := sc__law_words.nd
  induction n with
  | zero => exact ⟨f, fd, ["_law_joint_here"], rfl, fn_ok (P := P) (w := w) (mg := mg) (base := base) (k := ⟨K, cl⟩) (fr := false) (lv := 0) (as := []) (s := fun _ => .fail) F sc__law_words fun cdv A outer sh H G0 hr => b_fail, mgf, F.kp, F.bindsN fun _ _ _ _ _ _ us hl => match us, hl with | [_], _ => rfl⟩
  | succ n ih =>
    have z := fn_ok (P := P) (w := w) (mg := mg) (base := base) (k := ⟨K, cl⟩) (fr := false) (lv := 1 + n) (as := [1, 2, 3, 3, 4, 5, 1004, 4]) (s := m__law_words (d__law_words' n)) F sc__law_words fun cdv A outer sh H G0 hr => by
      have hu := hr.units
      have hu5 := hr.units5
      exact (b_cons (s_asg (d_v 0) (g_t rfl rfl (gs_c (g_n 1 nd) (gs_c (g_n 2 nd) gs_n))))
    (b_cons (s_set 3 nd (d_join rfl d_str (d_lc [("_law_node", 6)] rfl nd (i_seq rfl (d_ix (o_ix rfl) (d_w 1) d_int)) (blkOk_by (N := ["_law_joint_here", "_law_row_here", "_law_guests", "_law_entries_here", "_law_found", "_law_guest", "_law_node"]) (sc := (defScope st__law_words)) (by decide +kernel)) (fun _ _ _ _ _ => (g_n 6 nd)) (fun _ _ _ _ _ => ts_n) (fun _ _ _ _ _ => (d_ix (o_ix rfl) d_str (d_op (o_add rfl) (d_w 6) d_int))))))
    (b_cons (s_if (d_tc (o_eq rfl hu) (d_bltn (c_len rfl) B.len (d_ab (d_ix (o_ix rfl) (d_w 1) d_int) d_an)) d_int) (b_one (s_set 3 nd d_str)) b_nil)
    (b_cons (s_own 4 nd (d_lst (d_ac (d_ix (o_ix rfl) d_str (d_ix (o_ix rfl) (d_w 1) d_int)) (d_ac (d_v 3) (d_ac (d_ix (o_ix rfl) d_str (d_op (o_add rfl) (d_ix (o_ix rfl) (d_w 1) d_int) d_int)) (d_ac (d_ix (o_ix rfl) d_str (d_ix (o_ix rfl) (d_w 1) d_int)) d_an))))))
    (b_cons (s_for PassesOwn.never rfl (i_seq rfl (d_v 2)) (g_n 5 nd) (b_one (s_ext 4 (d_op (o_add rfl) (d_op (o_add rfl) (d_lst (d_ac d_str d_an)) (d_callS (ih.at hr (by omega)) (d_ac (d_v 5) d_an) (len_c len_n))) (d_lst (d_ac d_str d_an))))))
    (b_one (s_fz 4 (s_ret (d_v 4)))))))))
    exact ⟨f, fd, ["_law_joint_here"], rfl, z, mgf, F.kp, F.bindsN fun _ _ _ _ _ _ us hl => match us, hl with | [_], _ => rfl⟩
theorem ok__law_words {f : Addr} {fd : FuncData} (F : FunD K "_law_words" "_law_words" (defArgs st__law_words) (defBody st__law_words) (defScope st__law_words) [] [] f fd) (mgf : mg "_law_words" = some (.ref f)) (B : Bt mg)  : Callee P w K mg base ⟨K, cl⟩ 5 "_law_words" 1 false d__law_words := okr__law_words F mgf B  4
def m__law_same (self : List D → R D) : FS :=
    (sSeq (sIf (tT' (e1 (isi2D "tuple" "list") (eW 1))) (sSeq (sIf (tO (tB' (e2 neD (eC (f2 isiD) (aC (eW 0) (aC (eY "tuple") aN))) (eC (f2 isiD) (aC (eW 1) (aC (eY "tuple") aN))))) (tB' (e2 neD (eC (f2 isiD) (aC (eW 0) (aC (eY "list") aN))) (eC (f2 isiD) (aC (eW 1) (aC (eY "list") aN)))))) (sRet (eB false)) sNil)
    (sRet (eAnd (e2 eqD (eC (f1 lenD) (aC (eW 0) aN)) (eC (f1 lenD) (aC (eW 1) aN))) (eC (f1 allD) (aC (lcE (fun S => (aC (eC (f1 lenD) (aC (eW 1) aN)) aN) S >>= rng1) (gN 2) tY (eC self (aC (e2 ixD (eW 0) (eW 2)) (aC (e2 ixD (eW 1) (eW 2)) aN))) [2]) aN))))) sNil)
    (sSeq (sIf (tB' (e2 isD (eW 1) eN)) (sRet (e2 isD (eW 0) eN)) sNil)
    (sSeq (sIf (tT' (eC (f2 isiD) (aC (eW 1) (aC (eY "str") aN)))) (sRet (eAnd (eC (f2 isiD) (aC (eW 0) (aC (eY "str") aN))) (e2 eqD (eW 0) (eW 1)))) sNil)
    (sRet (eAnd (eC (f2 isiD) (aC (eW 0) (aC (eY "int") aN))) (eAnd (eNot (eC (f2 isiD) (aC (eW 0) (aC (eY "bool") aN)))) (e2 eqD (eW 0) (eW 1))))))))
def d__law_same' : Nat → List D → R D
  | 0 => fun _ => .fail
  | n + 1 => fun ds => (runF false 3 (m__law_same (d__law_same' n)) ds).nox
def d__law_same : List D → R D := d__law_same' 4
theorem sc__law_same : FnScope ["_law_actual", "_law_due", "_law_k"] ["_law_actual", "_law_due"] (defScope st__law_same) := ⟨rfl, rfl, rfl, by decide +kernel, rfl, by decide +kernel, by decide +kernel⟩
theorem okr__law_same {f : Addr} {fd : FuncData} (F : FunD K "_law_same" "_law_same" (defArgs st__law_same) (defBody st__law_same) (defScope st__law_same) [] [] f fd) (mgf : mg "_law_same" = some (.ref f)) (B : Bt mg)  (n : Nat) : Callee P w K mg base ⟨K, cl⟩ (1 + n) "_law_same" 2 false (d__law_same' n) := by
  have nd : (["_law_actual", "_law_due", "_law_k"] : List Str).Nodup := sc__law_same.nd
  induction n with
  | zero => exact ⟨f, fd, ["_law_actual", "_law_due"], rfl, fn_ok (P := P) (w := w) (mg := mg) (base := base) (k := ⟨K, cl⟩) (fr := false) (lv := 0) (as := []) (s := fun _ => .fail) F sc__law_same fun cdv A outer sh H G0 hr => b_fail, mgf, F.kp, F.bindsN fun _ _ _ _ _ _ us hl => match us, hl with | [_, _], _ => rfl⟩
  | succ n ih =>
    have z := fn_ok (P := P) (w := w) (mg := mg) (base := base) (k := ⟨K, cl⟩) (fr := false) (lv := 1 + n) (as := []) (s := m__law_same (d__law_same' n)) F sc__law_same fun cdv A outer sh H G0 hr => by
      have hu := hr.units
      have hu5 := hr.units5
      exact (b_cons (s_if (d_tt rfl (d_isi2 "tuple" "list" rfl B.isinstance B.tuple B.list (d_w 1))) (b_cons (s_if (d_pw (d_or (d_tc (o_ne rfl hu) (d_bltn (c_isi rfl) B.isinstance (d_ab (d_w 0) (d_ab (d_ty "tuple" B.tuple) d_an))) (d_bltn (c_isi rfl) B.isinstance (d_ab (d_w 1) (d_ab (d_ty "tuple" B.tuple) d_an)))) (d_or1 (d_tc (o_ne rfl hu) (d_bltn (c_isi rfl) B.isinstance (d_ab (d_w 0) (d_ab (d_ty "list" B.list) d_an))) (d_bltn (c_isi rfl) B.isinstance (d_ab (d_w 1) (d_ab (d_ty "list" B.list) d_an))))))) (b_one (s_ret d_bl)) b_nil)
    (b_one (s_ret (d_vand (d_cmp (o_eq rfl hu) (d_bltn (c_len rfl) B.len (d_ab (d_w 0) d_an)) (d_bltn (c_len rfl) B.len (d_ab (d_w 1) d_an))) (d_vone (d_bltn (c_all rfl) B.all (d_ab (d_lc [("_law_k", 2)] rfl nd (i_rng1 B.range (d_ab (d_bltn (c_len rfl) B.len (d_ab (d_w 1) d_an)) d_an)) (blkOk_by (N := ["_law_actual", "_law_due", "_law_k"]) (sc := (defScope st__law_same)) (by decide +kernel)) (fun _ _ _ _ _ => (g_n 2 nd)) (fun _ _ _ _ _ => ts_n) (fun _ _ _ _ _ => (d_callS (ih.at hr (by omega)) (d_ac (d_ix (o_ix rfl) (d_w 0) (d_w 2)) (d_ac (d_ix (o_ix rfl) (d_w 1) (d_w 2)) d_an)) (len_c (len_c len_n))))) d_an))))))) b_nil)
    (b_cons (s_if (d_tc (o_is) (d_w 1) d_non) (b_one (s_ret (d_cmp (o_is) (d_w 0) d_non))) b_nil)
    (b_cons (s_if (d_tt rfl (d_bltn (c_isi rfl) B.isinstance (d_ab (d_w 1) (d_ab (d_ty "str" B.str) d_an)))) (b_one (s_ret (d_vand (d_bltn (c_isi rfl) B.isinstance (d_ab (d_w 0) (d_ab (d_ty "str" B.str) d_an))) (d_vone (d_cmp (o_eq rfl hu) (d_w 0) (d_w 1)))))) b_nil)
    (b_one (s_ret (d_vand (d_bltn (c_isi rfl) B.isinstance (d_ab (d_w 0) (d_ab (d_ty "int" B.int) d_an))) (d_vand (d_vnot (d_bltn (c_isi rfl) B.isinstance (d_ab (d_w 0) (d_ab (d_ty "bool" B.bool) d_an)))) (d_vone (d_cmp (o_eq rfl hu) (d_w 0) (d_w 1))))))))))
    exact ⟨f, fd, ["_law_actual", "_law_due"], rfl, z, mgf, F.kp, F.bindsN fun _ _ _ _ _ _ us hl => match us, hl with | [_, _], _ => rfl⟩
theorem ok__law_same {f : Addr} {fd : FuncData} (F : FunD K "_law_same" "_law_same" (defArgs st__law_same) (defBody st__law_same) (defScope st__law_same) [] [] f fd) (mgf : mg "_law_same" = some (.ref f)) (B : Bt mg)  : Callee P w K mg base ⟨K, cl⟩ 5 "_law_same" 2 false d__law_same := okr__law_same F mgf B  4
theorem okHr__law_same {f : Addr} {fd : FuncData} (F : FunD K "_law_same" "_law_same" (defArgs st__law_same) (defBody st__law_same) (defScope st__law_same) [] [] f fd) (mgf : mg "_law_same" = some (.ref f)) (B : Bt mg)  (n : Nat) : CalleeH P w K mg base ⟨K, cl⟩ (1 + n) "_law_same" 2 (d__law_same' n) := by
  have nd : (["_law_actual", "_law_due", "_law_k"] : List Str).Nodup := sc__law_same.nd
  induction n with
  | zero => exact ⟨f, fd, ["_law_actual", "_law_due"], rfl, fn_okH (P := P) (w := w) (mg := mg) (base := base) (k := ⟨K, cl⟩) (lv := 0) (as := []) (s := fun _ => .fail) F sc__law_same fun cdv A outer sh H G0 p hr ho => b_fail, mgf, F.kp, F.bindsN fun _ _ _ _ _ _ us hl => match us, hl with | [_, _], _ => rfl⟩
  | succ n ih =>
    have z := fn_okH (P := P) (w := w) (mg := mg) (base := base) (k := ⟨K, cl⟩) (lv := 1 + n) (as := []) (s := m__law_same (d__law_same' n)) F sc__law_same fun cdv A outer sh H G0 p hr ho => by
      have hu := unitsH hr
      have hu5 := units5H hr
      exact (b_cons (s_if (d_tt rfl (d_isi2 "tuple" "list" rfl B.isinstance B.tuple B.list (d_w 1))) (b_cons (s_if (d_pw (d_or (d_tc (o_ne rfl hu) (d_bltn (c_isi rfl) B.isinstance (d_ab (d_w 0) (d_ab (d_ty "tuple" B.tuple) d_an))) (d_bltn (c_isi rfl) B.isinstance (d_ab (d_w 1) (d_ab (d_ty "tuple" B.tuple) d_an)))) (d_or1 (d_tc (o_ne rfl hu) (d_bltn (c_isi rfl) B.isinstance (d_ab (d_w 0) (d_ab (d_ty "list" B.list) d_an))) (d_bltn (c_isi rfl) B.isinstance (d_ab (d_w 1) (d_ab (d_ty "list" B.list) d_an))))))) (b_one (s_ret d_bl)) b_nil)
    (b_one (s_ret (d_vand (d_cmp (o_eq rfl hu) (d_bltn (c_len rfl) B.len (d_ab (d_w 0) d_an)) (d_bltn (c_len rfl) B.len (d_ab (d_w 1) d_an))) (d_vone (d_bltn (c_allH ho) B.all (d_ab (d_lcH [("_law_k", 2)] ho nd B.range (d_ab (d_bltn (c_len rfl) B.len (d_ab (d_w 1) d_an)) d_an) (blkOk_by (N := ["_law_actual", "_law_due", "_law_k"]) (sc := (defScope st__law_same)) (by decide +kernel)) (fun _ _ _ _ _ _ => (g_n 2 nd)) (fun _ _ _ _ _ _ ho => ts_n) (fun _ _ _ _ _ _ ho => (d_callHH ih hr (by omega) ho (d_ac (d_ix (o_ix rfl) (d_w 0) (d_w 2)) (d_ac (d_ix (o_ix rfl) (d_w 1) (d_w 2)) d_an)) (len_c (len_c len_n))))) d_an))))))) b_nil)
    (b_cons (s_if (d_tc (o_is) (d_w 1) d_non) (b_one (s_ret (d_cmp (o_is) (d_w 0) d_non))) b_nil)
    (b_cons (s_if (d_tt rfl (d_bltn (c_isi rfl) B.isinstance (d_ab (d_w 1) (d_ab (d_ty "str" B.str) d_an)))) (b_one (s_ret (d_vand (d_bltn (c_isi rfl) B.isinstance (d_ab (d_w 0) (d_ab (d_ty "str" B.str) d_an))) (d_vone (d_cmp (o_eq rfl hu) (d_w 0) (d_w 1)))))) b_nil)
    (b_one (s_ret (d_vand (d_bltn (c_isi rfl) B.isinstance (d_ab (d_w 0) (d_ab (d_ty "int" B.int) d_an))) (d_vand (d_vnot (d_bltn (c_isi rfl) B.isinstance (d_ab (d_w 0) (d_ab (d_ty "bool" B.bool) d_an)))) (d_vone (d_cmp (o_eq rfl hu) (d_w 0) (d_w 1))))))))))
    exact ⟨f, fd, ["_law_actual", "_law_due"], rfl, z, mgf, F.kp, F.bindsN fun _ _ _ _ _ _ us hl => match us, hl with | [_, _], _ => rfl⟩
theorem okH__law_same {f : Addr} {fd : FuncData} (F : FunD K "_law_same" "_law_same" (defArgs st__law_same) (defBody st__law_same) (defScope st__law_same) [] [] f fd) (mgf : mg "_law_same" = some (.ref f)) (B : Bt mg)  : CalleeH P w K mg base ⟨K, cl⟩ 5 "_law_same" 2 d__law_same := okHr__law_same F mgf B  4
def m__law_sign : FS :=
    (sSeq (sSet 1 (eS " !\"#$&'()*+,-./0123456789:;<=>?@ABCDEFGHIJKLMNOPQRSTUVWXYZ[\\]^_`"))
    (sSeq (sSet 1 (e2 addD (eW 1) (eS "abcdefghijklmnopqrstuvwxyz{|}~\n\t")))
    (sRet (e2 ixD (eW 1) (e2 modD (eC (f1 intD) (aC (eW 0) aN)) (eI (96)))))))
def d__law_sign : List D → R D := fun ds => (runF false 2 m__law_sign ds).nox
theorem sc__law_sign : FnScope ["_law_number", "_law_signs"] ["_law_number"] (defScope st__law_sign) := ⟨rfl, rfl, rfl, by decide +kernel, rfl, by decide +kernel, by decide +kernel⟩
theorem ok__law_sign {f : Addr} {fd : FuncData} (F : FunD K "_law_sign" "_law_sign" (defArgs st__law_sign) (defBody st__law_sign) (defScope st__law_sign) [] [] f fd) (mgf : mg "_law_sign" = some (.ref f)) (B : Bt mg)  : Callee P w K mg base ⟨K, cl⟩ 1 "_law_sign" 1 false d__law_sign := by
  have nd : (["_law_number", "_law_signs"] : List Str).Nodup := sc__law_sign.nd
  have z := fn_ok (P := P) (w := w) (mg := mg) (base := base) (k := ⟨K, cl⟩) (fr := false) (lv := 0) (as := [1, 1]) (s := m__law_sign) F sc__law_sign fun cdv A outer sh H G0 hr => by
    have hu := hr.units
    have hu5 := hr.units5
    exact (b_cons (s_set 1 nd d_str)
    (b_cons (s_set 1 nd (d_op (o_add rfl) (d_w 1) d_str))
    (b_one (s_ret (d_ix (o_ix rfl) (d_w 1) (d_op (o_mod) (d_btyp (c_int) B.int (d_ab (d_w 0) d_an)) d_int))))))
  exact ⟨f, fd, ["_law_number"], rfl, z, mgf, F.kp, F.bindsN fun _ _ _ _ _ _ us hl => match us, hl with | [_], _ => rfl⟩
def m__law_odd : FS :=
    (sSeq (sSet 1 (eL (aC (eS "") (aC (eS "0") (aC (eS "1") (aC (eS "2") (aC (eS "3") (aC (eS ".") (aC (eS "+") (aC (eS "-") (aC (eS "(") (aC (eS ")") (aC (eS "..") (aC (eS "01") (aC (eS "1.0") (aC (eS "....") (aC (eS "000") (aC (eS "0000") (aC (eS "--") (aC (eS ".-") (aC (eS "+.") (aC (eS "()") (aC (eS "10") (aC (eS ".2") (aC (eS "a") (aC (eS "A") (aC (eS "x") (aC (eS "9") (aC (eS "-1") (aC (eS "+1") (aC (eS "((") (aC (eS "))") (aC (eS "1\n") (aC (eS "\n") (aC (eS "\t") (aC (eS ".\t") (aC (eS "0.") (aC (eS "-.") aN))))))))))))))))))))))))))))))))))))))
    (sSeq (sIf (tB' (e2 gtD (e2 modD (eC (f1 intD) (aC (e2 ixD (eW 0) (eI (0))) aN)) (eI (3))) (eI (0)))) (sRet (e2 ixD (eW 1) (e2 modD (eC (f1 intD) (aC (e2 ixD (eW 0) (eI (1))) aN)) (eC (f1 lenD) (aC (eW 1) aN))))) sNil)
    (sRet (eM1 joinD (eS "") (lcE (fun S => (aC (e2 addD (eI (1)) (e2 modD (eC (f1 intD) (aC (e2 ixD (eW 0) (eI (1))) aN)) (eI (4)))) aN) S >>= rng1) (gN 2) tY (eC d__law_sign (aC (e2 addD (e2 mulD (eI (60)) (e2 ixD (eW 0) (e2 addD (eI (2)) (e2 mulD (eI (2)) (eW 2))))) (e2 ixD (eW 0) (e2 addD (eI (3)) (e2 mulD (eI (2)) (eW 2))))) aN)) [2])))))
def d__law_odd : List D → R D := fun ds => (runF false 3 m__law_odd ds).nox
theorem sc__law_odd : FnScope ["_law_d", "_law_menu", "_law_k"] ["_law_d"] (defScope st__law_odd) := ⟨rfl, rfl, rfl, by decide +kernel, rfl, by decide +kernel, by decide +kernel⟩
theorem ok__law_odd {f : Addr} {fd : FuncData} (F : FunD K "_law_odd" "_law_odd" (defArgs st__law_odd) (defBody st__law_odd) (defScope st__law_odd) [] [] f fd) (mgf : mg "_law_odd" = some (.ref f)) (B : Bt mg) (h__law_sign : Callee P w K mg base ⟨K, cl⟩ 1 "_law_sign" 1 false d__law_sign) : Callee P w K mg base ⟨K, cl⟩ 2 "_law_odd" 1 false d__law_odd := by
  have nd : (["_law_d", "_law_menu", "_law_k"] : List Str).Nodup := sc__law_odd.nd
  have z := fn_ok (P := P) (w := w) (mg := mg) (base := base) (k := ⟨K, cl⟩) (fr := false) (lv := 1) (as := [1]) (s := m__law_odd) F sc__law_odd fun cdv A outer sh H G0 hr => by
    have hu := hr.units
    have hu5 := hr.units5
    exact (b_cons (s_set 1 nd (d_z (d_lst (d_ac d_str (d_ac d_str (d_ac d_str (d_ac d_str (d_ac d_str (d_ac d_str (d_ac d_str (d_ac d_str (d_ac d_str (d_ac d_str (d_ac d_str (d_ac d_str (d_ac d_str (d_ac d_str (d_ac d_str (d_ac d_str (d_ac d_str (d_ac d_str (d_ac d_str (d_ac d_str (d_ac d_str (d_ac d_str (d_ac d_str (d_ac d_str (d_ac d_str (d_ac d_str (d_ac d_str (d_ac d_str (d_ac d_str (d_ac d_str (d_ac d_str (d_ac d_str (d_ac d_str (d_ac d_str (d_ac d_str (d_ac d_str d_an)))))))))))))))))))))))))))))))))))))))
    (b_cons (s_if (d_tc (o_gt) (d_op (o_mod) (d_btyp (c_int) B.int (d_ab (d_ix (o_ix rfl) (d_w 0) d_int) d_an)) d_int) d_int) (b_one (s_ret (d_ix (o_ix rfl) (d_w 1) (d_op (o_mod) (d_btyp (c_int) B.int (d_ab (d_ix (o_ix rfl) (d_w 0) d_int) d_an)) (d_bltn (c_len rfl) B.len (d_ab (d_w 1) d_an)))))) b_nil)
    (b_one (s_ret (d_join rfl d_str (d_lc [("_law_k", 2)] rfl nd (i_rng1 B.range (d_ab (d_op (o_add rfl) d_int (d_op (o_mod) (d_btyp (c_int) B.int (d_ab (d_ix (o_ix rfl) (d_w 0) d_int) d_an)) d_int)) d_an)) (blkOk_by (N := ["_law_d", "_law_menu", "_law_k"]) (sc := (defScope st__law_odd)) (by decide +kernel)) (fun _ _ _ _ _ => (g_n 2 nd)) (fun _ _ _ _ _ => ts_n) (fun _ _ _ _ _ => (d_callS (h__law_sign.at hr (by decide)) (d_ac (d_op (o_add rfl) (d_op (o_mul rfl) d_int (d_ix (o_ix rfl) (d_w 0) (d_op (o_add rfl) d_int (d_op (o_mul rfl) d_int (d_w 2))))) (d_ix (o_ix rfl) (d_w 0) (d_op (o_add rfl) d_int (d_op (o_mul rfl) d_int (d_w 2))))) d_an) (len_c len_n)))))))))
  exact ⟨f, fd, ["_law_d"], rfl, z, mgf, F.kp, F.bindsN fun _ _ _ _ _ _ us hl => match us, hl with | [_], _ => rfl⟩
def m__law_spoilt : FS :=
    (sSeq (sSet 5 (e2 modD (eC (f1 intD) (aC (eW 2) aN)) (e2 addD (eC (f1 lenD) (aC (eW 0) aN)) (eI (1)))))
    (sSeq (sIf (tB' (e2 eqD (eW 1) (eI (0)))) (sRet (e2 addD (e2 addD (eSl (eW 0) oN (oS (eW 5))) (eL (aC (eV 3) aN))) (eSl (eW 0) (oS (e2 addD (eW 5) (eI (1)))) oN))) sNil)
    (sSeq (sIf (tB' (e2 eqD (eW 1) (eI (1)))) (sRet (e2 addD (eSl (eW 0) oN (oS (eW 5))) (eSl (eW 0) (oS (e2 addD (eW 5) (eI (1)))) oN))) sNil)
    (sSeq (sIf (tB' (e2 eqD (eW 1) (eI (2)))) (sRet (e2 addD (e2 addD (eSl (eW 0) oN (oS (eW 5))) (eL (aC (eV 3) aN))) (eSl (eW 0) (oS (eW 5)) oN))) sNil)
    (sSeq (sIf (tB' (e2 eqD (eW 1) (eI (3)))) (sRet (eSl (eW 0) oN (oS (eW 5)))) sNil)
    (sSeq (sIf (tB' (e2 eqD (eW 1) (eI (4)))) (sRet (e2 addD (eSl (eW 0) oN (oS (e2 addD (eW 5) (eI (1))))) (eSl (eW 0) (oS (eW 5)) oN))) sNil)
    (sSeq (sIf (tB' (e2 eqD (eW 1) (eI (5)))) (sRet (e2 addD (e2 addD (e2 addD (eSl (eW 0) oN (oS (eW 5))) (eSl (eW 0) (oS (e2 addD (eW 5) (eI (1)))) (oS (e2 addD (eW 5) (eI (2)))))) (eSl (eW 0) (oS (eW 5)) (oS (e2 addD (eW 5) (eI (1)))))) (eSl (eW 0) (oS (e2 addD (eW 5) (eI (2)))) oN))) sNil)
    (sSeq (sIf (tB' (e2 eqD (eW 1) (eI (6)))) (sRet (e2 addD (e2 addD (e2 addD (eW 0) (eL (aC (eS "(") aN))) (eW 4)) (eL (aC (eS ")") aN)))) sNil)
    (sRet (eV 0))))))))))
def d__law_spoilt : List D → R D := fun ds => (runF false 6 m__law_spoilt ds).nox
theorem sc__law_spoilt : FnScope ["_law_words_here", "_law_way", "_law_place", "_law_odd_here", "_law_more", "_law_at"] ["_law_words_here", "_law_way", "_law_place", "_law_odd_here", "_law_more"] (defScope st__law_spoilt) := ⟨rfl, rfl, rfl, by decide +kernel, rfl, by decide +kernel, by decide +kernel⟩
theorem ok__law_spoilt {f : Addr} {fd : FuncData} (F : FunD K "_law_spoilt" "_law_spoilt" (defArgs st__law_spoilt) (defBody st__law_spoilt) (defScope st__law_spoilt) [] [] f fd) (mgf : mg "_law_spoilt" = some (.ref f)) (B : Bt mg)  : Callee P w K mg base ⟨K, cl⟩ 1 "_law_spoilt" 5 false d__law_spoilt := by
  have nd : (["_law_words_here", "_law_way", "_law_place", "_law_odd_here", "_law_more", "_law_at"] : List Str).Nodup := sc__law_spoilt.nd
  have z := fn_ok (P := P) (w := w) (mg := mg) (base := base) (k := ⟨K, cl⟩) (fr := false) (lv := 0) (as := [5]) (s := m__law_spoilt) F sc__law_spoilt fun cdv A outer sh H G0 hr => by
    have hu := hr.units
    have hu5 := hr.units5
    exact (b_cons (s_set 5 nd (d_op (o_mod) (d_btyp (c_int) B.int (d_ab (d_w 2) d_an)) (d_op (o_add rfl) (d_bltn (c_len rfl) B.len (d_ab (d_w 0) d_an)) d_int)))
    (b_cons (s_if (d_tc (o_eq rfl hu) (d_w 1) d_int) (b_one (s_ret (d_op (o_add rfl) (d_op (o_add rfl) (d_sl rfl (d_w 0) d_on (d_os (d_w 5))) (d_lst (d_ac (d_v 3) d_an))) (d_sl rfl (d_w 0) (d_os (d_op (o_add rfl) (d_w 5) d_int)) d_on)))) b_nil)
    (b_cons (s_if (d_tc (o_eq rfl hu) (d_w 1) d_int) (b_one (s_ret (d_op (o_add rfl) (d_sl rfl (d_w 0) d_on (d_os (d_w 5))) (d_sl rfl (d_w 0) (d_os (d_op (o_add rfl) (d_w 5) d_int)) d_on)))) b_nil)
    (b_cons (s_if (d_tc (o_eq rfl hu) (d_w 1) d_int) (b_one (s_ret (d_op (o_add rfl) (d_op (o_add rfl) (d_sl rfl (d_w 0) d_on (d_os (d_w 5))) (d_lst (d_ac (d_v 3) d_an))) (d_sl rfl (d_w 0) (d_os (d_w 5)) d_on)))) b_nil)
    (b_cons (s_if (d_tc (o_eq rfl hu) (d_w 1) d_int) (b_one (s_ret (d_sl rfl (d_w 0) d_on (d_os (d_w 5))))) b_nil)
    (b_cons (s_if (d_tc (o_eq rfl hu) (d_w 1) d_int) (b_one (s_ret (d_op (o_add rfl) (d_sl rfl (d_w 0) d_on (d_os (d_op (o_add rfl) (d_w 5) d_int))) (d_sl rfl (d_w 0) (d_os (d_w 5)) d_on)))) b_nil)
    (b_cons (s_if (d_tc (o_eq rfl hu) (d_w 1) d_int) (b_one (s_ret (d_op (o_add rfl) (d_op (o_add rfl) (d_op (o_add rfl) (d_sl rfl (d_w 0) d_on (d_os (d_w 5))) (d_sl rfl (d_w 0) (d_os (d_op (o_add rfl) (d_w 5) d_int)) (d_os (d_op (o_add rfl) (d_w 5) d_int)))) (d_sl rfl (d_w 0) (d_os (d_w 5)) (d_os (d_op (o_add rfl) (d_w 5) d_int)))) (d_sl rfl (d_w 0) (d_os (d_op (o_add rfl) (d_w 5) d_int)) d_on)))) b_nil)
    (b_cons (s_if (d_tc (o_eq rfl hu) (d_w 1) d_int) (b_one (s_ret (d_op (o_add rfl) (d_op (o_add rfl) (d_op (o_add rfl) (d_w 0) (d_lst (d_ac d_str d_an))) (d_w 4)) (d_lst (d_ac d_str d_an))))) b_nil)
    (b_one (s_ret (d_v 0)))))))))))
  exact ⟨f, fd, ["_law_words_here", "_law_way", "_law_place", "_law_odd_here", "_law_more"], rfl, z, mgf, F.kp, F.bindsN fun _ _ _ _ _ _ us hl => match us, hl with | [_, _, _, _, _], _ => rfl⟩
def m__law_fits : FS :=
    (sSeq (sIf (tB' (e2 eqD (eW 0) (eI (1)))) (sSeq (sSet 2 (lcE (fun S => (eV 1) S >>= itemsD) (gN 3) (tB' (e2 notInD (eW 3) (eS ".01"))) (eV 3) [3]))
    (sRet (eOr (e2 eqD (eW 1) (eS "-")) (eAnd (e3 leD leD (eI (1)) (eC (f1 lenD) (aC (eW 1) aN)) (eI (3))) (e2 eqD (eC (f1 lenD) (aC (eW 2) aN)) (eI (0))))))) sNil)
    (sRet (e2 inD (eW 1) (e2 ixD (eL (aC (eL (aC (eS "0") (aC (eS "1") aN))) (aC (eL aN) (aC (eL (aC (eS ".") (aC (eS "0") (aC (eS "1") (aC (eS "2") aN))))) (aC (eL (aC (eS ".") (aC (eS "+") aN))) aN))))) (eW 0)))))
def d__law_fits : List D → R D := fun ds => (runF false 4 m__law_fits ds).nox
theorem sc__law_fits : FnScope ["_law_place", "_law_word", "_law_signs", "_law_sign_here"] ["_law_place", "_law_word"] (defScope st__law_fits) := ⟨rfl, rfl, rfl, by decide +kernel, rfl, by decide +kernel, by decide +kernel⟩
theorem ok__law_fits {f : Addr} {fd : FuncData} (F : FunD K "_law_fits" "_law_fits" (defArgs st__law_fits) (defBody st__law_fits) (defScope st__law_fits) [] [] f fd) (mgf : mg "_law_fits" = some (.ref f)) (B : Bt mg)  : Callee P w K mg base ⟨K, cl⟩ 1 "_law_fits" 2 false d__law_fits := by
  have nd : (["_law_place", "_law_word", "_law_signs", "_law_sign_here"] : List Str).Nodup := sc__law_fits.nd
  have z := fn_ok (P := P) (w := w) (mg := mg) (base := base) (k := ⟨K, cl⟩) (fr := false) (lv := 0) (as := [2]) (s := m__law_fits) F sc__law_fits fun cdv A outer sh H G0 hr => by
    have hu := hr.units
    have hu5 := hr.units5
    exact (b_cons (s_if (d_tc (o_eq rfl hu) (d_w 0) d_int) (b_cons (s_lcZ 2 [("_law_sign_here", 3)] rfl nd (i_seq rfl (d_v 1)) (blkOk_by (N := ["_law_place", "_law_word", "_law_signs", "_law_sign_here"]) (sc := (defScope st__law_fits)) (by decide +kernel)) (fun _ _ _ _ _ => (g_n 3 nd)) (fun _ _ _ _ _ => (ts_1 (d_tc (o_notin rfl hu5) (d_w 3) d_str))) (fun _ _ _ _ _ => (d_v 3)))
    (b_one (s_ret (d_vor (d_cmp (o_eq rfl hu) (d_w 1) d_str) (d_vone (d_vand (d_ch (o_le) (o_le) d_int (d_bltn (c_len rfl) B.len (d_ab (d_w 1) d_an)) d_int) (d_vone (d_cmp (o_eq rfl hu) (d_bltn (c_len rfl) B.len (d_ab (d_w 2) d_an)) d_int)))))))) b_nil)
    (b_one (s_ret (d_cmp (o_in rfl hu5) (d_w 1) (d_ix (o_ix rfl) (d_lst (d_ac (d_z (d_lst (d_ac d_str (d_ac d_str d_an)))) (d_ac (d_z (d_lst d_an)) (d_ac (d_z (d_lst (d_ac d_str (d_ac d_str (d_ac d_str (d_ac d_str d_an)))))) (d_ac (d_z (d_lst (d_ac d_str (d_ac d_str d_an)))) d_an))))) (d_w 0))))))
  exact ⟨f, fd, ["_law_place", "_law_word"], rfl, z, mgf, F.kp, F.bindsN fun _ _ _ _ _ _ us hl => match us, hl with | [_, _], _ => rfl⟩
def m__law_wrong_word : FS :=
    (sSeq (sAsg (gT 3 (gsC (gN 1) (gsC (gN 2) (gsC (gN 3) gsN)))) (eT (aC (eI (1)) (aC (eI (0)) (aC (eI (0)) aN)))))
    (sSeq (sFor (fun S => (aC (eC (f1 lenD) (aC (eW 0) aN)) aN) S >>= rng1) (gN 4) (sIf (tB' (e2 ltD (eW 3) (eI (4)))) (sSeq (sIf (tNo (tT' (eC d__law_fits (aC (eV 3) (aC (e2 ixD (eW 0) (eW 4)) aN))))) (sRet (e2 addD (eW 4) (eI (1)))) sNil)
    (sSet 3 (e2 addD (eW 3) (eI (1))))) (sIf (tA (tB' (e2 eqD (e2 ixD (eW 0) (eW 4)) (eS "("))) (tB' (e2 ltD (eW 1) (eI (3))))) (sPar [1, 2, 3] (aC (e2 addD (eW 1) (eI (1))) (aC (e2 addD (eW 2) (eI (1))) (aC (eI (0)) aN)))) (sIf (tA (tB' (e2 eqD (e2 ixD (eW 0) (eW 4)) (eS ")"))) (tB' (e2 gtD (eW 2) (eI (0))))) (sSet 2 (e2 subD (eW 2) (eI (1)))) (sRet (e2 addD (eW 4) (eI (1))))))))
    (sSeq (sIf (tA (tB' (e2 eqD (eW 3) (eI (4)))) (tB' (e2 eqD (eW 2) (eI (0))))) (sRet (eI (0))) sNil)
    (sRet (e2 addD (eC (f1 lenD) (aC (eW 0) aN)) (eI (1)))))))
def d__law_wrong_word : List D → R D := fun ds => (runF false 5 m__law_wrong_word ds).nox
theorem sc__law_wrong_word : FnScope ["_law_words_here", "_law_begun", "_law_deep", "_law_place", "_law_k"] ["_law_words_here"] (defScope st__law_wrong_word) := ⟨rfl, rfl, rfl, by decide +kernel, rfl, by decide +kernel, by decide +kernel⟩
theorem ok__law_wrong_word {f : Addr} {fd : FuncData} (F : FunD K "_law_wrong_word" "_law_wrong_word" (defArgs st__law_wrong_word) (defBody st__law_wrong_word) (defScope st__law_wrong_word) [] [] f fd) (mgf : mg "_law_wrong_word" = some (.ref f)) (B : Bt mg) (h__law_fits : Callee P w K mg base ⟨K, cl⟩ 1 "_law_fits" 2 false d__law_fits) : Callee P w K mg base ⟨K, cl⟩ 2 "_law_wrong_word" 1 false d__law_wrong_word := by
  have nd : (["_law_words_here", "_law_begun", "_law_deep", "_law_place", "_law_k"] : List Str).Nodup := sc__law_wrong_word.nd
  have z := fn_ok (P := P) (w := w) (mg := mg) (base := base) (k := ⟨K, cl⟩) (fr := false) (lv := 1) (as := [1, 2, 3, 4, 3, 1, 2, 3, 2]) (s := m__law_wrong_word) F sc__law_wrong_word fun cdv A outer sh H G0 hr => by
    have hu := hr.units
    have hu5 := hr.units5
    exact (b_cons (s_asg (d_tup (d_ac d_int (d_ac d_int (d_ac d_int d_an)))) (g_t rfl rfl (gs_c (g_n 1 nd) (gs_c (g_n 2 nd) (gs_c (g_n 3 nd) gs_n)))))
    (b_cons (s_for PassesOwn.never rfl (i_rng1 B.range (d_ab (d_bltn (c_len rfl) B.len (d_ab (d_w 0) d_an)) d_an)) (g_n 4 nd) (b_one (s_if (d_tc (o_lt) (d_w 3) d_int) (b_cons (s_if (d_not (d_tt rfl (d_callS (h__law_fits.at hr (by decide)) (d_ac (d_v 3) (d_ac (d_ix (o_ix rfl) (d_w 0) (d_w 4)) d_an)) (len_c (len_c len_n))))) (b_one (s_ret (d_op (o_add rfl) (d_w 4) d_int))) b_nil)
    (b_one (s_set 3 nd (d_op (o_add rfl) (d_w 3) d_int)))) (b_one (s_if (d_pw (d_and (d_tc (o_eq rfl hu) (d_ix (o_ix rfl) (d_w 0) (d_w 4)) d_str) (d_and1 (d_tc (o_lt) (d_w 1) d_int)))) (b_one (s_par3 1 2 3 nd (d_ac (d_op (o_add rfl) (d_w 1) d_int) (d_ac (d_op (o_add rfl) (d_w 2) d_int) (d_ac d_int d_an))))) (b_one (s_if (d_pw (d_and (d_tc (o_eq rfl hu) (d_ix (o_ix rfl) (d_w 0) (d_w 4)) d_str) (d_and1 (d_tc (o_gt) (d_w 2) d_int)))) (b_one (s_set 2 nd (d_op (o_sub) (d_w 2) d_int))) (b_one (s_ret (d_op (o_add rfl) (d_w 4) d_int))))))))))
    (b_cons (s_if (d_pw (d_and (d_tc (o_eq rfl hu) (d_w 3) d_int) (d_and1 (d_tc (o_eq rfl hu) (d_w 2) d_int)))) (b_one (s_ret d_int)) b_nil)
    (b_one (s_ret (d_op (o_add rfl) (d_bltn (c_len rfl) B.len (d_ab (d_w 0) d_an)) d_int))))))
  exact ⟨f, fd, ["_law_words_here"], rfl, z, mgf, F.kp, F.bindsN fun _ _ _ _ _ _ us hl => match us, hl with | [_], _ => rfl⟩
def m__law_is_joint (self : List D → R D) : FS :=
    (sSeq (sIf (tO (tB' (e2 eqD (eW 1) (eI (0)))) (tO (tNo (tT' (eC (f2 isiD) (aC (eW 0) (aC (eY "tuple") aN))))) (tB' (e2 neD (eC (f1 lenD) (aC (eW 0) aN)) (eI (2)))))) (sRet (eB false)) sNil)
    (sSeq (sAsg (gT 2 (gsC (gN 2) (gsC (gN 3) gsN))) (eV 0))
    (sSeq (sIf (tO (tNo (tT' (eC (f2 isiD) (aC (eW 2) (aC (eY "tuple") aN))))) (tO (tB' (e2 neD (eC (f1 lenD) (aC (eW 2) aN)) (eI (4)))) (tNo (tT' (eC (f2 isiD) (aC (eW 3) (aC (eY "tuple") aN))))))) (sRet (eB false)) sNil)
    (sSeq (sIf (tNo (tT' (eC (f2 isiD) (aC (e2 ixD (eW 2) (eI (1))) (aC (eY "tuple") aN))))) (sRet (eB false)) sNil)
    (sSeq (sFor (fun S => (e2 addD (eL (aC (e2 ixD (eW 2) (eI (0))) (aC (e2 ixD (eW 2) (eI (2))) (aC (e2 ixD (eW 2) (eI (3))) aN)))) (eC (f1 lstD) (aC (e2 ixD (eW 2) (eI (1))) aN))) S >>= itemsD) (gN 4) (sIf (tO (tNo (tT' (eC (f2 isiD) (aC (eW 4) (aC (eY "int") aN))))) (tT' (eC (f2 isiD) (aC (eW 4) (aC (eY "bool") aN))))) (sRet (eB false)) sNil))
    (sSeq (sIf (tO (tB' (e2 notInD (e2 ixD (eW 2) (eI (0))) (eT (aC (eI (0)) (aC (eI (1)) aN))))) (tO (tB' (e2 notInD (e2 ixD (eW 2) (eI (2))) (eT (aC (e1 negD (eI (1))) (aC (eI (0)) (aC (eI (1)) (aC (eI (2)) aN))))))) (tB' (e2 notInD (e2 ixD (eW 2) (eI (3))) (eT (aC (eI (0)) (aC (eI (1)) aN))))))) (sRet (eB false)) sNil)
    (sSeq (sIf (tB' (e2 gtD (eC (f1 lenD) (aC (lcE (fun S => (e2 ixD (eW 2) (eI (1))) S >>= itemsD) (gN 5) (tB' (e2 notInD (eW 5) (eT (aC (e1 negD (eI (1))) (aC (eI (0)) (aC (eI (1)) aN)))))) (eV 5) [5]) aN)) (eI (0)))) (sRet (eB false)) sNil)
    (sRet (eC (f1 allD) (aC (lcE (fun S => (eV 3) S >>= itemsD) (gN 6) tY (eC self (aC (eV 6) (aC (e2 subD (eW 1) (eI (1))) aN))) [6]) aN))))))))))
def d__law_is_joint' : Nat → List D → R D
  | 0 => fun _ => .fail
  | n + 1 => fun ds => (runF false 7 (m__law_is_joint (d__law_is_joint' n)) ds).nox
def d__law_is_joint : List D → R D := d__law_is_joint' 5
theorem sc__law_is_joint : FnScope ["_law_joint_here", "_law_most", "_law_row_here", "_law_guests", "_law_number", "_law_node", "_law_guest"] ["_law_joint_here", "_law_most"] (defScope st__law_is_joint) := ⟨rfl, rfl, rfl, by decide +kernel, rfl, by decide +kernel, by decide +kernel⟩
theorem okr__law_is_joint {f : Addr} {fd : FuncData} (F : FunD K "_law_is_joint" "_law_is_joint" (defArgs st__law_is_joint) (defBody st__law_is_joint) (defScope st__law_is_joint) [] [] f fd) (mgf : mg "_law_is_joint" = some (.ref f)) (B : Bt mg)  (n : Nat) : Callee P w K mg base ⟨K, cl⟩ (1 + n) "_law_is_joint" 2 false (d__law_is_joint' n) := by
  have nd : (["_law_joint_here", "_law_most", "_law_row_here", "_law_guests", "_law_number", "_law_node", "_law_guest"] : List Str).Nodup := sc__law_is_joint.nd
  induction n with
  | zero => exact ⟨f, fd, ["_law_joint_here", "_law_most"], rfl, fn_ok (P := P) (w := w) (mg := mg) (base := base) (k := ⟨K, cl⟩) (fr := false) (lv := 0) (as := []) (s := fun _ => .fail) F sc__law_is_joint fun cdv A outer sh H G0 hr => b_fail, mgf, F.kp, F.bindsN fun _ _ _ _ _ _ us hl => match us, hl with | [_, _], _ => rfl⟩
  | succ n ih =>
    have z := fn_ok (P := P) (w := w) (mg := mg) (base := base) (k := ⟨K, cl⟩) (fr := false) (lv := 1 + n) (as := [2, 3, 4]) (s := m__law_is_joint (d__law_is_joint' n)) F sc__law_is_joint fun cdv A outer sh H G0 hr => by
      have hu := hr.units
      have hu5 := hr.units5
      exact (b_cons (s_if (d_pw (d_or (d_tc (o_eq rfl hu) (d_w 1) d_int) (d_or (d_not (d_tt rfl (d_bltn (c_isi rfl) B.isinstance (d_ab (d_w 0) (d_ab (d_ty "tuple" B.tuple) d_an))))) (d_or1 (d_tc (o_ne rfl hu) (d_bltn (c_len rfl) B.len (d_ab (d_w 0) d_an)) d_int))))) (b_one (s_ret d_bl)) b_nil)
    (b_cons (s_asg (d_v 0) (g_t rfl rfl (gs_c (g_n 2 nd) (gs_c (g_n 3 nd) gs_n))))
    (b_cons (s_if (d_pw (d_or (d_not (d_tt rfl (d_bltn (c_isi rfl) B.isinstance (d_ab (d_w 2) (d_ab (d_ty "tuple" B.tuple) d_an))))) (d_or (d_tc (o_ne rfl hu) (d_bltn (c_len rfl) B.len (d_ab (d_w 2) d_an)) d_int) (d_or1 (d_not (d_tt rfl (d_bltn (c_isi rfl) B.isinstance (d_ab (d_w 3) (d_ab (d_ty "tuple" B.tuple) d_an))))))))) (b_one (s_ret d_bl)) b_nil)
    (b_cons (s_if (d_not (d_tt rfl (d_bltn (c_isi rfl) B.isinstance (d_ab (d_ix (o_ix rfl) (d_w 2) d_int) (d_ab (d_ty "tuple" B.tuple) d_an))))) (b_one (s_ret d_bl)) b_nil)
    (b_cons (s_for PassesOwn.never rfl (i_seq rfl (d_op (o_add rfl) (d_lst (d_ac (d_ix (o_ix rfl) (d_w 2) d_int) (d_ac (d_ix (o_ix rfl) (d_w 2) d_int) (d_ac (d_ix (o_ix rfl) (d_w 2) d_int) d_an)))) (d_btyp (c_lst rfl) B.list (d_ab (d_ix (o_ix rfl) (d_w 2) d_int) d_an)))) (g_n 4 nd) (b_one (s_if (d_pw (d_or (d_not (d_tt rfl (d_bltn (c_isi rfl) B.isinstance (d_ab (d_w 4) (d_ab (d_ty "int" B.int) d_an))))) (d_or1 (d_tt rfl (d_bltn (c_isi rfl) B.isinstance (d_ab (d_w 4) (d_ab (d_ty "bool" B.bool) d_an))))))) (b_one (s_ret d_bl)) b_nil)))
    (b_cons (s_if (d_pw (d_or (d_tc (o_notin rfl hu5) (d_ix (o_ix rfl) (d_w 2) d_int) (d_tup (d_ac d_int (d_ac d_int d_an)))) (d_or (d_tc (o_notin rfl hu5) (d_ix (o_ix rfl) (d_w 2) d_int) (d_tup (d_ac (d_un o_neg d_int) (d_ac d_int (d_ac d_int (d_ac d_int d_an)))))) (d_or1 (d_tc (o_notin rfl hu5) (d_ix (o_ix rfl) (d_w 2) d_int) (d_tup (d_ac d_int (d_ac d_int d_an)))))))) (b_one (s_ret d_bl)) b_nil)
    (b_cons (s_if (d_tc (o_gt) (d_bltn (c_len rfl) B.len (d_ab (d_lc [("_law_node", 5)] rfl nd (i_seq rfl (d_ix (o_ix rfl) (d_w 2) d_int)) (blkOk_by (N := ["_law_joint_here", "_law_most", "_law_row_here", "_law_guests", "_law_number", "_law_node", "_law_guest"]) (sc := (defScope st__law_is_joint)) (by decide +kernel)) (fun _ _ _ _ _ => (g_n 5 nd)) (fun _ _ _ _ _ => (ts_1 (d_tc (o_notin rfl hu5) (d_w 5) (d_tup (d_ac (d_un o_neg d_int) (d_ac d_int (d_ac d_int d_an))))))) (fun _ _ _ _ _ => (d_v 5))) d_an)) d_int) (b_one (s_ret d_bl)) b_nil)
    (b_one (s_ret (d_bltn (c_all rfl) B.all (d_ab (d_lc [("_law_guest", 6)] rfl nd (i_seq rfl (d_v 3)) (blkOk_by (N := ["_law_joint_here", "_law_most", "_law_row_here", "_law_guests", "_law_number", "_law_node", "_law_guest"]) (sc := (defScope st__law_is_joint)) (by decide +kernel)) (fun _ _ _ _ _ => (g_n 6 nd)) (fun _ _ _ _ _ => ts_n) (fun _ _ _ _ _ => (d_callS (ih.at hr (by omega)) (d_ac (d_v 6) (d_ac (d_op (o_sub) (d_w 1) d_int) d_an)) (len_c (len_c len_n))))) d_an)))))))))))
    exact ⟨f, fd, ["_law_joint_here", "_law_most"], rfl, z, mgf, F.kp, F.bindsN fun _ _ _ _ _ _ us hl => match us, hl with | [_, _], _ => rfl⟩
theorem ok__law_is_joint {f : Addr} {fd : FuncData} (F : FunD K "_law_is_joint" "_law_is_joint" (defArgs st__law_is_joint) (defBody st__law_is_joint) (defScope st__law_is_joint) [] [] f fd) (mgf : mg "_law_is_joint" = some (.ref f)) (B : Bt mg)  : Callee P w K mg base ⟨K, cl⟩ 6 "_law_is_joint" 2 false d__law_is_joint := okr__law_is_joint F mgf B  5
def m__law_refused_word : FS :=
    (sSeq (sTryAs mt_BadText 2 (sDrop (eCX d_read_row (aC (eV 0) aN))) fun y => (sSeq (sIf (tT' (eC (f2 (isXD xtab y)) (aC (eW 2) (aC (eT (aC (eG (.cls 15)) (aC (eG (.cls 13)) (aC (eG (.cls 11)) (aC (eG (.cls 12)) (aC (eG (.cls 14)) aN)))))) aN)))) (sRet (eB false)) sNil)
    (sRet (eAnd (eC (f2 (isXD xtab y)) (aC (eW 2) (aC (eG (.cls 10)) aN))) (eAnd (eC (f2 (isXD xtab y)) (aC (eW 2) (aC (eY "ValueError") aN))) (eCH d__law_same (aC (eT (aC (eXf y 16 0 (eW 2)) (aC (eXf y 16 1 (eW 2)) aN))) (aC (eT (aC (eI (1)) (aC (eV 1) aN))) aN))))))))
    (sRet (eB false)))
def d__law_refused_word : List D → R D := fun ds => (runF false 3 m__law_refused_word ds).nox
theorem sc__law_refused_word : FnScope ["_law_text", "_law_word", "e"] ["_law_text", "_law_word"] (defScope st__law_refused_word) := ⟨rfl, rfl, rfl, by decide +kernel, rfl, by decide +kernel, by decide +kernel⟩
theorem ok__law_refused_word {f : Addr} {fd : FuncData} (F : FunD K "_law_refused_word" "_law_refused_word" (defArgs st__law_refused_word) (defBody st__law_refused_word) (defScope st__law_refused_word) [] [] f fd) (mgf : mg "_law_refused_word" = some (.ref f)) (B : Bt mg) (Y_BadText : TryC K mg ⟨K, cl⟩ "BadText" mt_BadText) (h0 : cl xix = none) (h_read_row : CalleeX P w K mg base ⟨K, cl⟩ 9 "read_row" 1 false d_read_row) (hXT : ∀ ci t b, xtab ci t = some b → IsT K ⟨K, cl⟩ ci t b) (g_BadAct : Gc mg ⟨K, cl⟩ "BadAct" (.cls 15)) (g_BadRow : Gc mg ⟨K, cl⟩ "BadRow" (.cls 13)) (g_InvalidHouse : Gc mg ⟨K, cl⟩ "InvalidHouse" (.cls 11)) (g_TooLarge : Gc mg ⟨K, cl⟩ "TooLarge" (.cls 12)) (g_UnknownPath : Gc mg ⟨K, cl⟩ "UnknownPath" (.cls 14)) (g_BreachError : Gc mg ⟨K, cl⟩ "BreachError" (.cls 10)) (F_BadText_line : XfT K ⟨K, cl⟩ 16 "line" 0) (F_BadText_word : XfT K ⟨K, cl⟩ 16 "word" 1) (hH__law_same : CalleeH P w K mg base ⟨K, cl⟩ 5 "_law_same" 2 d__law_same) : Callee P w K mg base ⟨K, cl⟩ 10 "_law_refused_word" 2 false d__law_refused_word := by
  have nd : (["_law_text", "_law_word", "e"] : List Str).Nodup := sc__law_refused_word.nd
  have z := fn_ok (P := P) (w := w) (mg := mg) (base := base) (k := ⟨K, cl⟩) (fr := false) (lv := 9) (as := []) (s := m__law_refused_word) F sc__law_refused_word fun cdv A outer sh H G0 hr => by
    have hu := hr.units
    have hu5 := hr.units5
    exact (b_cons (s_tryE Y_BadText nd takes0 h0 (fun W pn xe H0 G0 tkW pa => (b1_one (s1_drop (d_callXS h_read_row hr (by decide) tkW (d_ac (d_v 0) d_an) (len_c len_n))))) (fun a oe cls d pn H0 G0 y hh he ho => (b_cons (s_if (d_tt rfl (d_isX hh rfl hXT B.isinstance (d_ab (d_w 2) (d_ab (d_tup (d_ac (d_g (Gc.up h0 g_BadAct)) (d_ac (d_g (Gc.up h0 g_BadRow)) (d_ac (d_g (Gc.up h0 g_InvalidHouse)) (d_ac (d_g (Gc.up h0 g_TooLarge)) (d_ac (d_g (Gc.up h0 g_UnknownPath)) d_an)))))) d_an)))) (b_one (s_ret d_bl)) b_nil)
    (b_one (s_ret (d_vand (d_isX hh rfl hXT B.isinstance (d_ab (d_w 2) (d_ab (d_g (Gc.up h0 g_BreachError)) d_an))) (d_vand (d_isX hh rfl hXT B.isinstance (d_ab (d_w 2) (d_ab (d_ty "ValueError" B.ValueError) d_an))) (d_vone (d_callH hH__law_same (roomS hr) (by decide) ho h0 (d_ac (d_tup (d_ac (d_xf hh F_BadText_line h0 (d_w 2)) (d_ac (d_xf hh F_BadText_word h0 (d_w 2)) d_an))) (d_ac (d_tup (d_ac d_int (d_ac (d_v 1) d_an))) d_an)) (len_c (len_c len_n)))))))))))
    (b_one (s_ret d_bl)))
  exact ⟨f, fd, ["_law_text", "_law_word"], rfl, z, mgf, F.kp, F.bindsN fun _ _ _ _ _ _ us hl => match us, hl with | [_, _], _ => rfl⟩
def m__law_right_word : FS :=
    (sSeq (sSet 1 (eC d__law_wrong_word (aC (eM1 splitD (eW 0) (eS " ")) aN)))
    (sSeq (sIf (tB' (e2 gtD (eW 1) (eI (0)))) (sRet (eC d__law_refused_word (aC (eV 0) (aC (eV 1) aN)))) sNil)
    (sSeq (sSet 2 (eCX d_read_row (aC (eV 0) aN)))
    (sRet (eAnd (eC d__law_is_joint (aC (eV 2) (aC (eI (3)) aN))) (e2 eqD (eM1 joinD (eS " ") (eC d__law_words (aC (eV 2) aN))) (eW 0)))))))
def d__law_right_word : List D → R D := runF false 3 m__law_right_word
theorem sc__law_right_word : FnScope ["_law_text", "_law_word", "_law_joint_here"] ["_law_text"] (defScope st__law_right_word) := ⟨rfl, rfl, rfl, by decide +kernel, rfl, by decide +kernel, by decide +kernel⟩
theorem ok__law_right_word {f : Addr} {fd : FuncData} (F : FunD K "_law_right_word" "_law_right_word" (defArgs st__law_right_word) (defBody st__law_right_word) (defScope st__law_right_word) [] [] f fd) (mgf : mg "_law_right_word" = some (.ref f)) (B : Bt mg) (h__law_wrong_word : Callee P w K mg base ⟨K, cl⟩ 2 "_law_wrong_word" 1 false d__law_wrong_word) (h__law_refused_word : Callee P w K mg base ⟨K, cl⟩ 10 "_law_refused_word" 2 false d__law_refused_word) (h_read_row : CalleeX P w K mg base ⟨K, cl⟩ 9 "read_row" 1 false d_read_row) (h__law_is_joint : Callee P w K mg base ⟨K, cl⟩ 6 "_law_is_joint" 2 false d__law_is_joint) (h__law_words : Callee P w K mg base ⟨K, cl⟩ 5 "_law_words" 1 false d__law_words) : CalleeX P w K mg base ⟨K, cl⟩ 11 "_law_right_word" 1 false d__law_right_word := by
  have nd : (["_law_text", "_law_word", "_law_joint_here"] : List Str).Nodup := sc__law_right_word.nd
  have z := fn_okX (P := P) (w := w) (mg := mg) (base := base) (k := ⟨K, cl⟩) (fr := false) (lv := 10) (as := _) (s := m__law_right_word) F sc__law_right_word fun cdv A outer sh H G0 E hr tk => by
    have hu := hr.units
    have hu5 := hr.units5
    exact (b_cons (s_set 1 nd (d_callS (h__law_wrong_word.at hr (by decide)) (d_ac (d_z (d_split (d_w 0) d_str)) d_an) (len_c len_n)))
    (b_cons (s_if (d_tc (o_gt) (d_w 1) d_int) (b_one (s_ret (d_callS (h__law_refused_word.at hr (by decide)) (d_ac (d_v 0) (d_ac (d_v 1) d_an)) (len_c (len_c len_n))))) b_nil)
    (b_cons (s_set 2 nd (d_callXS h_read_row hr (by decide) tk (d_ac (d_v 0) d_an) (len_c len_n)))
    (b_one (s_ret (d_vand (d_callS (h__law_is_joint.at hr (by decide)) (d_ac (d_v 2) (d_ac d_int d_an)) (len_c (len_c len_n))) (d_vone (d_cmp (o_eq rfl hu) (d_join rfl d_str (d_callS (h__law_words.at hr (by decide)) (d_ac (d_v 2) d_an) (len_c len_n))) (d_w 0)))))))))
  exact ⟨f, fd, ["_law_text"], rfl, z, mgf, F.kp, F.bindsN fun _ _ _ _ _ _ us hl => match us, hl with | [_], _ => rfl⟩
def m_law : FS :=
    (sSeq (sFor (fun S => (aC (eC (f2 min2D) (aC (eI (63)) (aC (eC (f2 max2D) (aC (eI (1)) (aC (eC (f1 lenD) (aC (eW 0) aN)) aN))) aN))) aN) S >>= rng1) (gN 1) (sSeq (sSet 2 (eC d__law_draws (aC (eV 0) (aC (eV 1) (aC (eI (33)) aN)))))
    (sSeq (sSet 3 (eC d__law_words (aC (eC d__law_joint (aC (eSl (eW 2) oN (oS (eI (7)))) aN)) aN)))
    (sSeq (sSet 4 (eC d__law_words (aC (eT (aC (eC d__law_row (aC (e2 ixD (eW 2) (eI (19))) (aC (e2 ixD (eW 2) (eI (20))) aN))) (aC (eT aN) aN))) aN)))
    (sSeq (sSet 5 (eC d__law_spoilt (aC (eV 3) (aC (e2 modD (eC (f1 intD) (aC (e2 ixD (eW 2) (eI (7))) aN)) (eI (8))) (aC (e2 ixD (eW 2) (eI (8))) (aC (eC d__law_odd (aC (eSl (eW 2) (oS (eI (9))) (oS (eI (19)))) aN)) (aC (eV 4) aN)))))))
    (sSeq (sSet 6 (eC d__law_spoilt (aC (eV 5) (aC (e2 modD (eC (f1 intD) (aC (e2 ixD (eW 2) (eI (21))) aN)) (eI (8))) (aC (e2 ixD (eW 2) (eI (22))) (aC (eC d__law_odd (aC (eSl (eW 2) (oS (eI (23))) (oS (eI (33)))) aN)) (aC (eV 4) aN)))))))
    (sIf (tNo (tT' (eC (f1 allD) (aC (lcE (fun S => (eT (aC (eV 3) (aC (eV 5) (aC (eV 6) aN)))) S >>= itemsD) (gN 7) tY (eCX d__law_right_word (aC (eM1 joinD (eS " ") (eW 7)) aN)) [7]) aN)))) (sRet (eB false)) sNil)))))))
    (sRet (eB true)))
def d_law : List D → R D := fun ds => (runF false 8 m_law ds).nox
theorem sc_law : FnScope ["_law_script", "_law_at", "_law_d", "_law_good", "_law_more", "_law_once", "_law_twice", "_law_one"] ["_law_script"] (defScope st_law) := ⟨rfl, rfl, rfl, by decide +kernel, rfl, by decide +kernel, by decide +kernel⟩
theorem ok_law {f : Addr} {fd : FuncData} (F : FunD K "law" "law" (defArgs st_law) (defBody st_law) (defScope st_law) [] [] f fd) (mgf : mg "law" = some (.ref f)) (B : Bt mg) (h__law_draws : Callee P w K mg base ⟨K, cl⟩ 2 "_law_draws" 3 false d__law_draws) (h__law_words : Callee P w K mg base ⟨K, cl⟩ 5 "_law_words" 1 false d__law_words) (h__law_joint : Callee P w K mg base ⟨K, cl⟩ 3 "_law_joint" 1 false d__law_joint) (h__law_row : Callee P w K mg base ⟨K, cl⟩ 2 "_law_row" 2 false d__law_row) (h__law_spoilt : Callee P w K mg base ⟨K, cl⟩ 1 "_law_spoilt" 5 false d__law_spoilt) (h__law_odd : Callee P w K mg base ⟨K, cl⟩ 2 "_law_odd" 1 false d__law_odd) (h__law_right_word : CalleeX P w K mg base ⟨K, cl⟩ 11 "_law_right_word" 1 false d__law_right_word) : FnOk P w K mg base CX0 12 f fd ["_law_script"] (SpF ⟨K, cl⟩ false 1 d_law) := by
  have nd : (["_law_script", "_law_at", "_law_d", "_law_good", "_law_more", "_law_once", "_law_twice", "_law_one"] : List Str).Nodup := sc_law.nd
  have z := fn_ok (P := P) (w := w) (mg := mg) (base := base) (k := ⟨K, cl⟩) (fr := false) (lv := 11) (as := [1, 2, 3, 4, 5, 6]) (s := m_law) F sc_law fun cdv A outer sh H G0 hr => by
    have hu := hr.units
    have hu5 := hr.units5
    exact (b_cons (s_for PassesOwn.never rfl (i_rng1 B.range (d_ab (d_bltn (c_min2 rfl) B.min (d_ab d_int (d_ab (d_bltn (c_max2 rfl) B.max (d_ab d_int (d_ab (d_bltn (c_len rfl) B.len (d_ab (d_w 0) d_an)) d_an))) d_an))) d_an)) (g_n 1 nd) (b_cons (s_set 2 nd (d_callS (h__law_draws.at hr (by decide)) (d_ac (d_v 0) (d_ac (d_v 1) (d_ac d_int d_an))) (len_c (len_c (len_c len_n)))))
    (b_cons (s_set 3 nd (d_callS (h__law_words.at hr (by decide)) (d_ac (d_callS (h__law_joint.at hr (by decide)) (d_ac (d_sl rfl (d_w 2) d_on (d_os d_int)) d_an) (len_c len_n)) d_an) (len_c len_n)))
    (b_cons (s_set 4 nd (d_callS (h__law_words.at hr (by decide)) (d_ac (d_tup (d_ac (d_callS (h__law_row.at hr (by decide)) (d_ac (d_ix (o_ix rfl) (d_w 2) d_int) (d_ac (d_ix (o_ix rfl) (d_w 2) d_int) d_an)) (len_c (len_c len_n))) (d_ac (d_tup d_an) d_an))) d_an) (len_c len_n)))
    (b_cons (s_set 5 nd (d_callS (h__law_spoilt.at hr (by decide)) (d_ac (d_v 3) (d_ac (d_op (o_mod) (d_btyp (c_int) B.int (d_ab (d_ix (o_ix rfl) (d_w 2) d_int) d_an)) d_int) (d_ac (d_ix (o_ix rfl) (d_w 2) d_int) (d_ac (d_callS (h__law_odd.at hr (by decide)) (d_ac (d_sl rfl (d_w 2) (d_os d_int) (d_os d_int)) d_an) (len_c len_n)) (d_ac (d_v 4) d_an))))) (len_c (len_c (len_c (len_c (len_c len_n)))))))
    (b_cons (s_set 6 nd (d_callS (h__law_spoilt.at hr (by decide)) (d_ac (d_v 5) (d_ac (d_op (o_mod) (d_btyp (c_int) B.int (d_ab (d_ix (o_ix rfl) (d_w 2) d_int) d_an)) d_int) (d_ac (d_ix (o_ix rfl) (d_w 2) d_int) (d_ac (d_callS (h__law_odd.at hr (by decide)) (d_ac (d_sl rfl (d_w 2) (d_os d_int) (d_os d_int)) d_an) (len_c len_n)) (d_ac (d_v 4) d_an))))) (len_c (len_c (len_c (len_c (len_c len_n)))))))
    (b_one (s_if (d_not (d_tt rfl (d_bltn (c_all rfl) B.all (d_ab (d_lc [("_law_one", 7)] rfl nd (i_seq rfl (d_tup (d_ac (d_v 3) (d_ac (d_v 5) (d_ac (d_v 6) d_an))))) (blkOk_by (N := ["_law_script", "_law_at", "_law_d", "_law_good", "_law_more", "_law_once", "_law_twice", "_law_one"]) (sc := (defScope st_law)) (by decide +kernel)) (fun _ _ _ _ _ => (g_n 7 nd)) (fun _ _ _ _ _ => ts_n) (fun _ _ _ _ _ => (d_callXS h__law_right_word hr (by decide) takes0 (d_ac (d_join rfl d_str (d_w 7)) d_an) (len_c len_n)))) d_an)))) (b_one (s_ret d_bl)) b_nil))))))))
    (b_one (s_ret d_bl)))
  exact z
end
end Pf
set_option Elab.async false
set_option linter.all false
set_option maxRecDepth 100000
namespace Pf
open M PySem L2
def drawn (n : Nat) (d : D) : Prop := ∃ l : List Int, d = .lst (l.map .int) ∧ l.length = n ∧ ∀ x ∈ l, 0 ≤ x ∧ x < 720720
def EN : List Str := ["", "a", "b", "c", "ab", "ac", "bc", "abc"]
structure Nd (p : List Str) (due : Int) : Prop where
  ne : 1 ≤ p.length
  le : p.length ≤ 4
  lo : (p.length : Int) ≤ due
  hi : due ≤ 8
  en : ∀ e ∈ p, e ∈ EN
theorem drawn.ix {n : Nat} {d : D} (h : drawn n d) {i : Int} (h0 : 0 ≤ i) (h1 : i < n) : Ok (ixD d (.int i)) fun z => ∃ x : Int, z = .int x ∧ 0 ≤ x ∧ x < 720720 := by
  obtain ⟨l, rfl, hl, hm⟩ := h
  rw [k_ixL]
  obtain ⟨a, ha⟩ := atI_lt (xs := l.map D.int) h0 (by rw [List.length_map]; omega)
  obtain ⟨x, hx, rfl⟩ := List.mem_map.mp (atI_mem ha)
  exact ⟨_, ha, x, rfl, hm x hx⟩
theorem mod_b (x : Int) {m : Int} (h : 0 < m) : 0 ≤ x % m ∧ x % m < m := ⟨Int.emod_nonneg _ (by omega), Int.emod_lt_of_pos _ h⟩
theorem k_min2 {a b : Int} {Q : D → Prop} : Ok (min2D (.int a) (.int b)) Q ↔ Q (.int (if b < a then b else a)) := ok_ok
theorem k_max2 {a b : Int} {Q : D → Prop} : Ok (max2D (.int a) (.int b)) Q ↔ Q (.int (if b > a then b else a)) := ok_ok
theorem drawn.snoc {l : List Int} {n : Nat} {x : Int} (hm : l.length = n ∧ ∀ x ∈ l, 0 ≤ x ∧ x < 720720) (hx : 0 ≤ x ∧ x < 720720) : (l ++ [x]).length = n + 1 ∧ ∀ z ∈ l ++ [x], 0 ≤ z ∧ z < 720720 := by
  refine ⟨by simp [hm.1], fun z hz => ?_⟩
  rcases List.mem_append.mp hz with h | h
  · exact hm.2 z h
  · rw [List.mem_singleton] at h; subst h; exact hx
end Pf
set_option Elab.async false
set_option linter.all false
set_option maxRecDepth 100000
namespace Pf
open M PySem L2
mutual
theorem deq_self : ∀ (n : Nat) (d : D), dok n d = true → deq d d = true
  | _, .non, _ => by simp [deq]
  | _, .bl b, _ => by simp [deq]
  | _, .int b, _ => by simp [deq]
  | _, .str b, _ => by simp [deq]
  | n + 1, .tup xs, h => by simp only [dok] at h; simp only [deq]; exact deqs_self n xs h
  | n + 1, .lst xs, h => by simp only [dok] at h; simp only [deq]; exact deqs_self n xs h
  | 0, .tup xs, h => by simp [dok] at h
  | 0, .lst xs, h => by simp [dok] at h
  | n, .ty _, h => by cases n <;> simp [dok] at h
  | n, .dic _ _, h => by cases n <;> simp [dok] at h
  | n, .dit _ _, h => by cases n <;> simp [dok] at h
  | n, .obj _ _, h => by cases n <;> simp [dok] at h
  | n, .scr _, h => by cases n <;> simp [dok] at h
  | n, .cls _, h => by cases n <;> simp [dok] at h
theorem deqs_self : ∀ (n : Nat) (ds : List D), doks n ds = true → deqs ds ds = true
  | _, [], _ => by simp [deqs]
  | n, d :: ds, h => by
    simp only [doks, Bool.and_eq_true] at h
    simp only [deqs, Bool.and_eq_true]
    exact ⟨deq_self n d h.1, deqs_self n ds h.2⟩
end
theorem doks_map {α : Type} (f : α → D) (n : Nat) : ∀ (xs : List α), (∀ x ∈ xs, dok n (f x) = true) → doks n (xs.map f) = true
  | [], _ => by simp [doks]
  | x :: xs, h => by
    simp only [List.map_cons, doks, Bool.and_eq_true]
    exact ⟨h x (by simp), doks_map f n xs fun y hy => h y (by simp [hy])⟩
def sg (c : Nat) : Str := ⟨#[c]⟩
def tx (cs : List Nat) : Str := ⟨cs.toArray⟩
theorem joinL_sg : ∀ cs : List Nat, TL.joinL [] (cs.map fun c => [c]) = cs
  | [] => rfl
  | [c] => rfl
  | c :: d :: r => by
    simp only [List.map_cons, TL.joinL, List.nil_append]
    have := joinL_sg (d :: r)
    simp only [List.map_cons] at this
    rw [this]; rfl
theorem join_sg (cs : List Nat) : Txt.join "" (cs.map sg) = tx cs := by
  have h := TL.tl_join "" (cs.map sg)
  rw [List.map_map] at h
  have h2 := joinL_sg cs
  have h3 : TL.tl (Str.join "" (cs.map sg)) = cs := by
    rw [h]; exact h2
  rw [TL.join_eq]
  generalize Str.join "" (cs.map sg) = x at h3
  obtain ⟨⟨l⟩⟩ := x
  show (⟨⟨l⟩⟩ : Str) = ⟨cs.toArray⟩
  have : l = cs := h3
  rw [this]
theorem asS_sg (cs : List Nat) : asS (cs.map fun c => D.str (sg c)) = some (cs.map sg) := by
  have := asS_map (cs.map sg)
  rwa [List.map_map] at this
theorem sum_sg (cs : List Nat) : ((cs.map sg).map (·.length)).sum = cs.length := by
  induction cs with
  | nil => rfl
  | cons c cs ih =>
    simp only [List.map_cons, List.sum_cons, ih, List.length_cons]
    show 1 + cs.length = cs.length + 1
    omega
theorem k_eM1 {o : D → D → R D} {f g : FE} {S : M.Env} {Q : D → Prop} : Ok (eM1 o f g S) Q ↔ Ok (f S) fun x => isS x = true ∧ Ok (g S) fun y => Ok (o x y) Q := by
  unfold eM1; simp only [ok_bind, ok_if, ok_nox]
theorem k_join (cs : List Nat) (h : cs.length ≤ 1000) {Q : D → Prop} : Ok (joinD (.str "") (.lst (cs.map fun c => .str (sg c)))) Q ↔ Q (.str (tx cs)) := by
  have e : joinD (.str "") (.lst (cs.map fun c => .str (sg c))) = .ok (.str (tx cs)) := by
    unfold joinD
    simp only [asS_sg]
    rw [if_pos (by rw [sum_sg, List.length_map]; show cs.length + cs.length * 0 ≤ _; omega), join_sg]
  rw [e, ok_ok]
theorem k_notInS {c : Nat} {z : Str} {Q : D → Prop} : Ok (notInD (.str (sg c)) (.str z)) Q ↔ Q (.bl (!decide (c ∈ z.cps.toList))) := ok_ok
theorem k_itS {x : Str} {Q : List D → Prop} : Ok (itemsD (.str x)) Q ↔ Q (x.cps.toList.map fun c => .str (sg c)) := ok_ok
theorem lc_any {ga : FG} {fe : FE} {S : M.Env} {P : D → Prop} : ∀ {ds : List D}, (∀ d ∈ ds, Ok (ga d S) fun S1 => Ok (fe S1) P) → Ok (lcF ga tY fe S ds) fun ys => ys.length = ds.length ∧ ∀ y ∈ ys, P y
  | [], _ => ok_ok.mpr ⟨rfl, by simp⟩
  | d :: ds, h => by
    obtain ⟨S1, e1, y, e2, py⟩ := h d (by simp)
    obtain ⟨ys, e3, l3, p3⟩ := lc_any (P := P) (ds := ds) fun x hx => h x (by simp [hx])
    refine ⟨y :: ys, ?_, by simp [l3], fun x hx => ?_⟩
    · show ((ga d S).nox >>= fun S1 => (tY S1).nox >>= fun b => if b then ((fe S1).nox >>= fun y => lcF ga tY fe S ds >>= fun ys => R.ok (y :: ys)) else lcF ga tY fe S ds) = _
      rw [e1, R.nox_ok, R.ok_bind]
      show (R.ok true).nox >>= _ = _
      rw [R.nox_ok, R.ok_bind, if_pos rfl, e2, R.nox_ok, R.ok_bind, e3, R.ok_bind]
    · rcases List.mem_cons.mp hx with rfl | hx
      · exact py
      · exact p3 x hx
theorem k_lcA {fi : FI} {ga : FG} {fe : FE} {vs : List Nat} {S : M.Env} {Q : D → Prop} {P : D → Prop} (n : Nat) (hn : n ≤ sizeLine) (hi : Ok (fi S) fun ds => ds.length = n ∧ ∀ d ∈ ds, Ok (ga d (wipeS S vs)) fun S1 => Ok (fe S1) P) (q : ∀ ys, ys.length = n → (∀ y ∈ ys, P y) → Q (.lst ys)) : Ok (lcE fi ga tY fe vs S) Q := by
  rw [k_lc]
  obtain ⟨ds, e, hl, h⟩ := hi
  refine ⟨ds, e, by omega, ?_⟩
  exact (lc_any h).mono fun ys ⟨l, p⟩ => q ys (by omega) p
theorem k_ext {i : Nat} {f : FE} {S : M.Env} {QS : Fl × M.Env → Prop} : Ok (sExt i f S) QS ↔ Ok (ownL i S) fun ds => Ok (f S) fun d => ∃ es, d = .lst es ∧ ds.length + es.length ≤ sizeLine ∧ QS (.nx, S.set i (some ⟨true, .lst (ds ++ es)⟩)) := by
  unfold sExt
  rw [ok_bind]
  apply iff_of_eq
  congr 1
  funext ds
  rw [ok_bind]
  congr 1
  funext d
  refine propext ?_
  cases d with
  | lst es =>
    simp only [ok_if, ok_ok]
    exact ⟨fun h => ⟨es, rfl, h.1, h.2⟩, fun ⟨es', e, h⟩ => by cases e; exact h⟩
  | _ => simp only [ok_fail]; exact ⟨False.elim, fun ⟨_, e, _⟩ => nomatch e⟩
theorem pass_if {t : FT} {s r : FS} {S : M.Env} {QS : Fl × M.Env → Prop} (h : Ok (t S) fun b => b = false) (k : Ok (r S) QS) : Ok (sSeq (sIf t s sNil) r S) QS := by
  refine seq_cut (fun S' => S' = S) ?_ (fun S' e => by rw [e]; exact k)
  rw [k_if]
  refine h.mono fun b hb => ?_
  subst hb
  (try simp only [↓k_guard, k_no, k_I, k_S, k_B, k_N, k_G, k_Y, k_V, k_W, k_O, g0_z, g0_s, gA_z, gA_s, g1_z, g1_s, k_1, k_2, k_n, k_c, k_T, k_L, k_C, k_f1, k_f2, k_App, k_M, k_P, k_3, k_tB, k_tT, k_toB, k_tNo, k_tA, k_tO, k_tY, k_And, k_Or, k_Not, k_eIf, k_nil, k_seq, k_set, k_own, k_drop, k_ret, k_retN, k_retO, k_if, k_fz, fz_z, fz_s, k_gN, k_gsN, k_gsC, k_gT, k_asg, k_for, k_fnil, k_fcons, k_app, oL_z, oL_s, k_par, k_run, k_runN, k_fld, oO_z, k_add, k_addL, k_sub, k_mul, k_div, k_mod, k_pow, k_neg, k_lt, k_le, k_gt, k_ge, k_eqI, k_neI, k_int, k_intB, k_abs, k_lenL, k_lenT, k_lenC, k_tru, k_tupL, k_tupT, k_items_l, k_items_t, k_rng1, k_ixL, k_ixT, k_ixC, k_fldD, ok_nox, ok_ok, ok_bind, List.set_cons_zero, List.set_cons_succ, startS, startN, List.map_cons, List.map_nil, List.cons_append, List.nil_append, List.append_nil, List.length_cons, List.length_nil, List.replicate, Nat.reduceSub, Nat.reduceAdd, Nat.reduceLeDiff, Nat.zero_add, true_and, and_true, false_implies, true_implies, implies_true, forall_const, reduceCtorEq, Bool.not_true, Bool.not_false, Bool.not_eq_true'])
theorem k_aug {i : Nat} {o : D → D → R D} {f : FE} {S : M.Env} {QS : Fl × M.Env → Prop} : Ok (sAugI i o f S) QS ↔ Ok (eV i S) fun x => Ok (f S) fun y => bothI x y = true ∧ Ok (o x y) fun d => QS (.nx, S.set i (some ⟨false, d⟩)) := by
  unfold sAugI; simp only [ok_bind, ok_nox, ok_if, ok_ok]
theorem bothI_i {a b : Int} : bothI (.int a) (.int b) = true := rfl
end Pf
set_option Elab.async false
set_option linter.all false
set_option maxRecDepth 100000
namespace Pf
open M PySem L2 PySem.W PyProof.Rows
theorem srt_map {α : Type} (f : α → D) (xs : List α) : srt (xs.map f) = (xs.mergeSort fun a b => dle (f a) (f b)).map f := by
  unfold srt
  rw [List.map_mergeSort (r := fun a b => dle (f a) (f b)) (s := dle) fun _ _ _ _ => rfl]
theorem k_isL {xs : List D} {Q : D → Prop} : Ok (isiD (.lst xs) (.ty "list")) Q ↔ Q (.bl true) := by
  have e : isiD (.lst xs) (.ty "list") = .ok (.bl true) := by first | rfl | decide
  rw [e, ok_ok]
theorem k_isT {xs : List D} {Q : D → Prop} : Ok (isiD (.tup xs) (.ty "tuple")) Q ↔ Q (.bl true) := by
  have e : isiD (.tup xs) (.ty "tuple") = .ok (.bl true) := by first | rfl | decide
  rw [e, ok_ok]
theorem k_isS {x : Str} {Q : D → Prop} : Ok (isiD (.str x) (.ty "str")) Q ↔ Q (.bl true) := by
  have e : isiD (.str x) (.ty "str") = .ok (.bl true) := by first | rfl | decide
  rw [e, ok_ok]
end Pf
set_option Elab.async false
set_option linter.all false
set_option maxRecDepth 100000
namespace Pf
open M PySem L2 PySem.W PyProof.Rows
theorem ixA_l {xs : List D} {y : D} : ixA (.lst xs) y = ixD (.lst xs) y := rfl
theorem ixA_t {xs : List D} {y : D} : ixA (.tup xs) y = ixD (.tup xs) y := rfl
theorem ixA_c {xs : List Int} {y : D} : ixA (.scr xs) y = ixD (.scr xs) y := rfl
theorem inA_l {xs : List D} {y : D} : inA y (.lst xs) = inD y (.lst xs) := rfl
theorem inA_t {xs : List D} {y : D} : inA y (.tup xs) = inD y (.tup xs) := rfl
theorem inA_s {x : Str} {y : D} : inA y (.str x) = inD y (.str x) := rfl
theorem notInA_l {xs : List D} {y : D} : notInA y (.lst xs) = notInD y (.lst xs) := rfl
theorem notInA_t {xs : List D} {y : D} : notInA y (.tup xs) = notInD y (.tup xs) := rfl
theorem notInA_s {x : Str} {y : D} : notInA y (.str x) = notInD y (.str x) := rfl
theorem any_int (x : Int) : ∀ l : List Int, ((l.map D.int).any fun z => deq z (.int x)) = decide (x ∈ l)
  | [] => by simp
  | y :: l => by
    rw [List.map_cons, List.any_cons, any_int x l]
    have e : deq (.int y) (.int x) = decide (x = y) := by
      simp only [deq]
      by_cases h : x = y
      · subst h; simp
      · rw [decide_eq_false h]; exact beq_eq_false_iff_ne.mpr fun z => h z.symm
    rw [e]
    by_cases h : x = y <;> simp [h]
theorem flat_ints : ∀ l : List Int, (l.map D.int).all flatD = true
  | [] => rfl
  | y :: l => by rw [List.map_cons, List.all_cons, flat_ints l]; rfl
theorem k_inI {x : Int} {l : List Int} {Q : D → Prop} : Ok (inD (.int x) (.lst (l.map .int))) Q ↔ Q (.bl (decide (x ∈ l))) := by
  have e : inD (.int x) (.lst (l.map .int)) = .ok (.bl (decide (x ∈ l))) := by
    simp only [inD, inD', flat_ints, any_int, flatD, Bool.and_self, if_true]
  rw [e, ok_ok]
theorem k_inIT {x : Int} {l : List Int} {Q : D → Prop} : Ok (inD (.int x) (.tup (l.map .int))) Q ↔ Q (.bl (decide (x ∈ l))) := by
  have e : inD (.int x) (.tup (l.map .int)) = .ok (.bl (decide (x ∈ l))) := by
    simp only [inD, inD', flat_ints, any_int, flatD, Bool.and_self, if_true]
  rw [e, ok_ok]
theorem k_ninI {x : Int} {l : List Int} {Q : D → Prop} : Ok (notInD (.int x) (.lst (l.map .int))) Q ↔ Q (.bl (!decide (x ∈ l))) := by
  have e : notInD (.int x) (.lst (l.map .int)) = .ok (.bl (!decide (x ∈ l))) := by
    simp only [notInD, inD', flat_ints, any_int, flatD, Bool.and_self, if_true]
  rw [e, ok_ok]
theorem k_ninIT {x : Int} {l : List Int} {Q : D → Prop} : Ok (notInD (.int x) (.tup (l.map .int))) Q ↔ Q (.bl (!decide (x ∈ l))) := by
  have e : notInD (.int x) (.tup (l.map .int)) = .ok (.bl (!decide (x ∈ l))) := by
    simp only [notInD, inD', flat_ints, any_int, flatD, Bool.and_self, if_true]
  rw [e, ok_ok]
abbrev ile (a b : Int) : Bool := decide (a ≤ b)
theorem dle_int (a b : Int) : dle (.int a) (.int b) = decide (a ≤ b) := by
  unfold dle dlt
  simp only [D.toP, PySem.W.dataLt, PySem.W.keyToks]
  by_cases h : b = a
  · subst h
    rw [lex_self]
    simp [PyProof.Rows.lexLt]
  · rw [lex_diff (O := itemOrd) (by simpa using h)]
    have : itemOrd.blt (.inl b) (.inl a) = decide (b < a) := rfl
    rw [this]
    by_cases h2 : b < a
    · rw [decide_eq_true h2, decide_eq_false (by omega)]; rfl
    · rw [decide_eq_false h2, decide_eq_true (by omega)]; rfl
theorem srt_int (l : List Int) : srt (l.map .int) = (l.mergeSort ile).map .int := by
  rw [srt_map]
  congr 2
  funext a b
  exact dle_int a b
theorem doks_int (n : Nat) (l : List Int) : doks n (l.map .int) = true := doks_map _ _ _ fun x _ => by cases n <;> simp [dok]
theorem srtOk_int (l : List Int) : srtOk (l.map .int) = true := by
  unfold srtOk
  rw [doks_int]
  simp [List.all_eq_true, alikeD, srtItem]
theorem k_srtI {l : List Int} {Q : D → Prop} : Ok (srtAD (.lst (l.map .int))) Q ↔ Q (.lst ((l.mergeSort ile).map .int)) := by
  have e : srtAD (.lst (l.map .int)) = .ok (.lst ((l.mergeSort ile).map .int)) := by simp only [srtAD, srtOk_int, if_true, srt_int]
  rw [e, ok_ok]
theorem k_srtIT {l : List Int} {Q : D → Prop} : Ok (srtAD (.tup (l.map .int))) Q ↔ Q (.lst ((l.mergeSort ile).map .int)) := by
  have e : srtAD (.tup (l.map .int)) = .ok (.lst ((l.mergeSort ile).map .int)) := by simp only [srtAD, srtOk_int, if_true, srt_int]
  rw [e, ok_ok]
abbrev T3 := Int × Int × Int
def tlt (a b : T3) : Prop := a.1 < b.1 ∨ a.1 = b.1 ∧ (a.2.1 < b.2.1 ∨ a.2.1 = b.2.1 ∧ a.2.2 < b.2.2)
instance (a b : T3) : Decidable (tlt a b) := by unfold tlt; infer_instance
end Pf
set_option Elab.async false
set_option linter.all false
set_option maxRecDepth 100000
namespace Pf
open M PySem L2
section
variable {Q : D → Prop} {QB : Bool → Prop} {QL : List D → Prop} {QS : Fl × M.Env → Prop} {S : M.Env} {f g h : FE} {t : FT} {fa fk : FA} {s r : FS} {i j ci : Nat} {d x y : D}
theorem k_guardX {QS : Fl × M.Env → Prop} {c : Nat} : Ok (sIf t (sExc0 c) sNil S) QS ↔ Ok (t S) fun b => b = false ∧ QS (.nx, S) := by
  rw [k_if]
  apply iff_of_eq
  congr 1
  funext b
  have e : Ok (sExc0 c S) QS ↔ False := ⟨fun ⟨_, e, _⟩ => (nomatch e), False.elim⟩
  cases b <;> simp [k_nil, e]
theorem k_truT {xs : List D} : Ok (truD (.tup xs)) QB ↔ QB (!xs.isEmpty) := ok_ok
theorem k_truL {xs : List D} : Ok (truD (.lst xs)) QB ↔ QB (!xs.isEmpty) := ok_ok
theorem k_truI {n : Int} : Ok (truD (.int n)) QB ↔ QB (n != 0) := ok_ok
def getOr (d y z : D) : R D := match dlook d y with
  | some (some r) => .ok r
  | some none => .ok z
  | none => .fail
theorem k_eGet2 : Ok (eGet2 f g h S) Q ↔ Ok (f S) fun d => isDct d = true ∧ Ok (g S) fun y => Ok (h S) fun z => Ok (getOr d y z) Q := by
  unfold eGet2
  simp only [ok_bind]
  apply iff_of_eq
  congr 1
  funext d
  by_cases hd : isDct d = true
  · rw [if_pos hd]; simp only [hd, true_and, ok_bind]; rfl
  · rw [if_neg hd, ok_fail]; simp [hd]
theorem k_putA : Ok (sPutA i f g S) QS ↔ Ok (ownD i S) fun m => Ok (g S) fun d => Ok (f S) fun y => Ok (putA i S m d y) QS := by
  unfold sPutA; simp only [ok_bind]
theorem oD_z {l : List (Option Sl)} : Ok (ownD 0 (some ⟨true, d⟩ :: l)) Q ↔ Q d := ok_ok
theorem oD_s {a : Option Sl} {l : List (Option Sl)} : Ok (ownD (i + 1) (a :: l)) Q ↔ Ok (ownD i l) Q := Iff.rfl
theorem k_putK {ks : List Key} {ds : List D} {n : Int} : Ok (putA i S (.dic ks ds) d (.int n)) QS ↔ (ks.Nodup ∧ ks.length < sizeLine) ∧ QS (.nx, S.set i (some ⟨true, .dic (putL ks ds (.inl n) d).1 (putL ks ds (.inl n) d).2⟩)) := by
  show Ok (if _ then _ else _) QS ↔ _; rw [ok_if, ok_ok]
theorem k_putS {ks : List Key} {ds : List D} {n : Str} : Ok (putA i S (.dic ks ds) d (.str n)) QS ↔ (ks.Nodup ∧ ks.length < sizeLine) ∧ QS (.nx, S.set i (some ⟨true, .dic (putL ks ds (.inr n) d).1 (putL ks ds (.inr n) d).2⟩)) := by
  show Ok (if _ then _ else _) QS ↔ _; rw [ok_if, ok_ok]
theorem keyT_2 {a b : Int} : keyT (.tup [.int a, .int b]) = some [.inl a, .inl b] := by
  show (if 1 < 2 ∧ 2 < 4 ∧ ([.int a, .int b] : List D).all isStrD = false then keysD [.int a, .int b] else none) = _
  rw [if_pos (by refine ⟨?_, ?_, rfl⟩ <;> decide)]; rfl
theorem k_putT2 {ks : List (List Key)} {ds : List D} {a b : Int} : Ok (putA i S (.dit ks ds) d (.tup [.int a, .int b])) QS ↔ (ks.Nodup ∧ ks.length < sizeLine) ∧ QS (.nx, S.set i (some ⟨true, .dit (putL ks ds [.inl a, .inl b] d).1 (putL ks ds [.inl a, .inl b] d).2⟩)) := by
  unfold putA
  simp only [keyT_2]
  rw [ok_if, ok_ok]
theorem k_addT {a b : List D} : Ok (addD (.tup a) (.tup b)) Q ↔ a.length + b.length ≤ sizeLine ∧ Q (.tup (a ++ b)) := by show Ok (if _ then _ else _) Q ↔ _; rw [ok_if, ok_ok]
theorem k_addLL {a b : List D} : Ok (addD (.lst a) (.lst b)) Q ↔ a.length + b.length ≤ sizeLine ∧ Q (.lst (a ++ b)) := by show Ok (if _ then _ else _) Q ↔ _; rw [ok_if, ok_ok]
theorem k_CX {o : List D → R D} : Ok (eCX o fa S) Q ↔ Ok (fa S) fun xs => Ok (o xs) Q := by unfold eCX; simp only [ok_bind]
theorem k_CXK {o : List D → R D} : Ok (eCXK o fa fk S) Q ↔ Ok (fa S) fun xs => Ok (fk S) fun ys => Ok (o (xs ++ ys)) Q := by unfold eCXK; simp only [ok_bind]
theorem k_MX {den : List D → R D} : Ok (eMX ci den f fa S) Q ↔ Ok (f S) fun o => o.isObj ci = true ∧ Ok (fa S) fun ds => Ok (den (o :: ds)) Q := by unfold eMX; simp only [ok_bind, ok_if]
theorem k_lstL {xs : List D} : Ok (lstD (.lst xs)) Q ↔ Q (.lst xs) := ok_ok
theorem k_lstT {xs : List D} : Ok (lstD (.tup xs)) Q ↔ Q (.lst xs) := ok_ok
theorem k_boolL {xs : List D} : Ok (boolD (.lst xs)) Q ↔ Q (.bl (!xs.isEmpty)) := ok_ok
theorem k_boolT {xs : List D} : Ok (boolD (.tup xs)) Q ↔ Q (.bl (!xs.isEmpty)) := ok_ok
theorem k_lstE {out : List D} : Ok (lstE out) Q ↔ out.length ≤ sizeLine ∧ Q (.lst out) := by unfold lstE; rw [ok_if, ok_ok]
theorem k_LM {den : List D → R (List D)} : Ok (eLM ci den f fa S) Q ↔ Ok (f S) fun o => o.isObj ci = true ∧ Ok (fa S) fun ds => Ok (den (o :: ds)) fun out => Ok (lstE out) Q := by
  unfold eLM; simp only [ok_bind, ok_if, ok_nox]
theorem k_hasB {n b : Bool} : Ok (hasB n (.bl b)) Q ↔ Q (.bl (b != n)) := ok_ok
theorem k_eHas {den : List D → R D} {n : Bool} : Ok (eHas ci den n f g S) Q ↔ Ok (f S) fun x => Ok (g S) fun o => o.isObj ci = true ∧ Ok (den [o, x]) fun d => Ok (hasB n d) Q := by
  unfold eHas; simp only [ok_bind, ok_if, ok_nox]
theorem k_parO : Ok (sParO i j f g S) QS ↔ Ok (f S) fun d => Ok (g S) fun e => QS (.nx, (S.set i (some ⟨true, d⟩)).set j (some ⟨true, e⟩)) := by unfold sParO; simp only [ok_bind, ok_ok]
end
def seqD (t : Bool) (xs : List D) : D := if t then .tup xs else .lst xs
theorem k_itemsQ {t : Bool} {xs : List D} {QL : List D → Prop} : Ok (itemsD (seqD t xs)) QL ↔ QL xs := by cases t <;> exact ok_ok
theorem k_lenQ {t : Bool} {xs : List D} {Q : D → Prop} : Ok (lenD (seqD t xs)) Q ↔ Q (.int xs.length) := by cases t <;> exact ok_ok
theorem k_ixQ {t : Bool} {xs : List D} {n : Int} {Q : D → Prop} : Ok (ixA (seqD t xs) (.int n)) Q ↔ ∃ d, L2.atI xs n = some d ∧ Q d := by
  cases t
  · exact k_ixL
  · exact k_ixT
theorem k_srtQ {t : Bool} {l : List Int} {Q : D → Prop} : Ok (srtAD (seqD t (l.map .int))) Q ↔ Q (.lst ((l.mergeSort ile).map .int)) := by
  cases t
  · exact k_srtI
  · exact k_srtIT
theorem k_Sl {f : FE} {l h : FO} {S : M.Env} {Q : D → Prop} : Ok (eSl f l h S) Q ↔ Ok (f S) fun x => Ok (l S) fun lo => Ok (h S) fun hi => Ok (slD x lo hi) Q := by
  unfold eSl; simp only [ok_bind, ok_nox]
theorem k_oN {S : M.Env} {Q : Option Int → Prop} : Ok (oN S) Q ↔ Q none := ok_ok
theorem k_oS {f : FE} {S : M.Env} {Q : Option Int → Prop} : Ok (oS f S) Q ↔ Ok (f S) fun d => Ok (toI d) Q := by unfold oS; rw [ok_bind]
theorem k_toI {i : Int} {Q : Option Int → Prop} : Ok (toI (.int i)) Q ↔ Q (some i) := ok_ok
theorem k_slL {xs : List D} {lo hi : Option Int} {Q : D → Prop} : Ok (slD (.lst xs) lo hi) Q ↔ Q (.lst (M.cutL xs lo hi)) := ok_ok
theorem k_slT {xs : List D} {lo hi : Option Int} {Q : D → Prop} : Ok (slD (.tup xs) lo hi) Q ↔ Q (.tup (M.cutL xs lo hi)) := ok_ok
theorem cut_map {α β : Type} (f : α → β) (xs : List α) (lo hi : Option Int) : M.cutL (xs.map f) lo hi = (M.cutL xs lo hi).map f := by
  unfold M.cutL
  rw [List.length_map, List.map_take, List.map_drop]
theorem take_mapD {α β : Type} (f : α → β) (xs : List α) (n : Nat) : (xs.map f).take n = (xs.take n).map f := List.map_take.symm
theorem drop_mapD {α β : Type} (f : α → β) (xs : List α) (n : Nat) : (xs.map f).drop n = (xs.drop n).map f := List.map_drop.symm
theorem dec_self {α : Type} [DecidableEq α] (a : α) : decide (a = a) = true := decide_eq_true rfl
theorem sz0 : (0 ≤ sizeLine) = True := eq_true (Nat.le_trans (by omega) size_ge)
theorem sz1 : (1 ≤ sizeLine) = True := eq_true (Nat.le_trans (by omega) size_ge)
theorem sz2 : (2 ≤ sizeLine) = True := eq_true (Nat.le_trans (by omega) size_ge)
theorem sz3 : (3 ≤ sizeLine) = True := eq_true (Nat.le_trans (by omega) size_ge)
theorem sz4 : (4 ≤ sizeLine) = True := eq_true (Nat.le_trans (by omega) size_ge)
theorem sz5 : (5 ≤ sizeLine) = True := eq_true (Nat.le_trans (by omega) size_ge)
theorem sz6 : (6 ≤ sizeLine) = True := eq_true (Nat.le_trans (by omega) size_ge)
theorem sz7 : (7 ≤ sizeLine) = True := eq_true (Nat.le_trans (by omega) size_ge)
theorem sz8 : (8 ≤ sizeLine) = True := eq_true (Nat.le_trans (by omega) size_ge)
theorem sz9 : (9 ≤ sizeLine) = True := eq_true (Nat.le_trans (by omega) size_ge)
end Pf
set_option Elab.async false
set_option linter.all false
set_option maxRecDepth 100000
set_option maxHeartbeats 0
namespace Pf
open PySem L2 M
theorem facts {P : Program} {w : World} {K : PySem.W.Frag} {h : Heap} {mg : Str → Option Value} {f : Addr} (hP0 : ((P.main.file : Str) == "/claim/cut.py") = true) (hT0 : (P.main.scope.names.lookup ("super" : Str)).isSome = false) (X : K.In h) (Gn : h.Ns mainGlobals mg) (hfa : mg ("law" : Str) = some (.ref f)) (cz : SaysV fv fn w K) :
    ∃ fd : FuncData, (∀ (s : Shared) (v : Value), BindsTo s fd ⟨[v], []⟩ [("_law_script", v)]) ∧ ∀ base : Heap, K.In base → base.Ns mainGlobals mg → FnOk P w K mg base CX0 12 f fd ["_law_script"] (SpF ⟨K, clK K⟩ false 1 d_law) := by
  have cv := cz
  have cz := cv.z
  have c := cz.y
  have t_ENTRIES : KTab K w mg "ENTRIES" tv_ENTRIES := ktab_ok (t := ("ENTRIES", tv_ENTRIES)) (He.glo_ok X Gn (c.fact 43 (f := .glo "ENTRIES") rfl)) (cz.tab 0 rfl).1 (cz.tab 0 rfl).2
  have t_BITS : KTab K w mg "BITS" tv_BITS := ktab_ok (t := ("BITS", tv_BITS)) (He.glo_ok X Gn (c.fact 44 (f := .glo "BITS") rfl)) (cz.tab 1 rfl).1 (cz.tab 1 rfl).2
  have t_RUNS : KTab K w mg "RUNS" tv_RUNS := ktab_ok (t := ("RUNS", tv_RUNS)) (He.glo_ok X Gn (c.fact 45 (f := .glo "RUNS") rfl)) (cz.tab 2 rfl).1 (cz.tab 2 rfl).2
  have t_MORES : KTab K w mg "MORES" tv_MORES := ktab_ok (t := ("MORES", tv_MORES)) (He.glo_ok X Gn (c.fact 46 (f := .glo "MORES") rfl)) (cz.tab 3 rfl).1 (cz.tab 3 rfl).2
  have B : Bt mg := ⟨He.free_ok X Gn (c.fact 21 (f := .free "ValueError") rfl), He.free_ok X Gn (c.fact 22 (f := .free "abs") rfl), He.free_ok X Gn (c.fact 23 (f := .free "all") rfl), He.free_ok X Gn (c.fact 24 (f := .free "any") rfl), He.free_ok X Gn (c.fact 25 (f := .free "bool") rfl), He.free_ok X Gn (c.fact 26 (f := .free "int") rfl), He.free_ok X Gn (c.fact 27 (f := .free "isinstance") rfl), He.free_ok X Gn (c.fact 28 (f := .free "len") rfl), He.free_ok X Gn (c.fact 29 (f := .free "list") rfl), He.free_ok X Gn (c.fact 30 (f := .free "max") rfl), He.free_ok X Gn (c.fact 31 (f := .free "min") rfl), He.free_ok X Gn (c.fact 32 (f := .free "range") rfl), He.free_ok X Gn (c.fact 33 (f := .free "str") rfl), He.free_ok X Gn (c.fact 34 (f := .free "tuple") rfl)⟩
  have q_BadText : mg "BadText" = some (.ref (He.ga K "BadText")) := He.glo_ok X Gn (c.fact 35 (f := .glo "BadText") rfl)
  have k_BadText : clK K 16 = some (He.ga K "BadText", (["line", "word"] : List Str)) := rfl
  have g_BadText : Gc mg ⟨K, clK K⟩ "BadText" (.cls 16) := gcls_ok q_BadText k_BadText
  have q_BadAct : mg "BadAct" = some (.ref (He.ga K "BadAct")) := He.glo_ok X Gn (c.fact 36 (f := .glo "BadAct") rfl)
  have k_BadAct : clK K 15 = some (He.ga K "BadAct", (["index"] : List Str)) := rfl
  have g_BadAct : Gc mg ⟨K, clK K⟩ "BadAct" (.cls 15) := gcls_ok q_BadAct k_BadAct
  have q_BadRow : mg "BadRow" = some (.ref (He.ga K "BadRow")) := He.glo_ok X Gn (c.fact 37 (f := .glo "BadRow") rfl)
  have k_BadRow : clK K 13 = some (He.ga K "BadRow", (["index"] : List Str)) := rfl
  have g_BadRow : Gc mg ⟨K, clK K⟩ "BadRow" (.cls 13) := gcls_ok q_BadRow k_BadRow
  have q_InvalidHouse : mg "InvalidHouse" = some (.ref (He.ga K "InvalidHouse")) := He.glo_ok X Gn (c.fact 38 (f := .glo "InvalidHouse") rfl)
  have k_InvalidHouse : clK K 11 = some (He.ga K "InvalidHouse", ([] : List Str)) := rfl
  have g_InvalidHouse : Gc mg ⟨K, clK K⟩ "InvalidHouse" (.cls 11) := gcls_ok q_InvalidHouse k_InvalidHouse
  have q_TooLarge : mg "TooLarge" = some (.ref (He.ga K "TooLarge")) := He.glo_ok X Gn (c.fact 39 (f := .glo "TooLarge") rfl)
  have k_TooLarge : clK K 12 = some (He.ga K "TooLarge", (["bound"] : List Str)) := rfl
  have g_TooLarge : Gc mg ⟨K, clK K⟩ "TooLarge" (.cls 12) := gcls_ok q_TooLarge k_TooLarge
  have q_UnknownPath : mg "UnknownPath" = some (.ref (He.ga K "UnknownPath")) := He.glo_ok X Gn (c.fact 40 (f := .glo "UnknownPath") rfl)
  have k_UnknownPath : clK K 14 = some (He.ga K "UnknownPath", (["path"] : List Str)) := rfl
  have g_UnknownPath : Gc mg ⟨K, clK K⟩ "UnknownPath" (.cls 14) := gcls_ok q_UnknownPath k_UnknownPath
  have q_BreachError : mg "BreachError" = some (.ref (He.ga K "BreachError")) := He.glo_ok X Gn (c.fact 41 (f := .glo "BreachError") rfl)
  have k_BreachError : clK K 10 = some (He.ga K "BreachError", ([] : List Str)) := rfl
  have g_BreachError : Gc mg ⟨K, clK K⟩ "BreachError" (.cls 10) := gcls_ok q_BreachError k_BreachError
  have sk_BadText := cv.sx 0 (s := sx_BadText) rfl
  obtain ⟨sT_BadText, sk1_BadText, sk2_BadText, sk3_BadText⟩ := sup_ok sk_BadText.1 sk_BadText.2 hP0 hT0 ⟨_, _, _, _, _, _, _, _, _, rfl, rfl, ⟨_, _, _, _, rfl⟩, ⟨_, _, _, _, rfl⟩, trivial⟩ (by decide +kernel) (by decide) rfl rfl (fun _ _ _ _ _ _ _ us hus => match us, hus with | [_, _, _], _ => BindsTo.of_eq rfl) rfl rfl (by decide +kernel) rfl rfl rfl (by decide +kernel)
  have R_BadText : RaI P K mg ⟨K, clK K⟩ "BadText" 16 ["line", "word"] := ⟨_, _, k_BadText, by decide, by decide, sT_BadText, q_BadText, sk1_BadText, sk2_BadText, sk3_BadText⟩
  have Y_BadText : TryC K mg ⟨K, clK K⟩ "BadText" mt_BadText := tryC_ok q_BadText fun p hp => by
    simp only [List.mem_cons, List.not_mem_nil, or_false] at hp
    subst hp
    · exact ⟨_, _, k_BadText, He.exm_ok (c.fact 42 (f := .exm "BadText" "BadText" true) rfl)⟩
  have h0 : clK K xix = none := by rfl
  have F_BadText_line : XfT K ⟨K, clK K⟩ 16 "line" 0 := fld_ok (cv.xf 8 (f := .fld "BadText" "line") rfl) k_BadText
  have F_BadText_word : XfT K ⟨K, clK K⟩ 16 "word" 1 := fld_ok (cv.xf 9 (f := .fld "BadText" "word") rfl) k_BadText
  have hXT : ∀ ci t b, xtab ci t = some b → IsT K ⟨K, clK K⟩ ci t b := xtab_ok fun p hp => by
    simp only [List.mem_cons, List.not_mem_nil, or_false] at hp
    rcases hp with rfl | rfl | rfl | rfl | rfl | rfl | rfl
    · exact isT_ok (cv.xf 1 (f := .isT "BadText" "BadAct" false) rfl) (cv.xf 0 (f := .ecc "BadText") rfl) k_BadText k_BadAct
    · exact isT_ok (cv.xf 2 (f := .isT "BadText" "BadRow" false) rfl) (cv.xf 0 (f := .ecc "BadText") rfl) k_BadText k_BadRow
    · exact isT_ok (cv.xf 3 (f := .isT "BadText" "InvalidHouse" false) rfl) (cv.xf 0 (f := .ecc "BadText") rfl) k_BadText k_InvalidHouse
    · exact isT_ok (cv.xf 4 (f := .isT "BadText" "TooLarge" false) rfl) (cv.xf 0 (f := .ecc "BadText") rfl) k_BadText k_TooLarge
    · exact isT_ok (cv.xf 5 (f := .isT "BadText" "UnknownPath" false) rfl) (cv.xf 0 (f := .ecc "BadText") rfl) k_BadText k_UnknownPath
    · exact isT_ok (cv.xf 6 (f := .isT "BadText" "BreachError" true) rfl) (cv.xf 0 (f := .ecc "BadText") rfl) k_BadText k_BreachError
    · exact isTy_ok (cv.xf 7 (f := .isTy "BadText" "ValueError" true) rfl) (cv.xf 0 (f := .ecc "BadText") rfl) k_BadText
  have g_MOST_ENTRIES : Gc mg ⟨K, clK K⟩ "MOST_ENTRIES" gv_MOST_ENTRIES := gB_ok X Gn (c.gc 0 (f := ("MOST_ENTRIES", gv_MOST_ENTRIES)) rfl)
  have g_MOST_ROWS : Gc mg ⟨K, clK K⟩ "MOST_ROWS" gv_MOST_ROWS := gB_ok X Gn (c.gc 1 (f := ("MOST_ROWS", gv_MOST_ROWS)) rfl)
  obtain ⟨fd_entries_of, F_entries_of⟩ := c.def_ 0 (d := dd_entries_of) rfl
  obtain ⟨fd_meaning, F_meaning⟩ := c.def_ 1 (d := dd_meaning) rfl
  obtain ⟨fd_word_at, F_word_at⟩ := c.def_ 2 (d := dd_word_at) rfl
  obtain ⟨fd_read_joint, F_read_joint⟩ := c.def_ 3 (d := dd_read_joint) rfl
  obtain ⟨fd_read_row, F_read_row⟩ := c.def_ 4 (d := dd_read_row) rfl
  obtain ⟨fd__law_cell, F__law_cell⟩ := c.def_ 5 (d := dd__law_cell) rfl
  obtain ⟨fd__law_draws, F__law_draws⟩ := c.def_ 6 (d := dd__law_draws) rfl
  obtain ⟨fd__law_entries, F__law_entries⟩ := c.def_ 7 (d := dd__law_entries) rfl
  obtain ⟨fd__law_row, F__law_row⟩ := c.def_ 8 (d := dd__law_row) rfl
  obtain ⟨fd__law_joint, F__law_joint⟩ := c.def_ 9 (d := dd__law_joint) rfl
  obtain ⟨fd__law_words, F__law_words⟩ := c.def_ 10 (d := dd__law_words) rfl
  obtain ⟨fd__law_same, F__law_same⟩ := c.def_ 11 (d := dd__law_same) rfl
  obtain ⟨fd__law_sign, F__law_sign⟩ := c.def_ 12 (d := dd__law_sign) rfl
  obtain ⟨fd__law_odd, F__law_odd⟩ := c.def_ 13 (d := dd__law_odd) rfl
  obtain ⟨fd__law_spoilt, F__law_spoilt⟩ := c.def_ 14 (d := dd__law_spoilt) rfl
  obtain ⟨fd__law_fits, F__law_fits⟩ := c.def_ 15 (d := dd__law_fits) rfl
  obtain ⟨fd__law_wrong_word, F__law_wrong_word⟩ := c.def_ 16 (d := dd__law_wrong_word) rfl
  obtain ⟨fd__law_is_joint, F__law_is_joint⟩ := c.def_ 17 (d := dd__law_is_joint) rfl
  obtain ⟨fd__law_refused_word, F__law_refused_word⟩ := c.def_ 18 (d := dd__law_refused_word) rfl
  obtain ⟨fd__law_right_word, F__law_right_word⟩ := c.def_ 19 (d := dd__law_right_word) rfl
  obtain ⟨fd_law, F_law⟩ := c.def_ 20 (d := dd_law) rfl
  have e := hfa.symm.trans (He.glo_ok X Gn (c.fact 20 (f := .glo "law") rfl))
  cases e
  have b := FunD.bindsA (ps := ["_law_script"]) F_law fun _ _ _ _ _ _ us hl => match us, hl with | [_], _ => rfl
  refine ⟨fd_law, fun s v => b s [v] rfl, fun base _ _ => ?_⟩
  have h_entries_of : Callee P w K mg base ⟨K, clK K⟩ 1 "entries_of" 1 false d_entries_of := ok_entries_of F_entries_of (He.glo_ok X Gn (c.fact 0 (f := .glo "entries_of") rfl)) B g_MOST_ENTRIES t_ENTRIES
  have h_meaning : Callee P w K mg base ⟨K, clK K⟩ 2 "meaning" 2 false d_meaning := ok_meaning F_meaning (He.glo_ok X Gn (c.fact 1 (f := .glo "meaning") rfl)) B t_BITS h_entries_of t_RUNS t_MORES
  have h_word_at : CalleeX P w K mg base ⟨K, clK K⟩ 1 "word_at" 2 false d_word_at := ok_word_at F_word_at (He.glo_ok X Gn (c.fact 2 (f := .glo "word_at") rfl)) B R_BadText
  have h_read_joint : CalleeX P w K mg base ⟨K, clK K⟩ 8 "read_joint" 3 false d_read_joint := ok_read_joint F_read_joint (He.glo_ok X Gn (c.fact 3 (f := .glo "read_joint") rfl)) B h_meaning h_word_at R_BadText g_MOST_ROWS
  have h_read_row : CalleeX P w K mg base ⟨K, clK K⟩ 9 "read_row" 1 false d_read_row := ok_read_row F_read_row (He.glo_ok X Gn (c.fact 4 (f := .glo "read_row") rfl)) B h_read_joint R_BadText
  have h__law_cell : Callee P w K mg base ⟨K, clK K⟩ 1 "_law_cell" 2 false d__law_cell := ok__law_cell F__law_cell (He.glo_ok X Gn (c.fact 5 (f := .glo "_law_cell") rfl)) B 
  have h__law_draws : Callee P w K mg base ⟨K, clK K⟩ 2 "_law_draws" 3 false d__law_draws := ok__law_draws F__law_draws (He.glo_ok X Gn (c.fact 6 (f := .glo "_law_draws") rfl)) B h__law_cell
  have h__law_entries : Callee P w K mg base ⟨K, clK K⟩ 1 "_law_entries" 1 false d__law_entries := ok__law_entries F__law_entries (He.glo_ok X Gn (c.fact 7 (f := .glo "_law_entries") rfl)) B 
  have h__law_row : Callee P w K mg base ⟨K, clK K⟩ 2 "_law_row" 2 false d__law_row := ok__law_row F__law_row (He.glo_ok X Gn (c.fact 8 (f := .glo "_law_row") rfl)) B h__law_entries
  have h__law_joint : Callee P w K mg base ⟨K, clK K⟩ 3 "_law_joint" 1 false d__law_joint := ok__law_joint F__law_joint (He.glo_ok X Gn (c.fact 9 (f := .glo "_law_joint") rfl)) B h__law_row
  have h__law_words : Callee P w K mg base ⟨K, clK K⟩ 5 "_law_words" 1 false d__law_words := ok__law_words F__law_words (He.glo_ok X Gn (c.fact 10 (f := .glo "_law_words") rfl)) B 
  have h__law_same : Callee P w K mg base ⟨K, clK K⟩ 5 "_law_same" 2 false d__law_same := ok__law_same F__law_same (He.glo_ok X Gn (c.fact 11 (f := .glo "_law_same") rfl)) B 
  have hH__law_same : CalleeH P w K mg base ⟨K, clK K⟩ 5 "_law_same" 2 d__law_same := okH__law_same F__law_same (He.glo_ok X Gn (c.fact 11 (f := .glo "_law_same") rfl)) B 
  have h__law_sign : Callee P w K mg base ⟨K, clK K⟩ 1 "_law_sign" 1 false d__law_sign := ok__law_sign F__law_sign (He.glo_ok X Gn (c.fact 12 (f := .glo "_law_sign") rfl)) B 
  have h__law_odd : Callee P w K mg base ⟨K, clK K⟩ 2 "_law_odd" 1 false d__law_odd := ok__law_odd F__law_odd (He.glo_ok X Gn (c.fact 13 (f := .glo "_law_odd") rfl)) B h__law_sign
  have h__law_spoilt : Callee P w K mg base ⟨K, clK K⟩ 1 "_law_spoilt" 5 false d__law_spoilt := ok__law_spoilt F__law_spoilt (He.glo_ok X Gn (c.fact 14 (f := .glo "_law_spoilt") rfl)) B 
  have h__law_fits : Callee P w K mg base ⟨K, clK K⟩ 1 "_law_fits" 2 false d__law_fits := ok__law_fits F__law_fits (He.glo_ok X Gn (c.fact 15 (f := .glo "_law_fits") rfl)) B 
  have h__law_wrong_word : Callee P w K mg base ⟨K, clK K⟩ 2 "_law_wrong_word" 1 false d__law_wrong_word := ok__law_wrong_word F__law_wrong_word (He.glo_ok X Gn (c.fact 16 (f := .glo "_law_wrong_word") rfl)) B h__law_fits
  have h__law_is_joint : Callee P w K mg base ⟨K, clK K⟩ 6 "_law_is_joint" 2 false d__law_is_joint := ok__law_is_joint F__law_is_joint (He.glo_ok X Gn (c.fact 17 (f := .glo "_law_is_joint") rfl)) B 
  have h__law_refused_word : Callee P w K mg base ⟨K, clK K⟩ 10 "_law_refused_word" 2 false d__law_refused_word := ok__law_refused_word F__law_refused_word (He.glo_ok X Gn (c.fact 18 (f := .glo "_law_refused_word") rfl)) B Y_BadText h0 h_read_row hXT g_BadAct g_BadRow g_InvalidHouse g_TooLarge g_UnknownPath g_BreachError F_BadText_line F_BadText_word hH__law_same
  have h__law_right_word : CalleeX P w K mg base ⟨K, clK K⟩ 11 "_law_right_word" 1 false d__law_right_word := ok__law_right_word F__law_right_word (He.glo_ok X Gn (c.fact 19 (f := .glo "_law_right_word") rfl)) B h__law_wrong_word h__law_refused_word h_read_row h__law_is_joint h__law_words
  exact ok_law F_law (He.glo_ok X Gn (c.fact 20 (f := .glo "law") rfl)) B h__law_draws h__law_words h__law_joint h__law_row h__law_spoilt h__law_odd h__law_right_word
end Pf
namespace Pf
open M PySem L2
local macro_rules
  | `(tactic| simp? only [$ls,*]) => `(tactic| (try simp only [↓k_guard, k_no, k_I, k_S, k_B, k_N, k_G, k_Y, k_V, k_W, k_O, g0_z, g0_s, gA_z, gA_s, g1_z, g1_s, k_1, k_2, k_n, k_c, k_T, k_L, k_C, k_f1, k_f2, k_App, k_M, k_P, k_3, k_tB, k_tT, k_toB, k_tNo, k_tA, k_tO, k_tY, k_And, k_Or, k_Not, k_eIf, k_nil, k_seq, k_set, k_own, k_drop, k_ret, k_retN, k_retO, k_if, k_fz, fz_z, fz_s, k_gN, k_gsN, k_gsC, k_gT, k_asg, k_for, k_fnil, k_fcons, k_app, oL_z, oL_s, k_par, k_run, k_runN, k_fld, oO_z, k_add, k_addL, k_sub, k_mul, k_div, k_mod, k_pow, k_neg, k_lt, k_le, k_gt, k_ge, k_eqI, k_neI, k_int, k_intB, k_abs, k_lenL, k_lenT, k_lenC, k_tru, k_tupL, k_tupT, k_items_l, k_items_t, k_rng1, k_ixL, k_ixT, k_ixC, k_fldD, ok_nox, ok_ok, ok_bind, List.set_cons_zero, List.set_cons_succ, startS, startN, List.map_cons, List.map_nil, List.cons_append, List.nil_append, List.append_nil, List.length_cons, List.length_nil, List.replicate, Nat.reduceSub, Nat.reduceAdd, Nat.reduceLeDiff, Nat.zero_add, true_and, and_true, false_implies, true_implies, implies_true, forall_const, reduceCtorEq, Bool.not_true, Bool.not_false, Bool.not_eq_true', ↓k_guardX, k_truT, k_truL, k_truI, k_eGet2, k_putA, oD_z, oD_s, k_putK, k_putS, k_putT2, k_addT, k_addLL, k_CX, k_CXK, k_MX, k_lstL, k_lstT, k_boolL, k_boolT, k_LM, k_lstE, k_hasB, k_eHas, k_itemsQ, k_lenQ, k_ixQ, k_srtQ, k_parO, k_aug, bothI_i, k_ext, ixA_l, ixA_t, ixA_c, inA_l, inA_t, inA_s, notInA_l, notInA_t, notInA_s, k_inI, k_inIT, k_ninI, k_ninIT, k_srtI, k_srtIT, k_isL, k_isT, k_isS, List.getElem?_cons_zero, List.getElem?_cons_succ, Option.some.injEq, exists_eq_left', k_Sl, k_oN, k_oS, k_toI, k_slL, k_slT, cut_map, take_mapD, drop_mapD, dec_self, decide_true, decide_false, wipeS, List.length_map, List.set_nil, sz0, sz1, sz2, sz3, sz4, sz5, sz6, sz7, sz8, sz9, $ls,*]))
local macro_rules
  | `(tactic| dsimp? only [$ls,*]) => `(tactic| (try simp only [↓k_guard, k_no, k_I, k_S, k_B, k_N, k_G, k_Y, k_V, k_W, k_O, g0_z, g0_s, gA_z, gA_s, g1_z, g1_s, k_1, k_2, k_n, k_c, k_T, k_L, k_C, k_f1, k_f2, k_App, k_M, k_P, k_3, k_tB, k_tT, k_toB, k_tNo, k_tA, k_tO, k_tY, k_And, k_Or, k_Not, k_eIf, k_nil, k_seq, k_set, k_own, k_drop, k_ret, k_retN, k_retO, k_if, k_fz, fz_z, fz_s, k_gN, k_gsN, k_gsC, k_gT, k_asg, k_for, k_fnil, k_fcons, k_app, oL_z, oL_s, k_par, k_run, k_runN, k_fld, oO_z, k_add, k_addL, k_sub, k_mul, k_div, k_mod, k_pow, k_neg, k_lt, k_le, k_gt, k_ge, k_eqI, k_neI, k_int, k_intB, k_abs, k_lenL, k_lenT, k_lenC, k_tru, k_tupL, k_tupT, k_items_l, k_items_t, k_rng1, k_ixL, k_ixT, k_ixC, k_fldD, ok_nox, ok_ok, ok_bind, List.set_cons_zero, List.set_cons_succ, startS, startN, List.map_cons, List.map_nil, List.cons_append, List.nil_append, List.append_nil, List.length_cons, List.length_nil, List.replicate, Nat.reduceSub, Nat.reduceAdd, Nat.reduceLeDiff, Nat.zero_add, true_and, and_true, false_implies, true_implies, implies_true, forall_const, reduceCtorEq, Bool.not_true, Bool.not_false, Bool.not_eq_true', $ls,*]))
set_option Elab.async false
set_option linter.all false
set_option maxRecDepth 100000
open M PySem L2
theorem p_cell (ns : List Int) (at_ : Int) (ha : 0 ≤ at_) : Ok (d__law_cell [.scr ns, .int at_]) fun d => ∃ z : Int, d = .int z := by
  unfold d__law_cell m__law_cell
  rw [ok_nox, k_run]
  dsimp? only []
  refine ⟨fun h => ?_, fun h => ⟨fun h2 => ⟨_, rfl⟩, fun h2 => ?_⟩⟩
  · obtain ⟨d, hd⟩ := atI_lt ha (of_decide_eq_true h)
    exact ⟨d, hd, _, rfl⟩
  · have h2 := of_decide_eq_false h2
    have hm := mod_b at_ (m := (ns.length : Int)) (by omega)
    obtain ⟨d, hd⟩ := atI_lt (xs := ns) (i := at_ % (ns.length : Int)) hm.1 hm.2
    exact ⟨by omega, d, hd, mul_l (by omega) (by omega), _, rfl⟩
theorem p_draws (ns : List Int) (at_ : Int) (cnt : Nat) (ha : 0 ≤ at_) (ha2 : at_ < 100) (hc : cnt ≤ 100) : Ok (d__law_draws [.scr ns, .int at_, .int cnt]) (drawn cnt) := by
  have hs := size_ge
  unfold d__law_draws m__law_draws
  rw [ok_nox, k_run]
  refine Ok.mono (P := fun z => ∃ d, z.1 = .rt d ∧ drawn cnt d) ?_ fun z ⟨d, e, h⟩ => by rw [e]; exact h
  refine seq_cut (fun S => ∃ cell : Int, S = [(some (Sl.mk false (.scr ns))), (some (Sl.mk false (.int at_))), (some (Sl.mk false (.int cnt))), (some (Sl.mk false (.int cell))), none, none, none, none]) ?_ ?_
  · dsimp? only []
    refine (p_cell ns at_ ha).mono ?_
    rintro d ⟨z, rfl⟩
    dsimp? only []
    exact ⟨_, rfl⟩
  rintro S ⟨cell, rfl⟩
  refine seq_cut (fun S => S = [(some (Sl.mk false (.scr ns))), (some (Sl.mk false (.int at_))), (some (Sl.mk false (.int cnt))), (some (Sl.mk false (.int cell))), (some (Sl.mk false (.int 0))), none, none, none]) (by dsimp? only []) ?_
  rintro S rfl
  refine seq_cut (fun S => ∃ rest : Int, S = [(some (Sl.mk false (.scr ns))), (some (Sl.mk false (.int at_))), (some (Sl.mk false (.int cnt))), (some (Sl.mk false (.int cell))), (some (Sl.mk false (.int rest))), none, none, none]) ?_ ?_
  · dsimp? only []
    exact ⟨⟨by omega, by omega, by decide⟩, fun _ => ⟨⟨by omega, by omega, by decide⟩, _, rfl⟩, fun _ => ⟨_, rfl⟩⟩
  rintro S ⟨rest, rfl⟩
  refine seq_cut (fun S => S = [(some (Sl.mk false (.scr ns))), (some (Sl.mk false (.int at_))), (some (Sl.mk false (.int cnt))), (some (Sl.mk false (.int cell))), (some (Sl.mk false (.int rest))), (some (Sl.mk true (.lst []))), none, none]) (by dsimp? only []; omega) ?_
  rintro S rfl
  refine seq_cut (fun S => ∃ (l : List Int) (r a b : Option Sl), (l.length = cnt ∧ ∀ x ∈ l, 0 ≤ x ∧ x < 720720) ∧ S = [(some (Sl.mk false (.scr ns))), (some (Sl.mk false (.int at_))), (some (Sl.mk false (.int cnt))), (some (Sl.mk false (.int cell))), r, (some (Sl.mk true (.lst (l.map .int)))), a, b]) ?_ ?_
  · dsimp? only []
    refine ⟨⟨by omega, by omega⟩, ?_⟩
    refine for_inv (fun i S => ∃ (l : List Int) (rest : Int) (a b : Option Sl), (l.length = i ∧ ∀ x ∈ l, 0 ≤ x ∧ x < 720720) ∧ S = [(some (Sl.mk false (.scr ns))), (some (Sl.mk false (.int at_))), (some (Sl.mk false (.int cnt))), (some (Sl.mk false (.int cell))), (some (Sl.mk false (.int rest))), (some (Sl.mk true (.lst (l.map .int)))), a, b]) _ 0 _ ⟨[], rest, none, none, ⟨rfl, by simp⟩, rfl⟩ ?_ ?_
    · rintro i d S hd ⟨l, rest, a, b, hl, rfl⟩
      obtain ⟨hi, rfl⟩ := rngL_get hd
      simp only [Int.toNat_natCast] at hi
      rw [Nat.zero_add] at hl
      have hll : (l.map D.int).length < sizeLine := by rw [List.length_map, hl.1]; omega
      dsimp? only []
      refine ⟨fun h1 => ⟨by omega, hll, div_c (by omega) (by omega), l ++ [rest % 60], _, _, _, drawn.snoc hl ?_, by rw [List.map_append]; rfl⟩, fun h1 => ?_⟩
      · have := mod_b rest (m := 60) (by omega); omega
      · refine ⟨mul_r (by omega) (by omega), mul_l (by omega) (by omega), mul_l (by omega) (by omega), by omega, ?_⟩
        have m1 := mod_b (cell * 48271 + (0 + (i : Int)) * 69621 + at_ * 7919 + 12345) (m := 2147483647) (by omega)
        generalize (cell * 48271 + (0 + (i : Int)) * 69621 + at_ * 7919 + 12345) % 2147483647 = x1 at m1
        refine ⟨mul_l (by omega) (by omega), div_c (by omega) (by omega), mul_l (by omega) (by omega), by omega, ?_⟩
        generalize (x1 * 40692 + x1 / 127 + (0 + (i : Int)) * 101) % 2147483399 = x3
        have m4 := mod_b (x3 / 11) (m := 60) (by omega)
        exact ⟨div_c (by omega) (by omega), by omega, hll, l ++ [x3 / 11 % 60], _, _, _, drawn.snoc hl ⟨by omega, by omega⟩, by rw [List.map_append]; rfl⟩
    · rintro S ⟨l, rest, a, b, hl, rfl⟩
      rw [rngL_len, Nat.zero_add, Int.toNat_natCast] at hl
      exact ⟨rfl, l, _, a, b, hl, rfl⟩
  rintro S ⟨l, r, a, b, hl, rfl⟩
  dsimp? only []
  exact ⟨_, rfl, l, rfl, hl.1, hl.2⟩
structure RowT where
  bit : Int
  cs : List Int
  ran : Int
  more : Int
structure RowT.Ok (r : RowT) : Prop where
  b : r.bit = 0 ∨ r.bit = 1
  l : r.cs.length ≤ 3
  c : ∀ c ∈ r.cs, c = -1 ∨ c = 0 ∨ c = 1
  n : r.ran = -1 ∨ r.ran = 0 ∨ r.ran = 1 ∨ r.ran = 2
  m : r.more = 0 ∨ r.more = 1
def csD (cs : List Int) : D := .tup (cs.map .int)
def rowD (r : RowT) : D := .tup [.int r.bit, csD r.cs, .int r.ran, .int r.more]
def jD (r : RowT) (gs : List D) : D := .tup [rowD r, .tup gs]
theorem p_entries (n : Int) (h0 : 0 ≤ n) (h1 : n < 40) : Ok (d__law_entries [.int n]) fun d => ∃ cs : List Int, d = csD cs ∧ cs.length ≤ 3 ∧ ∀ c ∈ cs, c = -1 ∨ c = 0 ∨ c = 1 := by
  have hs := size_ge
  unfold d__law_entries m__law_entries
  rw [ok_nox, k_run]
  refine Ok.mono (P := fun z => ∃ d, z.1 = .rt d ∧ ∃ cs : List Int, d = csD cs ∧ cs.length ≤ 3 ∧ ∀ c ∈ cs, c = -1 ∨ c = 0 ∨ c = 1) ?_ fun z ⟨d, e, h⟩ => by rw [e]; exact h
  refine seq_cut (fun S => ∃ k : Nat, k ≤ 3 ∧ S = [(some (Sl.mk false (.int n))), (some (Sl.mk false (.int k))), none, none, none, none]) ?_ ?_
  · rw [k_set, k_C, k_c]
    refine k_lcT (fun x : Int => D.int x) (fun x => decide (x ≤ n)) (fun x : Int => .int x) [1, 4, 13] (by dsimp? only []; omega) (by simp; omega) (by intro x hx; dsimp? only [wipeS]) ?_
    dsimp? only [List.length_map]
    have : (([1, 4, 13] : List Int).filter fun x => decide (x ≤ n)).length ≤ 3 := List.length_filter_le ..
    exact ⟨_, this, rfl⟩
  rintro S ⟨k, hk, rfl⟩
  refine seq_cut (fun S => ∃ r : Int, S = [(some (Sl.mk false (.int n))), (some (Sl.mk false (.int k))), (some (Sl.mk false (.int r))), none, none, none]) ?_ ?_
  · dsimp? only []
    refine ⟨by omega, ?_⟩
    obtain ⟨d, hd⟩ := atI_lt (xs := ([0, 1, 4, 13] : List Int).map D.int) (i := (k : Int)) (by omega) (by simp; omega)
    obtain ⟨e, he, rfl⟩ := List.mem_map.mp (atI_mem hd)
    exact ⟨_, hd, by dsimp? only []; exact ⟨_, rfl⟩⟩
  rintro S ⟨r, rfl⟩
  refine seq_cut (fun S => S = [(some (Sl.mk false (.int n))), (some (Sl.mk false (.int k))), (some (Sl.mk false (.int r))), (some (Sl.mk true (.lst []))), none, none]) (by dsimp? only []; omega) ?_
  rintro S rfl
  refine seq_cut (fun S => ∃ (cs : List Int) (a b : Option Sl), cs.length = k ∧ (∀ c ∈ cs, c = -1 ∨ c = 0 ∨ c = 1) ∧ S = [(some (Sl.mk false (.int n))), (some (Sl.mk false (.int k))), a, (some (Sl.mk true (.lst (cs.map .int)))), b, none]) ?_ ?_
  · dsimp? only []
    refine ⟨⟨by omega, by omega⟩, ?_⟩
    refine for_inv (fun i S => ∃ (cs : List Int) (r : Int) (b : Option Sl), cs.length = i ∧ (∀ c ∈ cs, c = -1 ∨ c = 0 ∨ c = 1) ∧ S = [(some (Sl.mk false (.int n))), (some (Sl.mk false (.int k))), (some (Sl.mk false (.int r))), (some (Sl.mk true (.lst (cs.map .int)))), b, none]) _ 0 _ ⟨[], r, none, rfl, by simp, rfl⟩ ?_ ?_
    · rintro i d S hd ⟨cs, r, b, hl, hm, rfl⟩
      obtain ⟨hi, rfl⟩ := rngL_get hd
      simp only [Int.toNat_natCast] at hi
      rw [Nat.zero_add] at hl
      have m := mod_b r (m := 3) (by omega)
      dsimp? only []
      refine ⟨by omega, by rw [List.length_map]; omega, div_c (by omega) (by omega), cs ++ [r % 3 - 1], _, _, by simp [hl], ?_, by rw [List.map_append]; rfl⟩
      intro c hc
      rcases List.mem_append.mp hc with h | h
      · exact hm c h
      · rw [List.mem_singleton] at h; subst h; omega
    · rintro S ⟨cs, r, b, hl, hm, rfl⟩
      rw [rngL_len, Nat.zero_add, Int.toNat_natCast] at hl
      exact ⟨rfl, cs, _, b, hl, hm, rfl⟩
  rintro S ⟨cs, a, b, hl, hm, rfl⟩
  dsimp? only []
  exact ⟨_, rfl, cs, rfl, by omega, hm⟩
theorem p_row (a b : Int) (ha : 0 ≤ a) : Ok (d__law_row [.int a, .int b]) fun d => ∃ r : RowT, r.Ok ∧ d = rowD r := by
  have hs := size_ge
  unfold d__law_row m__law_row
  rw [ok_nox, k_run]
  have m1 := mod_b a (m := 2) (by omega)
  have m2 := mod_b b (m := 40) (by omega)
  have m3 := mod_b (a / 2) (m := 4) (by omega)
  have m4 := mod_b (a / 8) (m := 2) (by omega)
  dsimp? only []
  refine ⟨by omega, by omega, ?_⟩
  refine (p_entries (b % 40) m2.1 m2.2).mono ?_
  rintro d ⟨cs, rfl, hl, hc⟩
  dsimp? only []
  exact ⟨div_c (by omega) (by omega), by omega, div_c (by omega) (by omega), by omega, by omega, ⟨a % 2, cs, a / 2 % 4 - 1, a / 8 % 2⟩, ⟨by dsimp only; omega, hl, hc, by dsimp only; omega, by dsimp only; omega⟩, rfl⟩
inductive JT : D → Prop where
  | one (r : RowT) : r.Ok → JT (jD r [])
  | two (r s : RowT) : r.Ok → s.Ok → JT (jD r [jD s []])
  | side (r s t : RowT) : r.Ok → s.Ok → t.Ok → JT (jD r [jD s [], jD t []])
  | deep (r s t : RowT) : r.Ok → s.Ok → t.Ok → JT (jD r [jD s [jD t []]])
theorem p_joint (d0 : D) (hd : drawn 7 d0) : Ok (d__law_joint [d0]) JT := by
  have hs := size_ge
  unfold d__law_joint m__law_joint
  rw [ok_nox, k_run]
  refine Ok.mono (P := fun z => ∃ d, z.1 = .rt d ∧ JT d) ?_ fun z ⟨d, e, h⟩ => by rw [e]; exact h
  refine seq_cut (fun S => ∃ r s t : RowT, r.Ok ∧ s.Ok ∧ t.Ok ∧ S = [(some (Sl.mk false (d0))), (some (Sl.mk false (.lst [rowD r, rowD s, rowD t]))), none, none]) ?_ ?_
  · rw [k_set]
    refine k_lcA (P := fun d => ∃ r : RowT, r.Ok ∧ d = rowD r) 3 (by omega) ?_ ?_
    · dsimp? only []
      refine ⟨⟨by omega, by omega⟩, by rw [rngL_len]; rfl, ?_⟩
      intro d hdd
      obtain ⟨j, hj⟩ := List.getElem?_of_mem hdd
      obtain ⟨hj, rfl⟩ := rngL_get hj
      have hj3 : j < 3 := by omega
      dsimp? only [wipeS]
      refine ⟨mul_l (by omega) (by omega), ?_⟩
      refine (hd.ix (by omega) (by omega)).mono ?_
      rintro z ⟨x, rfl, x0, _⟩
      refine ⟨mul_l (by omega) (by omega), ?_⟩
      refine (hd.ix (by omega) (by omega)).mono ?_
      rintro z ⟨y, rfl, _, _⟩
      exact p_row x y x0
    · intro ys hy hp
      match ys, hy with
      | [a, b, c], _ =>
        obtain ⟨r, hr, rfl⟩ := hp a (by simp)
        obtain ⟨s, hs', rfl⟩ := hp b (by simp)
        obtain ⟨t, ht, rfl⟩ := hp c (by simp)
        exact ⟨rfl, r, s, t, hr, hs', ht, rfl⟩
  rintro S ⟨r, s, t, hr, hs', ht, rfl⟩
  refine seq_cut (fun S => ∃ w : Int, S = [(some (Sl.mk false (d0))), (some (Sl.mk false (.lst [rowD r, rowD s, rowD t]))), (some (Sl.mk false (.int w))), none]) ?_ ?_
  · dsimp? only []
    refine (hd.ix (by omega) (by omega)).mono ?_
    rintro z ⟨x, rfl, x0, _⟩
    dsimp? only []
    exact ⟨by omega, _, rfl⟩
  rintro S ⟨w, rfl⟩
  have i0 : ∀ {Q : D → Prop}, Ok (ixD (.lst [rowD r, rowD s, rowD t]) (.int 0)) Q ↔ Q (rowD r) := fun {Q} => ok_ok
  have i1 : ∀ {Q : D → Prop}, Ok (ixD (.lst [rowD r, rowD s, rowD t]) (.int 1)) Q ↔ Q (rowD s) := fun {Q} => ok_ok
  have i2 : ∀ {Q : D → Prop}, Ok (ixD (.lst [rowD r, rowD s, rowD t]) (.int 2)) Q ↔ Q (rowD t) := fun {Q} => ok_ok
  have two : 2 ≤ sizeLine := by omega
  have o0 : ∀ q : Prop, q → (∃ d, L2.atI [rowD r, rowD s, rowD t] 0 = some d ∧ d = rowD r ∧ q) := fun q hq => ⟨_, rfl, rfl, hq⟩
  simp only [k_seq, k_if, k_tB, k_2, k_W, gA_z, gA_s, k_I, k_eqI, k_toB, k_ret, k_T, k_c, k_n, i0, i1, i2, k_nil]
  refine ⟨fun _ => ⟨by simp <;> omega, by simp <;> omega, _, rfl, .one r hr⟩, fun _ => ⟨fun _ => ?_, fun _ => ⟨fun _ => ?_, fun _ => ?_⟩⟩⟩
  · exact ⟨by simp <;> omega, by simp <;> omega, by simp <;> omega, by simp <;> omega, _, rfl, .two r s hr hs'⟩
  · exact ⟨by simp <;> omega, by simp <;> omega, by simp <;> omega, by simp <;> omega, by simp <;> omega, by simp <;> omega, _, rfl, .side r s t hr hs' ht⟩
  · exact ⟨by simp <;> omega, by simp <;> omega, by simp <;> omega, by simp <;> omega, by simp <;> omega, by simp <;> omega, _, rfl, .deep r s t hr hs' ht⟩
set_option Elab.async false
set_option linter.all false
set_option maxRecDepth 100000
open M PySem L2
def OkX {α : Type} (r : R α) (Q : α → Prop) (E : Exc → Prop) : Prop := match r with
  | .ok a => Q a
  | .exc x => E x
  | .fail => False
section
variable {α β : Type} {Q : α → Prop} {E : Exc → Prop} {S : M.Env} {QS : Fl × M.Env → Prop} {QD : D → Prop}
theorem ox_ok {r : R α} (h : Ok r Q) : OkX r Q E := by obtain ⟨a, e, q⟩ := h; rw [e]; exact q
theorem ox_exc {r : R α} {x : Exc} (e : r = .exc x) (h : E x) : OkX r Q E := by rw [e]; exact h
theorem OkX.mono {r : R α} {P : α → Prop} {F : Exc → Prop} (h : OkX r P F) (k : ∀ a, P a → Q a) (l : ∀ x, F x → E x) : OkX r Q E := by
  cases r with
  | ok a => exact k a h
  | exc x => exact l x h
  | fail => exact h
theorem OkX.monoL {r : R α} {P : α → Prop} (h : OkX r P E) (k : ∀ a, P a → Q a) : OkX r Q E := h.mono k fun _ z => z
theorem ox_bind {r : R β} {f : β → R α} (h : OkX r (fun b => OkX (f b) Q E) E) : OkX (r >>= f) Q E := by
  cases r with
  | ok b => exact h
  | exc x => exact h
  | fail => exact h
theorem ox_nox {r : R α} (h : Ok r Q) : OkX r.nox Q E := by obtain ⟨a, e, q⟩ := h; rw [e]; exact q
theorem ox_cut {s r : FS} (P : M.Env → Prop) (h : OkX (s S) (fun z => z.1 = .nx ∧ P z.2) E) (k : ∀ S', P S' → OkX (r S') QS E) : OkX (sSeq s r S) QS E := by
  unfold sSeq
  refine ox_bind (h.monoL ?_)
  rintro ⟨fl, S'⟩ ⟨rfl, p⟩
  exact k S' p
theorem ox_if {t : FT} {s r : FS} (h : OkX (t S) (fun b => (b = true → OkX (s S) QS E) ∧ (b = false → OkX (r S) QS E)) E) : OkX (sIf t s r S) QS E := by
  unfold sIf
  refine ox_bind (h.monoL fun b hb => ?_)
  cases b with
  | true => exact hb.1 rfl
  | false => exact hb.2 rfl
theorem ox_set {i : Nat} {f : FE} (h : OkX (f S) (fun d => QS (.nx, S.set i (some ⟨false, d⟩))) E) : OkX (sSet i f S) QS E := by
  unfold sSet
  exact ox_bind (h.monoL fun d q => q)
theorem ox_asg {g : FG} {f : FE} (h : OkX (f S) (fun d => Ok (g d S) fun S' => QS (.nx, S')) E) : OkX (sAsg g f S) QS E := by
  unfold sAsg
  refine ox_bind (h.monoL fun d q => ?_)
  obtain ⟨S', e, q⟩ := q
  rw [e]
  exact q
theorem ox_excI {ci n : Nat} {fa : FA} (h : Ok (fa S) fun ds => ds.length = n ∧ E ⟨ci, ds⟩) : OkX (sExcI ci n fa S) QS E := by
  obtain ⟨ds, e, hl, q⟩ := h
  unfold sExcI
  rw [e, R.ok_bind, if_pos hl]
  exact q
theorem ox_C {o : List D → R D} {g : FA} (h : OkX (g S) (fun xs => Ok (o xs) QD) E) : OkX (eC o g S) QD E := by
  unfold eC
  exact ox_bind (h.monoL fun xs q => ox_nox q)
theorem ox_CX {o : List D → R D} {g : FA} (h : OkX (g S) (fun xs => OkX (o xs) QD E) E) : OkX (eCX o g S) QD E := by
  unfold eCX
  exact ox_bind h
theorem ox_c {f : FE} {g : FA} {QL : List D → Prop} (h : OkX (f S) (fun x => OkX (g S) (fun xs => QL (x :: xs)) E) E) : OkX (aC f g S) QL E := by
  unfold aC
  exact ox_bind (h.monoL fun x q => ox_bind (q.monoL fun xs z => z))
theorem ox_2 {o : D → D → R D} {f g : FE} (h : OkX (f S) (fun x => Ok (g S) fun y => Ok (o x y) QD) E) : OkX (e2 o f g S) QD E := by
  unfold e2
  refine ox_bind (h.monoL fun x q => ?_)
  obtain ⟨y, e, q⟩ := q
  rw [e]
  exact ox_nox q
theorem ox_tB {f : FE} {QB : Bool → Prop} (h : OkX (f S) (fun d => Ok (toB d) QB) E) : OkX (tB' f S) QB E := by
  unfold tB'
  refine ox_bind (h.monoL fun x q => ?_)
  first | exact ox_nox q | exact ox_ok q
theorem ox_run {n : Nat} {s : FS} {ds : List D} (h : OkX (s (startS n ds)) (fun z => ∃ d, z.1 = .rt d ∧ QD d) E) : OkX (runF false n s ds) QD E := by
  cases e : s (startS n ds) with
  | ok z =>
    rw [e] at h
    obtain ⟨fl, S1⟩ := z
    obtain ⟨d, e1, q⟩ := h
    dsimp only at e1
    subst e1
    refine ox_ok ?_
    rw [k_run, e]
    exact ok_ok.mpr q
  | exc x =>
    rw [e] at h
    refine ox_exc (x := x) ?_ h
    unfold runF; rw [e]; rfl
  | fail => rw [e] at h; exact h.elim
theorem ox_for {ga : FG} {s : FS} (P : Nat → M.Env → Prop) : ∀ (ds : List D) (n : Nat) (S : M.Env), P n S → (∀ i d S, ds[i]? = some d → P (n + i) S → Ok (ga d S) fun S1 => OkX (s S1) (fun z => z.1 = .nx ∧ P (n + i + 1) z.2) E) →
    (∀ S, P (n + ds.length) S → QS (.nx, S)) → OkX (forF ga s ds S) QS E
  | [], n, S, h, _, q => q S h
  | d :: ds, n, S, h, k, q => by
    obtain ⟨S1, e1, h1⟩ := k 0 d S rfl h
    show OkX ((ga d S).nox >>= _) QS E
    rw [e1, R.nox_ok, R.ok_bind]
    refine ox_bind (h1.monoL ?_)
    rintro ⟨fl, S'⟩ ⟨rfl, p⟩
    refine ox_for P ds (n + 1) S' p (fun i d' S'' hi hp => ?_) fun S'' h => q S'' (by rwa [List.length_cons, show n + (ds.length + 1) = n + 1 + ds.length by omega])
    have := k (i + 1) d' S'' (by simpa using hi) (by rwa [show n + (i + 1) = n + 1 + i by omega])
    rwa [show n + (i + 1) + 1 = n + 1 + i + 1 by omega] at this
theorem ox_sFor {fi : FI} {ga : FG} {s : FS} (h : Ok (fi S) fun ds => OkX (forF ga s ds S) QS E) : OkX (sFor fi ga s S) QS E := by
  obtain ⟨ds, e, q⟩ := h
  unfold sFor
  rw [e]
  exact q
theorem ox_while {t : FT} {s : FS} {n : Nat} (h : Ok (t S) fun b => (b = true → OkX (s S) (fun z => z.1 = .nx ∧ OkX (whileF t s n z.2) QS E) E) ∧ (b = false → QS (.nx, S))) : OkX (whileF t s (n + 1) S) QS E := by
  obtain ⟨b, e, h1, h2⟩ := h
  show OkX (t S >>= _) QS E
  rw [e, R.ok_bind]
  cases b with
  | false => exact h2 rfl
  | true =>
    rw [if_pos rfl]
    refine ox_bind ((h1 rfl).monoL ?_)
    rintro ⟨fl, S'⟩ ⟨rfl, p⟩
    exact p
end
set_option Elab.async false
set_option linter.all false
set_option maxRecDepth 100000
open M PySem L2
def code (n : Int) : Nat := if n = -1 then 46 else if n = 0 then 48 else if n = 1 then 49 else 50
def ew (cs : List Int) : Str := if cs = [] then "-" else tx (cs.map code)
def mw (m : Int) : Str := if m = 1 then "+" else "."
def rowW (r : RowT) : List Str := [sg (code r.bit), ew r.cs, sg (code r.ran), mw r.more]
def gflat : List (List Str) → List Str
  | [] => []
  | ws :: r => ("(" : Str) :: (ws ++ [(")" : Str)]) ++ gflat r
theorem gflat_app : ∀ (a b : List (List Str)), gflat (a ++ b) = gflat a ++ gflat b
  | [], b => rfl
  | x :: a, b => by simp only [List.cons_append, gflat, gflat_app a b, List.append_assoc]
theorem ix01 {n : Int} (h : n = -1 ∨ n = 0 ∨ n = 1) : ixD (.str ".01") (.int (n + 1)) = .ok (.str (sg (code n))) := by rcases h with rfl | rfl | rfl <;> kernel_rfl
theorem ix012 {n : Int} (h : n = -1 ∨ n = 0 ∨ n = 1 ∨ n = 2) : ixD (.str ".012") (.int (n + 1)) = .ok (.str (sg (code n))) := by rcases h with rfl | rfl | rfl | rfl <;> kernel_rfl
theorem ixb {n : Int} (h : n = 0 ∨ n = 1) : ixD (.str "01") (.int n) = .ok (.str (sg (code n))) := by rcases h with rfl | rfl <;> kernel_rfl
theorem ixm {n : Int} (h : n = 0 ∨ n = 1) : ixD (.str ".+") (.int n) = .ok (.str (mw n)) := by rcases h with rfl | rfl <;> kernel_rfl
theorem k_gj {r : RowT} {gs : List D} {g : FGs} {S : M.Env} {QE : M.Env → Prop} : Ok (gT 2 g (jD r gs) S) QE ↔ Ok (g [rowD r, .tup gs] S) QE := by
  show Ok (gT 2 g (.tup [rowD r, .tup gs]) S) QE ↔ _
  rw [k_gT]; simp
theorem k_itC {cs : List Int} {Q : List D → Prop} : Ok (itemsD (csD cs)) Q ↔ Q (cs.map .int) := ok_ok
theorem map_code (cs : List Int) : cs.map (fun n => D.str (sg (code n))) = (cs.map code).map fun c => D.str (sg c) := by rw [List.map_map]; rfl
theorem join_cs {cs : List Int} (hl : cs.length ≤ 3) {fi : FI} {i : Nat} {f : FE} {S : M.Env} {Q : D → Prop} (hi : Ok (fi S) fun ds => ds = cs.map .int) (h : ∀ n ∈ cs, Ok (gN i (.int n) (wipeS S [i])) fun S1 => Ok (f S1) fun y => y = .str (sg (code n))) (q : Q (.str (tx (cs.map code)))) :
    Ok (eM1 joinD (eS "") (lcE fi (gN i) tY f [i]) S) Q := by
  have hs := size_ge
  rw [k_eM1, k_S]
  refine ⟨rfl, ?_⟩
  refine k_lcM D.int (fun n => .str (sg (code n))) cs hi (by omega) h ?_
  rw [map_code, k_join _ (by rw [List.length_map]; omega)]
  exact q
def Wd (g : Nat → List D → R D) (n : Nat) (p : D × List Str) : Prop := p.2.length ≤ 100 ∧ Ok (g n [p.1]) fun d => d = .lst (p.2.map .str)
theorem flat_len : ∀ (l : List (List Str)), (∀ ws ∈ l, ws.length ≤ 100) → (gflat l).length ≤ 102 * l.length
  | [], _ => by simp [gflat]
  | ws :: l, h => by
    have h1 := h ws (by simp)
    have h2 := flat_len l fun x hx => h x (by simp [hx])
    simp only [gflat, List.length_append, List.length_cons, List.length_nil]
    omega
theorem step_lwords {n : Nat} {r : RowT} (hr : r.Ok) (gl : List (D × List Str)) (h : ∀ p ∈ gl, Wd d__law_words' n p) (hl : gl.length ≤ 5) : Ok (d__law_words' (n + 1) [jD r (gl.map (·.1))]) fun d => d = .lst ((rowW r ++ gflat (gl.map (·.2))).map .str) := by
  have hs := size_ge
  obtain ⟨hb, hcl, hc, hn, hm⟩ := hr
  show Ok ((runF false 7 (m__law_words (d__law_words' n)) _).nox) _
  unfold m__law_words
  rw [ok_nox, k_run]
  refine Ok.mono (P := fun z => z.1 = .rt (.lst ((rowW r ++ gflat (gl.map (·.2))).map .str))) ?_ fun z h => by rw [h]
  have r0 : ∀ {Q : D → Prop}, Ok (ixD (rowD r) (.int 0)) Q ↔ Q (.int r.bit) := fun {Q} => ok_ok
  have r1 : ∀ {Q : D → Prop}, Ok (ixD (rowD r) (.int 1)) Q ↔ Q (csD r.cs) := fun {Q} => ok_ok
  have r2 : ∀ {Q : D → Prop}, Ok (ixD (rowD r) (.int 2)) Q ↔ Q (.int r.ran) := fun {Q} => ok_ok
  have r3 : ∀ {Q : D → Prop}, Ok (ixD (rowD r) (.int 3)) Q ↔ Q (.int r.more) := fun {Q} => ok_ok
  have lC : ∀ {Q : D → Prop}, Ok (lenD (csD r.cs)) Q ↔ Q (.int r.cs.length) := fun {Q} => by
    show Ok (lenD (.tup (r.cs.map .int))) Q ↔ _
    rw [k_lenT, List.length_map]
  refine seq_cut (fun S => S = [(some (Sl.mk false (jD r (gl.map (·.1))))), (some (Sl.mk false (rowD r))), (some (Sl.mk false (.tup (gl.map (·.1))))), none, none, none, none]) (by dsimp? only [k_gj]) ?_
  rintro S rfl
  refine seq_cut (fun S => S = [(some (Sl.mk false (jD r (gl.map (·.1))))), (some (Sl.mk false (rowD r))), (some (Sl.mk false (.tup (gl.map (·.1))))), (some (Sl.mk false (.str (tx (r.cs.map code))))), none, none, none]) ?_ ?_
  · rw [k_set]
    refine join_cs hcl (by dsimp? only [r1, k_itC]) ?_ ⟨rfl, rfl⟩
    intro c hcm
    dsimp? only [wipeS]
    rw [ix01 (hc c hcm), ok_ok]
  rintro S rfl
  refine seq_cut (fun S => S = [(some (Sl.mk false (jD r (gl.map (·.1))))), (some (Sl.mk false (rowD r))), (some (Sl.mk false (.tup (gl.map (·.1))))), (some (Sl.mk false (.str (ew r.cs)))), none, none, none]) ?_ ?_
  · dsimp? only [r1, lC]
    unfold ew
    refine ⟨fun h0 => ?_, fun h0 => ?_⟩
    · have := of_decide_eq_true h0
      rw [if_pos (List.length_eq_zero_iff.mp (by omega))]
    · have := of_decide_eq_false h0
      rw [if_neg (fun e => this (by rw [e]; rfl))]
  rintro S rfl
  refine seq_cut (fun S => S = [(some (Sl.mk false (jD r (gl.map (·.1))))), (some (Sl.mk false (rowD r))), (some (Sl.mk false (.tup (gl.map (·.1))))), (some (Sl.mk false (.str (ew r.cs)))), (some (Sl.mk true (.lst ((rowW r).map .str)))), none, none]) ?_ ?_
  · dsimp? only [r0, r2, r3]
    rw [ixb hb, ok_ok]
    dsimp? only []
    rw [ix012 hn, ok_ok]
    dsimp? only [r3]
    rw [ixm hm, ok_ok]
    exact ⟨by first | omega | (simp <;> omega), rfl⟩
  rintro S rfl
  refine seq_cut (fun S => ∃ a, S = [(some (Sl.mk false (jD r (gl.map (·.1))))), (some (Sl.mk false (rowD r))), (some (Sl.mk false (.tup (gl.map (·.1))))), (some (Sl.mk false (.str (ew r.cs)))), (some (Sl.mk true (.lst ((rowW r ++ gflat (gl.map (·.2))).map .str)))), a, none]) ?_ ?_
  · dsimp? only []
    refine for_typed (fun p : D × List Str => p.1) (fun done S => ∃ a, S = [(some (Sl.mk false (jD r (gl.map (·.1))))), (some (Sl.mk false (rowD r))), (some (Sl.mk false (.tup (gl.map (·.1))))), (some (Sl.mk false (.str (ew r.cs)))), (some (Sl.mk true (.lst ((rowW r ++ gflat (done.map (·.2))).map .str)))), a, none]) gl _ ⟨none, by simp [gflat]⟩ ?_ ?_
    · rintro done p rest S e ⟨a, rfl⟩
      obtain ⟨pl, po⟩ := h p (by rw [e]; simp)
      have dl : (gflat (done.map (·.2))).length ≤ 102 * 5 := by
        have := flat_len (done.map (·.2)) (fun ws hw => by obtain ⟨q, hq, rfl⟩ := List.mem_map.mp hw; exact (h q (by rw [e]; simp [hq])).1)
        have l2 := congrArg List.length e
        simp only [List.length_append, List.length_cons] at l2
        rw [List.length_map] at this
        omega
      have wl : (rowW r).length = 4 := rfl
      rw [k_gN, k_ext]
      dsimp? only []
      refine ⟨by first | omega | (simp <;> omega), ?_⟩
      refine po.mono ?_
      rintro d rfl
      dsimp? only []
      refine ⟨by simp only [List.length_map, List.length_cons, List.length_nil]; omega, by first | omega | (simp <;> omega), by simp only [List.length_map, List.length_append, List.length_cons, List.length_nil]; omega, _, rfl, by simp only [List.length_map, List.length_append, List.length_cons, List.length_nil, wl]; omega, (some (Sl.mk false (p.1))), ?_⟩
      rw [List.map_append (l₁ := done), gflat_app]
      simp [gflat]
    · rintro S ⟨a, rfl⟩
      exact ⟨rfl, a, rfl⟩
  rintro S ⟨a, rfl⟩
  dsimp? only []
theorem mean0 {n : Int} (h : n = 0 ∨ n = 1) : d_meaning [.int 0, .str (sg (code n))] = .ok (.int n) := by rcases h with rfl | rfl <;> kernel_rfl
theorem mean2 {n : Int} (h : n = -1 ∨ n = 0 ∨ n = 1 ∨ n = 2) : d_meaning [.int 2, .str (sg (code n))] = .ok (.int n) := by rcases h with rfl | rfl | rfl | rfl <;> kernel_rfl
theorem mean3 {n : Int} (h : n = 0 ∨ n = 1) : d_meaning [.int 3, .str (mw n)] = .ok (.int n) := by rcases h with rfl | rfl <;> kernel_rfl
theorem mean1 : ∀ (cs : List Int), cs.length ≤ 3 → (∀ c ∈ cs, c = -1 ∨ c = 0 ∨ c = 1) → d_meaning [.int 1, .str (ew cs)] = .ok (csD cs)
  | [], _, _ => by kernel_rfl
  | [a], _, h => by
    rcases h a (by simp) with rfl | rfl | rfl <;> kernel_rfl
  | [a, b], _, h => by
    rcases h a (by simp) with rfl | rfl | rfl <;> rcases h b (by simp) with rfl | rfl | rfl <;> kernel_rfl
  | [a, b, c], _, h => by
    rcases h a (by simp) with rfl | rfl | rfl <;> rcases h b (by simp) with rfl | rfl | rfl <;> rcases h c (by simp) with rfl | rfl | rfl <;> kernel_rfl
  | _ :: _ :: _ :: _ :: _, h, _ => by simp at h
def valsR (r : RowT) : List D := [.int r.bit, csD r.cs, .int r.ran, .int r.more]
theorem isD_non {d : D} {Q : D → Prop} : Ok (isD d .non) Q ↔ Q (.bl d.isNon) := ok_ok
set_option Elab.async false
set_option linter.all false
set_option maxRecDepth 100000
open M PySem L2
def SO (w : Str) : Prop := PyData.strOk w = true
theorem eqS {a b : Str} (ha : SO a) (hb : SO b) : eqD (.str a) (.str b) = .ok (.bl (decide (a = b))) := by
  have ha : PyData.strOk a = true := ha
  have hb : PyData.strOk b = true := hb
  unfold eqD
  simp only [dok, ha, hb, Bool.and_self, if_true, deq]
  by_cases h : a = b
  · subst h; simp
  · rw [decide_eq_false h]
    have : (a == b) = false := beq_eq_false_iff_ne.mpr h
    rw [this]
theorem neS {a b : Str} (ha : SO a) (hb : SO b) : neD (.str a) (.str b) = .ok (.bl (!decide (a = b))) := by
  have ha : PyData.strOk a = true := ha
  have hb : PyData.strOk b = true := hb
  unfold neD
  simp only [dok, ha, hb, Bool.and_self, if_true, deq]
  by_cases h : a = b
  · subst h; simp
  · rw [decide_eq_false h]
    have : (a == b) = false := beq_eq_false_iff_ne.mpr h
    rw [this]
theorem any_strS (x : Str) : ∀ l : List Str, ((l.map D.str).any fun z => deq z (.str x)) = decide (x ∈ l)
  | [] => by simp
  | y :: l => by
    rw [List.map_cons, List.any_cons, any_strS x l]
    have e : deq (.str y) (.str x) = decide (x = y) := by
      simp only [deq]
      by_cases h : x = y
      · subst h; simp
      · rw [decide_eq_false h]; exact beq_eq_false_iff_ne.mpr fun z => h z.symm
    rw [e]
    by_cases h : x = y <;> simp [h]
theorem flat_strS : ∀ l : List Str, (l.map D.str).all flatD = true
  | [] => rfl
  | y :: l => by rw [List.map_cons, List.all_cons, flat_strS l]; rfl
theorem inSL (x : Str) (l : List Str) : inD (.str x) (.lst (l.map .str)) = .ok (.bl (decide (x ∈ l))) := by
  simp only [inD, inD', flat_strS, any_strS, flatD, Bool.and_self, if_true]
inductive Mn : Nat → Str → D → Prop where
  | b {n : Int} : (n = 0 ∨ n = 1) → Mn 0 (sg (code n)) (.int n)
  | e {cs : List Int} : cs.length ≤ 3 → (∀ c ∈ cs, c = -1 ∨ c = 0 ∨ c = 1) → Mn 1 (ew cs) (csD cs)
  | r {n : Int} : (n = -1 ∨ n = 0 ∨ n = 1 ∨ n = 2) → Mn 2 (sg (code n)) (.int n)
  | m {n : Int} : (n = 0 ∨ n = 1) → Mn 3 (mw n) (.int n)
def Fit (p : Nat) (w : Str) : Prop := ∃ v, Mn p w v
theorem mn_yes {p : Nat} {w : Str} {v : D} (h : Mn p w v) : d_meaning [.int p, .str w] = .ok v ∧ v.isNon = false := by
  cases h with
  | b h => exact ⟨mean0 h, rfl⟩
  | e h1 h2 => exact ⟨mean1 _ h1 h2, rfl⟩
  | r h => exact ⟨mean2 h, rfl⟩
  | m h => exact ⟨mean3 h, rfl⟩
theorem fit0 {w : Str} : Fit 0 w ↔ w ∈ (["0", "1"] : List Str) := by
  constructor
  · rintro ⟨v, h⟩
    cases h with
    | b h => rcases h with rfl | rfl <;> decide
  · intro h
    simp only [List.mem_cons, List.not_mem_nil, or_false] at h
    rcases h with rfl | rfl
    · exact ⟨_, Mn.b (n := 0) (.inl rfl)⟩
    · exact ⟨_, Mn.b (n := 1) (.inr rfl)⟩
theorem fit2 {w : Str} : Fit 2 w ↔ w ∈ ([".", "0", "1", "2"] : List Str) := by
  constructor
  · rintro ⟨v, h⟩
    cases h with
    | r h => rcases h with rfl | rfl | rfl | rfl <;> decide
  · intro h
    simp only [List.mem_cons, List.not_mem_nil, or_false] at h
    rcases h with rfl | rfl | rfl | rfl
    · exact ⟨_, Mn.r (n := -1) (.inl rfl)⟩
    · exact ⟨_, Mn.r (n := 0) (.inr (.inl rfl))⟩
    · exact ⟨_, Mn.r (n := 1) (.inr (.inr (.inl rfl)))⟩
    · exact ⟨_, Mn.r (n := 2) (.inr (.inr (.inr rfl)))⟩
theorem fit3 {w : Str} : Fit 3 w ↔ w ∈ ([".", "+"] : List Str) := by
  constructor
  · rintro ⟨v, h⟩
    cases h with
    | m h => rcases h with rfl | rfl <;> decide
  · intro h
    simp only [List.mem_cons, List.not_mem_nil, or_false] at h
    rcases h with rfl | rfl
    · exact ⟨_, Mn.m (n := 0) (.inl rfl)⟩
    · exact ⟨_, Mn.m (n := 1) (.inr rfl)⟩
def deco (c : Nat) : Int := if c = 46 then -1 else if c = 48 then 0 else 1
theorem code_deco {c : Nat} (h : c ∈ [46, 48, 49]) : code (deco c) = c := by
  simp only [List.mem_cons, List.not_mem_nil, or_false] at h
  rcases h with rfl | rfl | rfl <;> decide
theorem deco_ok (c : Nat) : deco c = -1 ∨ deco c = 0 ∨ deco c = 1 := by
  unfold deco; split
  · exact .inl rfl
  · split
    · exact .inr (.inl rfl)
    · exact .inr (.inr rfl)
theorem code_in {c : Int} (h : c = -1 ∨ c = 0 ∨ c = 1) : code c ∈ [46, 48, 49] := by rcases h with rfl | rfl | rfl <;> decide
theorem tx_tl (w : Str) : tx w.cps.toList = w := by
  obtain ⟨⟨l⟩⟩ := w
  rfl
theorem fit1 {w : Str} : Fit 1 w ↔ w = "-" ∨ (1 ≤ w.cps.toList.length ∧ w.cps.toList.length ≤ 3 ∧ ∀ c ∈ w.cps.toList, c ∈ [46, 48, 49]) := by
  constructor
  · rintro ⟨v, h⟩
    cases h with
    | @e cs h1 h2 =>
      unfold ew
      by_cases hc : cs = []
      · rw [if_pos hc]; exact .inl rfl
      · rw [if_neg hc]
        right
        have el : (tx (cs.map code)).cps.toList = cs.map code := rfl
        rw [el, List.length_map]
        have : cs.length ≠ 0 := fun e => hc (List.length_eq_zero_iff.mp e)
        refine ⟨by omega, h1, fun c hc => ?_⟩
        obtain ⟨x, hx, rfl⟩ := List.mem_map.mp hc
        exact code_in (h2 x hx)
  · rintro (rfl | ⟨h1, h2, h3⟩)
    · exact ⟨_, Mn.e (cs := []) (by simp) (by simp)⟩
    · have e : w = ew (w.cps.toList.map deco) := by
        unfold ew
        rw [if_neg (by intro e; have := congrArg List.length e; rw [List.length_map, List.length_nil] at this; omega), List.map_map]
        have : w.cps.toList.map (code ∘ deco) = w.cps.toList := by
          conv => rhs; rw [← List.map_id w.cps.toList]
          exact List.map_congr_left fun c hc => code_deco (h3 c hc)
        rw [this, tx_tl]
      rw [e]
      exact ⟨_, Mn.e (by rw [List.length_map]; exact h2) (fun c hc => by obtain ⟨x, _, rfl⟩ := List.mem_map.mp hc; exact deco_ok x)⟩
theorem tab_none {tab : List (Str × Int)} {w : Str} (h : w ∉ tab.map (·.1)) : tabGet tab w = none := by
  unfold tabGet
  rw [List.find?_eq_none.mpr]
  · rfl
  · intro p hp e
    refine h (List.mem_map.mpr ⟨p, hp, ?_⟩)
    simpa using e
theorem tab_sg (c : Nat) : (tabGet tv_ENTRIES (sg c)).isSome = decide (c ∈ [46, 48, 49]) := by
  by_cases h : c ∈ [46, 48, 49]
  · simp only [List.mem_cons, List.not_mem_nil, or_false] at h
    rcases h with rfl | rfl | rfl <;> decide
  · rw [decide_eq_false h, tab_none]
    · rfl
    · intro hm
      have e : sg c = "." ∨ sg c = "0" ∨ sg c = "1" := by simpa [tv_ENTRIES] using hm
      apply h
      have inj : ∀ {a b : Nat}, sg a = sg b → a = b := fun {a b} e => by
        have := congrArg (fun s : Str => s.cps.toList) e
        simpa [sg] using this
      rcases e with e | e | e
      · have := inj (a := c) (b := 46) e; subst this; decide
      · have := inj (a := c) (b := 48) e; subst this; decide
      · have := inj (a := c) (b := 49) e; subst this; decide
theorem so_d : SO "-" := by unfold SO; kernel_rfl
theorem so_n : SO "" := by unfold SO; kernel_rfl
theorem so_l : SO "(" := by unfold SO; kernel_rfl
theorem so_r : SO ")" := by unfold SO; kernel_rfl
theorem lenS {w : Str} (hl : w.cps.toList.length ≤ 500) : lenD (.str w) = .ok (.int w.cps.toList.length) := by
  have hs := size_ge
  have ll : w.length = w.cps.toList.length := TL.len_tl w
  show (if w.length ≤ sizeLine then R.ok (D.int w.length) else .fail) = _
  rw [if_pos (by omega), ll]
theorem p_entriesX {w : Str} (hw : SO w) (hl : w.cps.toList.length ≤ 500) (h : ¬ Fit 1 w) : d_entries_of [.str w] = .ok .non := by
  have hs := size_ge
  rw [fit1] at h
  refine Ok.eq ?_
  unfold d_entries_of m_entries_of
  rw [ok_nox, k_run]
  have ed : eqD (.str w) (.str "-") = .ok (.bl false) := by rw [eqS hw so_d, decide_eq_false fun e => h (.inl e)]
  refine pass_if (by simp? only [ed]) ?_
  by_cases h0 : w = ""
  · have ee : eqD (.str w) (.str "") = .ok (.bl true) := by rw [eqS hw so_n, decide_eq_true h0]
    simp? only [ee]
  · have ee : eqD (.str w) (.str "") = .ok (.bl false) := by rw [eqS hw so_n, decide_eq_false h0]
    have hne : w.cps.toList ≠ [] := fun e => h0 (by rw [← tx_tl w, e]; rfl)
    have hne : w.cps.toList.length ≠ 0 := fun e => hne (List.length_eq_zero_iff.mp e)
    have el := lenS hl
    by_cases h3 : 3 < w.cps.toList.length
    · have e3 : gtD (.int w.cps.toList.length) gv_MOST_ENTRIES = .ok (.bl true) := by
        show R.ok (D.bl (decide ((w.cps.toList.length : Int) > 3))) = _
        rw [decide_eq_true (by omega)]
      simp? only [ee, el, e3]
    · have e3 : gtD (.int w.cps.toList.length) gv_MOST_ENTRIES = .ok (.bl false) := by
        show R.ok (D.bl (decide ((w.cps.toList.length : Int) > 3))) = _
        rw [decide_eq_false (by omega)]
      have hx : ¬ ∀ c ∈ w.cps.toList, c ∈ [46, 48, 49] := fun q => h (.inr ⟨by omega, by omega, q⟩)
      simp? only [ee, el, e3]
      refine k_lcM (fun c => .str (sg c)) (fun c => .bl (!decide (c ∈ [46, 48, 49]))) w.cps.toList (by simp? only [k_itS]) (by omega) ?_ ?_
      · intro c hc
        have e : kinD true tv_ENTRIES (.str (sg c)) = .ok (.bl (!decide (c ∈ [46, 48, 49]))) := by
          show R.ok (D.bl (if true = true then !(tabGet tv_ENTRIES (sg c)).isSome else _)) = _
          rw [if_pos rfl, tab_sg]
        simp? only [e]
      · have ha : (w.cps.toList.any fun c => !decide (c ∈ [46, 48, 49])) = true := by
          rw [List.any_eq_true]
          apply Classical.byContradiction
          intro hn
          refine hx fun c hc => ?_
          apply Classical.byContradiction
          intro hcn
          exact hn ⟨c, hc, by rw [decide_eq_false hcn]; rfl⟩
        rw [k_any (fun c => !decide (c ∈ [46, 48, 49])), ha]
        show Ok (R.ok true) _
        rw [ok_ok]
        intro z
        cases z
theorem mn_no {p : Nat} {w : Str} (hp : p < 4) (hw : SO w) (hl : w.cps.toList.length ≤ 500) (h : ¬ Fit p w) : d_meaning [.int p, .str w] = .ok .non := by
  have k0 : ∀ {tab : List (Str × Int)}, w ∉ tab.map (·.1) → kgetD tab (.str w) = .ok .non := fun {tab} h => by
    show (match tabGet tab w with | some i => R.ok (D.int i) | none => .ok .non) = _
    rw [tab_none h]
  refine Ok.eq ?_
  unfold d_meaning m_meaning
  rw [ok_nox, k_run]
  rcases (show p = 0 ∨ p = 1 ∨ p = 2 ∨ p = 3 by omega) with rfl | rfl | rfl | rfl
  · rw [fit0] at h
    show Ok (sRet (e1 (kgetD tv_BITS) (eW 1)) [(some (Sl.mk false (.int (0 : Nat)))), (some (Sl.mk false (.str w)))]) _
    simp? only [k0 (tab := tv_BITS) h]
  · show Ok (sRet (eC d_entries_of (aC (eV 1) aN)) [(some (Sl.mk false (.int (1 : Nat)))), (some (Sl.mk false (.str w)))]) _
    simp? only [p_entriesX hw hl h]
  · rw [fit2] at h
    show Ok (sRet (e1 (kgetD tv_RUNS) (eW 1)) [(some (Sl.mk false (.int (2 : Nat)))), (some (Sl.mk false (.str w)))]) _
    simp? only [k0 (tab := tv_RUNS) h]
  · rw [fit3] at h
    show Ok (sRet (e1 (kgetD tv_MORES) (eW 1)) [(some (Sl.mk false (.int (3 : Nat)))), (some (Sl.mk false (.str w)))]) _
    simp? only [k0 (tab := tv_MORES) h]
open Classical in
noncomputable def fitB (p : Nat) (w : Str) : Bool := decide (Fit p w)
open Classical in
theorem fitB_t {p : Nat} {w : Str} (h : Fit p w) : fitB p w = true := by unfold fitB; exact decide_eq_true h
open Classical in
theorem fitB_f {p : Nat} {w : Str} (h : ¬ Fit p w) : fitB p w = false := by unfold fitB; exact decide_eq_false h
theorem fitB_iff {p : Nat} {w : Str} {b : Prop} [Decidable b] (h : Fit p w ↔ b) : fitB p w = decide b := by
  by_cases q : b
  · rw [decide_eq_true q, fitB_t (h.mpr q)]
  · rw [decide_eq_false q, fitB_f (fun z => q (h.mp z))]
theorem p_fits {p : Nat} {w : Str} (hp : p < 4) (hw : SO w) (hl : w.cps.toList.length ≤ 500) : d__law_fits [.int p, .str w] = .ok (.bl (fitB p w)) := by
  have hs := size_ge
  have hin : ∀ l : List Str, inD (.str w) (.lst (l.map .str)) = .ok (.bl (decide (w ∈ l))) := inSL w
  have h0 := hin ["0", "1"]
  have h2 := hin [".", "0", "1", "2"]
  have h3 := hin [".", "+"]
  simp only [List.map_cons, List.map_nil] at h0 h2 h3
  refine Ok.eq ?_
  unfold d__law_fits m__law_fits
  rw [ok_nox, k_run]
  rcases (show p = 0 ∨ p = 1 ∨ p = 2 ∨ p = 3 by omega) with rfl | rfl | rfl | rfl
  · rw [fitB_iff fit0]
    refine pass_if (by simp? only []; decide) ?_
    simp? only []
    exact ⟨_, rfl, by rw [h0, ok_ok]⟩
  · have F : Fit 1 w ↔ w = "-" ∨ (1 ≤ w.cps.toList.length ∧ w.cps.toList.length ≤ 3 ∧ (w.cps.toList.filter fun c => !decide (c ∈ ([46, 48, 49] : List Nat))).length = 0) := by
      rw [fit1]
      have : (w.cps.toList.filter fun c => !decide (c ∈ ([46, 48, 49] : List Nat))).length = 0 ↔ ∀ c ∈ w.cps.toList, c ∈ [46, 48, 49] := by
        rw [List.length_eq_zero_iff, List.filter_eq_nil_iff]
        constructor
        · intro h c hc
          have := h c hc
          apply Classical.byContradiction
          intro hn
          rw [decide_eq_false hn] at this
          exact this rfl
        · intro h c hc
          rw [decide_eq_true (h c hc)]
          decide
      rw [this]
    generalize hF : (w.cps.toList.filter fun c => !decide (c ∈ ([46, 48, 49] : List Nat))) = fl at F
    have ed := eqS hw so_d
    have el := lenS hl
    simp? only [ed, el]
    refine ⟨fun _ => ?_, fun h => absurd h (by decide)⟩
    refine k_lcT (fun c => .str (sg c)) (fun c => !decide (c ∈ ([46, 48, 49] : List Nat))) (fun c => .str (sg c)) w.cps.toList (by simp? only [k_itS]) (by omega) ?_ ?_
    · intro c hc
      simp? only [k_notInS]
      rfl
    · rw [hF]
      simp? only []
      by_cases a1 : w = "-"
      · rw [decide_eq_true a1, fitB_t (F.mpr (.inl a1))]
        simp
      · rw [decide_eq_false a1]
        by_cases a2 : 1 ≤ w.cps.toList.length
        · by_cases a3 : w.cps.toList.length ≤ 3
          · by_cases a4 : fl.length = 0
            · rw [fitB_t (F.mpr (.inr ⟨a2, a3, a4⟩))]
              refine ⟨fun z => Bool.noConfusion z, fun _ => ⟨fun _ => ⟨fun _ => by rw [decide_eq_true (show (fl.length : Int) = 0 by omega)], fun z => absurd (of_decide_eq_false z) (by omega)⟩, fun z => absurd (of_decide_eq_false z) (by omega)⟩⟩
            · rw [fitB_f (fun z => (F.mp z).elim a1 fun q => a4 q.2.2)]
              refine ⟨fun z => Bool.noConfusion z, fun _ => ⟨fun _ => ⟨fun _ => by rw [decide_eq_false (show ¬ (fl.length : Int) = 0 by omega)], fun z => rfl⟩, fun z => rfl⟩⟩
          · rw [fitB_f (fun z => (F.mp z).elim a1 fun q => a3 q.2.1)]
            refine ⟨fun z => Bool.noConfusion z, fun _ => ⟨fun _ => ⟨fun z => absurd (of_decide_eq_true z) (by omega), fun z => rfl⟩, fun z => rfl⟩⟩
        · rw [fitB_f (fun z => (F.mp z).elim a1 fun q => a2 q.1)]
          refine ⟨fun z => Bool.noConfusion z, fun _ => ⟨fun z => absurd (of_decide_eq_true z) (by omega), fun z => rfl⟩⟩
  · rw [fitB_iff fit2]
    refine pass_if (by simp? only []; decide) ?_
    simp? only []
    exact ⟨_, rfl, by rw [h2, ok_ok]⟩
  · rw [fitB_iff fit3]
    refine pass_if (by simp? only []; decide) ?_
    simp? only []
    exact ⟨_, rfl, by rw [h3, ok_ok]⟩
set_option Elab.async false
set_option linter.all false
set_option maxRecDepth 100000
open M PySem L2
noncomputable def mach : Nat → List Str → Nat → Nat → Nat → Nat
  | i, [], _, d, p => if p = 4 ∧ d = 0 then 0 else i + 1
  | i, w :: ws, b, d, p => if p < 4 then (if fitB p w = true then mach (i + 1) ws b d (p + 1) else i + 1)
      else if w = "(" ∧ b < 3 then mach (i + 1) ws (b + 1) (d + 1) 0
      else if w = ")" ∧ 0 < d then mach (i + 1) ws b (d - 1) p else i + 1
structure WSo (W : List Str) : Prop where
  l : W.length ≤ 500
  w : ∀ w ∈ W, SO w ∧ w.cps.toList.length ≤ 500
theorem drop_at {W : List Str} {a : Nat} {w : Str} (h : W[a]? = some w) : W.drop a = w :: W.drop (a + 1) := by
  obtain ⟨h1, h2⟩ := List.getElem?_eq_some_iff.mp h
  rw [← h2]
  exact List.drop_eq_getElem_cons h1
theorem mach_end {W : List Str} {a b d p : Nat} (h : a = W.length) (hp : ¬ (p = 4 ∧ d = 0)) : mach a (W.drop a) b d p = a + 1 := by
  rw [List.drop_eq_nil_of_le (by omega)]
  unfold mach
  rw [if_neg hp]
theorem mach_fit {W : List Str} {a b d p : Nat} {w : Str} (h : W[a]? = some w) (hp : p < 4) (hf : Fit p w) : mach a (W.drop a) b d p = mach (a + 1) (W.drop (a + 1)) b d (p + 1) := by
  rw [drop_at h]
  conv => lhs; unfold mach
  rw [if_pos hp, if_pos (fitB_t hf)]
theorem mach_unfit {W : List Str} {a b d p : Nat} {w : Str} (h : W[a]? = some w) (hp : p < 4) (hf : ¬ Fit p w) : mach a (W.drop a) b d p = a + 1 := by
  rw [drop_at h]
  unfold mach
  rw [if_pos hp, if_neg (by rw [fitB_f hf]; exact Bool.false_ne_true)]
theorem mach_open {W : List Str} {a b d : Nat} (h : W[a]? = some ("(" : Str)) (hb : b < 3) : mach a (W.drop a) b d 4 = mach (a + 1) (W.drop (a + 1)) (b + 1) (d + 1) 0 := by
  rw [drop_at h]
  conv => lhs; unfold mach
  rw [if_neg (by omega), if_pos ⟨rfl, hb⟩]
theorem mach_close {W : List Str} {a b d : Nat} (h : W[a]? = some (")" : Str)) : mach a (W.drop a) b (d + 1) 4 = mach (a + 1) (W.drop (a + 1)) b d 4 := by
  rw [drop_at h]
  conv => lhs; unfold mach
  rw [if_neg (by omega), if_neg (fun z => absurd z.1 (by decide)), if_pos ⟨rfl, by omega⟩]
  rfl
theorem mach_bad {W : List Str} {a b d : Nat} {w : Str} (h : W[a]? = some w) (h1 : ¬ (w = "(" ∧ b < 3)) (h2 : ¬ (w = ")" ∧ 0 < d)) : mach a (W.drop a) b d 4 = a + 1 := by
  rw [drop_at h]
  unfold mach
  rw [if_neg (by omega), if_neg h1, if_neg h2]
inductive JW : Nat → D → List Str → Prop where
  | mk (n : Nat) (r : RowT) (gl : List (D × List Str)) : r.Ok → gl.length ≤ 2 → (∀ p ∈ gl, JW n p.1 p.2) → JW (n + 1) (jD r (gl.map (·.1))) (rowW r ++ gflat (gl.map (·.2)))
theorem JW.up {n : Nat} {d : D} {ws : List Str} (h : JW n d ws) : JW (n + 1) d ws := by
  induction h with
  | mk n r gl hr hl h ih => exact .mk _ r gl hr hl ih
theorem JW.le {n m : Nat} {d : D} {ws : List Str} (h : JW n d ws) (hm : n ≤ m) : JW m d ws := by
  obtain ⟨k, rfl⟩ := Nat.exists_eq_add_of_le hm
  clear hm
  induction k with
  | zero => exact h
  | succ k ih => exact ih.up
theorem p_word {W : List Str} {a : Nat} (hl : W.length ≤ 500) (ha : a ≤ W.length) : OkX (d_word_at [.lst (W.map .str), .int a]) (fun d => ∃ w, W[a]? = some w ∧ d = .str w) (fun x => a = W.length ∧ x = ⟨16, [.int 1, .int (a + 1 : Nat)]⟩) := by
  have hs := size_ge
  unfold d_word_at m_word_at
  refine ox_run (ox_cut (fun S => S = [(some (Sl.mk false (.lst (W.map .str)))), (some (Sl.mk false (.int a)))] ∧ a < W.length) ?_ ?_)
  · refine ox_if (ox_ok ?_)
    simp? only []
    refine ⟨fun h => ox_excI ?_, fun h => ox_ok ?_⟩
    · have := of_decide_eq_true h
      simp? only []
      exact ⟨by omega, rfl⟩
    · have := of_decide_eq_false h
      simp? only []
      omega
  · rintro S ⟨rfl, h⟩
    refine ox_ok ?_
    simp? only []
    obtain ⟨w, hw⟩ : ∃ w, W[a]? = some w := ⟨W[a], List.getElem?_eq_getElem h⟩
    refine ⟨.str w, ?_, _, rfl, w, hw, rfl⟩
    unfold L2.atI ixN
    rw [if_pos (by omega), if_pos (by simp; omega)]
    simp [hw]
structure RdOk (W : List Str) (a b : Nat) (J : D) (a' b' : Nat) (ws : List Str) : Prop where
  j : JW (4 - b) J ws
  seg : W.drop a = ws ++ W.drop a'
  le : a' ≤ W.length
  bb : b ≤ b'
  b3 : b' ≤ 3
  m : ∀ d, mach a (W.drop a) b d 0 = mach a' (W.drop a') b' d 4
  stop : ∀ w, W[a']? = some w → ¬ (w = "(" ∧ b' < 3)
def RdP (W : List Str) (f a b : Nat) : Prop := OkX (d_read_joint' f [.lst (W.map .str), .int a, .int b]) (fun r => ∃ J a' b' ws, r = .tup [J, .int (a' : Nat), .int (b' : Nat)] ∧ RdOk W a b J a' b' ws) (fun x => ∃ k : Nat, 1 ≤ k ∧ x = ⟨16, [.int 1, .int k]⟩ ∧ ∀ d, mach a (W.drop a) b d 0 = k)
theorem four {W : List Str} {a : Nat} {vs : List D} (hl : vs.length = 4) (h : ∀ j, j < 4 → ∃ w v, W[a + j]? = some w ∧ vs[j]? = some v ∧ Mn j w v) : ∃ r : RowT, r.Ok ∧ vs = valsR r ∧ W.drop a = rowW r ++ W.drop (a + 4) := by
  obtain ⟨w0, v0, a0, b0, m0⟩ := h 0 (by omega)
  obtain ⟨w1, v1, a1, b1, m1⟩ := h 1 (by omega)
  obtain ⟨w2, v2, a2, b2, m2⟩ := h 2 (by omega)
  obtain ⟨w3, v3, a3, b3, m3⟩ := h 3 (by omega)
  have ev : vs = [v0, v1, v2, v3] := by
    match vs, hl with
    | [x0, x1, x2, x3], _ =>
      simp only [List.getElem?_cons_zero, List.getElem?_cons_succ, Option.some.injEq] at b0 b1 b2 b3
      rw [b0, b1, b2, b3]
  have ed : W.drop a = [w0, w1, w2, w3] ++ W.drop (a + 4) := by
    rw [drop_at (a := a) a0, drop_at a1, drop_at a2, drop_at a3]
    rfl
  rw [ev, ed]
  cases m0 with
  | b h0 =>
    cases m1 with
    | e h1 h1' =>
      cases m2 with
      | r h2 =>
        cases m3 with
        | m h3 => exact ⟨⟨_, _, _, _⟩, ⟨h0, h1, h1', h2, h3⟩, rfl, rfl⟩
structure LI (W : List Str) (rr : RowT) (a b a1 b1 : Nat) (done : List (D × List Str)) : Prop where
  seg : W.drop a = (rowW rr ++ gflat (done.map (·.2))) ++ W.drop a1
  le : a1 ≤ W.length
  bb : b ≤ b1
  b3 : b1 ≤ 3
  dl : done.length + b ≤ b1
  j : ∀ p ∈ done, JW (3 - b) p.1 p.2
  m : ∀ d, mach a (W.drop a) b d 0 = mach a1 (W.drop a1) b1 d 4
def rT : FT := tA (tB' (e2 ltD (eW 1) (eC (f1 lenD) (aC (eW 0) aN)))) (tA (tB' (e2 eqD (e2 ixD (eW 0) (eW 1)) (eS "("))) (tB' (e2 ltD (eW 2) (eG gv_MOST_ROWS))))
def rB (f : Nat) : FS := sSeq (sAsg (gT 3 (gsC (gN 7) (gsC (gN 1) (gsC (gN 2) gsN)))) (eCX (d_read_joint' f) (aC (eV 0) (aC (e2 addD (eW 1) (eI (1))) (aC (e2 addD (eW 2) (eI (1))) aN)))))
            (sSeq (sIf (tB' (e2 neD (eCX d_word_at (aC (eV 0) (aC (eV 1) aN))) (eS ")"))) (sExcI 16 2 (aC (eI (1)) (aC (e2 addD (eW 1) (eI (1))) aN))) sNil)
            (sSeq (sApp 6 (eV 7))
            (sAugI 1 addD (eI (1)))))
theorem p_rT {W : List Str} (hW : WSo W) {a1 b1 : Nat} {x y z u v : Option Sl} : Ok (rT [(some (Sl.mk false (.lst (W.map .str)))), (some (Sl.mk false (.int a1))), (some (Sl.mk false (.int b1))), x, y, z, u, v]) fun t => t = true ↔ W[a1]? = some ("(" : Str) ∧ b1 < 3 := by
  have hl := hW.l
  unfold rT
  by_cases ha : a1 < W.length
  · obtain ⟨w, hw⟩ : ∃ w, W[a1]? = some w := ⟨W[a1], List.getElem?_eq_getElem ha⟩
    have ea : decide ((a1 : Int) < (W.length : Int)) = true := decide_eq_true (by omega)
    have eq := eqS (hW.w w (List.mem_of_getElem? hw)).1 so_l
    simp? only [ea]
    refine ⟨.str w, ?_, ?_⟩
    · unfold L2.atI ixN
      rw [if_pos (by omega), if_pos (by simp; omega)]
      simp [hw]
    rw [eq, ok_ok]
    by_cases hp : w = "("
    · rw [decide_eq_true hp]
      have e3 : ltD (.int b1) gv_MOST_ROWS = .ok (.bl (decide (b1 < 3))) := by
        show R.ok (D.bl (decide ((b1 : Int) < 3))) = _
        by_cases h3 : b1 < 3
        · rw [decide_eq_true h3, decide_eq_true (by omega)]
        · rw [decide_eq_false h3, decide_eq_false (by omega)]
      simp? only [e3, hw, hp]
      simp
    · rw [decide_eq_false hp]
      simp? only []
      simp [hw, hp]
  · have ea : decide ((a1 : Int) < (W.length : Int)) = false := decide_eq_false (by omega)
    simp? only [ea]
    rw [List.getElem?_eq_none (by omega)]
    simp
theorem p_readj {W : List Str} (hW : WSo W) : ∀ f a b : Nat, a ≤ W.length → 1 ≤ b → b ≤ 3 → 4 ≤ b + f → RdP W f a b := by
  have hs := size_ge
  have hl := hW.l
  intro f
  induction f with
  | zero => intro a b _ _ h1 h2; omega
  | succ f ih =>
    intro a b ha hb1 hb3 hbf
    show OkX (runF false 8 (m_read_joint (d_read_joint' f)) _) _ _
    unfold m_read_joint
    refine ox_run (ox_cut (fun S => S = [(some (Sl.mk false (.lst (W.map .str)))), (some (Sl.mk false (.int a))), (some (Sl.mk false (.int b))), (some (Sl.mk true (.lst []))), none, none, none, none]) (ox_ok (by simp? only [])) ?_)
    rintro S rfl
    refine ox_cut (fun S => ∃ (vs : List D) (r c : Option Sl), vs.length = 4 ∧ a + 4 ≤ W.length ∧ (∀ j, j < 4 → ∃ w v, W[a + j]? = some w ∧ vs[j]? = some v ∧ Mn j w v) ∧ (∀ d, mach a (W.drop a) b d 0 = mach (a + 4) (W.drop (a + 4)) b d 4) ∧ S = [(some (Sl.mk false (.lst (W.map .str)))), (some (Sl.mk false (.int (a + 4 : Nat)))), (some (Sl.mk false (.int b))), (some (Sl.mk true (.lst vs))), r, c, none, none]) ?_ ?_
    · refine ox_sFor ?_
      simp? only []
      refine ⟨⟨by omega, by omega⟩, ?_⟩
      refine ox_for (fun i S => ∃ (vs : List D) (r c : Option Sl), vs.length = i ∧ a + i ≤ W.length ∧ (∀ j, j < i → ∃ w v, W[a + j]? = some w ∧ vs[j]? = some v ∧ Mn j w v) ∧ (∀ d, mach a (W.drop a) b d 0 = mach (a + i) (W.drop (a + i)) b d i) ∧ S = [(some (Sl.mk false (.lst (W.map .str)))), (some (Sl.mk false (.int (a + i : Nat)))), (some (Sl.mk false (.int b))), (some (Sl.mk true (.lst vs))), r, c, none, none]) _ 0 _ ⟨[], none, none, rfl, by omega, fun j hj => by omega, fun d => rfl, rfl⟩ ?_ ?_
      · rintro i d S hd ⟨vs, r, c, hvl, hai, hvs, hm, rfl⟩
        obtain ⟨hi, rfl⟩ := rngL_get hd
        have hi4 : i < 4 := by omega
        rw [Nat.zero_add] at hvl hai hvs hm ⊢
        simp? only []
        refine ox_cut (fun S => ∃ w v, W[a + i]? = some w ∧ (Mn i w v ∨ ¬ Fit i w ∧ v = .non) ∧ S = [(some (Sl.mk false (.lst (W.map .str)))), (some (Sl.mk false (.int (a + i : Nat)))), (some (Sl.mk false (.int b))), (some (Sl.mk true (.lst vs))), (some (Sl.mk false (.int i))), (some (Sl.mk false (v))), none, none]) ?_ ?_
        · refine ox_set (ox_C (ox_c (ox_ok ?_)))
          simp? only []
          refine ox_c (ox_CX (ox_c (ox_ok ?_)))
          simp? only []
          refine ox_c (ox_ok ?_)
          simp? only []
          refine ox_ok ?_
          simp? only []
          refine (p_word (a := a + i) hl hai).mono ?_ ?_
          · rintro d ⟨w, hw, rfl⟩
            refine ox_ok ?_
            simp? only []
            rw [show (0 : Int) + (i : Int) = (i : Int) by omega]
            obtain ⟨w1, w2⟩ := hW.w w (List.mem_of_getElem? hw)
            by_cases hf : Fit i w
            · obtain ⟨v, hv⟩ := hf
              rw [(mn_yes hv).1, ok_ok]
              exact ⟨w, v, hw, .inl hv, rfl⟩
            · rw [mn_no hi4 w1 w2 hf, ok_ok]
              exact ⟨w, _, hw, .inr ⟨hf, rfl⟩, rfl⟩
          · rintro x ⟨he, rfl⟩
            refine ⟨_, by omega, rfl, fun d => ?_⟩
            rw [hm d]
            exact mach_end he (by omega)
        · rintro S ⟨w, v, hw, hv, rfl⟩
          have hlt : a + i < W.length := (List.getElem?_eq_some_iff.mp hw).1
          refine ox_cut (fun S => Mn i w v ∧ S = [(some (Sl.mk false (.lst (W.map .str)))), (some (Sl.mk false (.int (a + i : Nat)))), (some (Sl.mk false (.int b))), (some (Sl.mk true (.lst vs))), (some (Sl.mk false (.int i))), (some (Sl.mk false (v))), none, none]) ?_ ?_
          · refine ox_if (ox_ok ?_)
            rcases hv with hv | ⟨hf, rfl⟩
            · simp? only [isD_non, (mn_yes hv).2]
              refine ox_ok ?_
              simp? only []
              exact hv
            · simp? only [isD_non]
              refine ⟨fun _ => ox_excI ?_, fun h => Bool.noConfusion h⟩
              simp? only []
              exact ⟨a + i + 1, by omega, by simp, fun d => by rw [hm d]; exact mach_unfit hw hi4 hf⟩
          · rintro S ⟨hv, rfl⟩
            refine ox_ok ?_
            simp? only []
            refine ⟨by omega, vs ++ [v], (some (Sl.mk false (.int i))), (some (Sl.mk false (v))), by simp [hvl], by omega, ?_, ?_, ?_⟩
            · intro j hj
              by_cases hji : j < i
              · obtain ⟨w', v', h1, h2, h3⟩ := hvs j hji
                exact ⟨w', v', h1, by rw [List.getElem?_append_left (by omega)]; exact h2, h3⟩
              · have : j = i := by omega
                subst this
                exact ⟨w, v, hw, by rw [List.getElem?_append_right (by omega), hvl]; simp, hv⟩
            · intro d
              rw [hm d, mach_fit hw hi4 ⟨v, hv⟩]
              rfl
            · rw [show ((a + i : Nat) : Int) + 1 = ((a + (i + 1) : Nat) : Int) by omega]
      · rintro S ⟨vs, r, c, h1, h2, h3, h4, rfl⟩
        rw [rngL_len, Nat.zero_add] at h1 h2 h3 h4
        exact ⟨rfl, vs, r, c, h1, h2, h3, h4, by rw [rngL_len, Nat.zero_add]; rfl⟩
    rintro S ⟨vs, r, c, hvl, ha4, hvs, hm, rfl⟩
    obtain ⟨rr, hrr, rfl, hseg⟩ := four hvl hvs
    refine ox_cut (fun S => S = [(some (Sl.mk false (.lst (W.map .str)))), (some (Sl.mk false (.int (a + 4 : Nat)))), (some (Sl.mk false (.int b))), (some (Sl.mk true (.lst (valsR rr)))), r, c, (some (Sl.mk true (.lst []))), none]) (ox_ok (by simp? only [])) ?_
    rintro S rfl
    refine ox_cut (fun S => ∃ (a1 b1 : Nat) (done : List (D × List Str)) (o : Option Sl), LI W rr a b a1 b1 done ∧ (∀ w, W[a1]? = some w → ¬ (w = "(" ∧ b1 < 3)) ∧ S = [(some (Sl.mk false (.lst (W.map .str)))), (some (Sl.mk false (.int a1))), (some (Sl.mk false (.int b1))), (some (Sl.mk true (.lst (valsR rr)))), r, c, (some (Sl.mk true (.lst (done.map (·.1))))), o]) ?_ ?_
    · suffices H : ∀ (n fuel a1 b1 : Nat) (done : List (D × List Str)) (o : Option Sl), 3 - b1 ≤ n → n < fuel → LI W rr a b a1 b1 done →
          OkX (whileF rT (rB f) fuel [(some (Sl.mk false (.lst (W.map .str)))), (some (Sl.mk false (.int a1))), (some (Sl.mk false (.int b1))), (some (Sl.mk true (.lst (valsR rr)))), r, c, (some (Sl.mk true (.lst (done.map (·.1))))), o])
            (fun z => z.1 = .nx ∧ ∃ (a1 b1 : Nat) (done : List (D × List Str)) (o : Option Sl), LI W rr a b a1 b1 done ∧ (∀ w, W[a1]? = some w → ¬ (w = "(" ∧ b1 < 3)) ∧ z.2 = [(some (Sl.mk false (.lst (W.map .str)))), (some (Sl.mk false (.int a1))), (some (Sl.mk false (.int b1))), (some (Sl.mk true (.lst (valsR rr)))), r, c, (some (Sl.mk true (.lst (done.map (·.1))))), o])
            (fun x => ∃ k : Nat, 1 ≤ k ∧ x = ⟨16, [.int 1, .int k]⟩ ∧ ∀ d, mach a (W.drop a) b d 0 = k) from
        H (3 - b) 10 (a + 4) b [] none (Nat.le_refl _) (by omega) ⟨by rw [hseg]; rfl, ha4, Nat.le_refl _, hb3, by simp, by simp, hm⟩
      intro n
      induction n with
      | zero =>
        intro fuel a1 b1 done o hn hf L
        obtain ⟨fuel, rfl⟩ : ∃ q, fuel = q + 1 := ⟨fuel - 1, by omega⟩
        refine ox_while ((p_rT hW).mono fun t ht => ⟨fun e => ?_, fun e => ⟨rfl, a1, b1, done, o, L, fun w hw z => ?_, rfl⟩⟩)
        · have := (ht.mp e).2
          have := L.b3
          omega
        · have := L.b3
          omega
      | succ n ihn =>
        intro fuel a1 b1 done o hn hf L
        obtain ⟨fuel, rfl⟩ : ∃ q, fuel = q + 1 := ⟨fuel - 1, by omega⟩
        refine ox_while ((p_rT hW).mono fun t ht => ⟨fun e => ?_, fun e => ⟨rfl, a1, b1, done, o, L, fun w hw z => ?_, rfl⟩⟩)
        · obtain ⟨hw, hb⟩ := ht.mp e
          have ha1 : a1 < W.length := (List.getElem?_eq_some_iff.mp hw).1
          have z := ih (a1 + 1) (b1 + 1) (by omega) (by omega) (by omega) (by have := L.bb; omega)
          have m1 : ∀ d, mach a (W.drop a) b d 0 = mach (a1 + 1) (W.drop (a1 + 1)) (b1 + 1) (d + 1) 0 := fun d => by rw [L.m d, mach_open hw hb]
          unfold rB
          refine ox_cut (fun S => ∃ J a2 b2 ws, RdOk W (a1 + 1) (b1 + 1) J a2 b2 ws ∧ S = [(some (Sl.mk false (.lst (W.map .str)))), (some (Sl.mk false (.int (a2 : Nat)))), (some (Sl.mk false (.int (b2 : Nat)))), (some (Sl.mk true (.lst (valsR rr)))), r, c, (some (Sl.mk true (.lst (done.map (·.1))))), (some (Sl.mk false (J)))]) ?_ ?_
          · refine ox_asg (ox_CX ?_)
            refine ox_ok ?_
            simp? only []
            refine OkX.mono (P := fun rv => ∃ J a' b' ws, rv = .tup [J, .int (a' : Nat), .int (b' : Nat)] ∧ RdOk W (a1 + 1) (b1 + 1) J a' b' ws) z ?_ ?_
            · rintro rv ⟨J, a2, b2, ws, rfl, R⟩
              simp? only []
              exact ⟨J, a2, b2, ws, R, rfl⟩
            · rintro x ⟨k, hk, rfl, hmk⟩
              exact ⟨k, hk, rfl, fun d => by rw [m1 d, hmk]⟩
          rintro S ⟨J, a2, b2, ws, R, rfl⟩
          have m2 : ∀ d, mach a (W.drop a) b d 0 = mach a2 (W.drop a2) b2 (d + 1) 4 := fun d => by rw [m1 d, R.m]
          refine ox_cut (fun S => W[a2]? = some (")" : Str) ∧ S = [(some (Sl.mk false (.lst (W.map .str)))), (some (Sl.mk false (.int (a2 : Nat)))), (some (Sl.mk false (.int (b2 : Nat)))), (some (Sl.mk true (.lst (valsR rr)))), r, c, (some (Sl.mk true (.lst (done.map (·.1))))), (some (Sl.mk false (J)))]) ?_ ?_
          · refine ox_if (ox_tB (ox_2 (ox_CX ?_)))
            refine ox_ok ?_
            simp? only []
            refine (p_word (a := a2) hl R.le).mono ?_ ?_
            · rintro dv ⟨w, hw2, rfl⟩
              simp? only []
              rw [neS (hW.w w (List.mem_of_getElem? hw2)).1 so_r, ok_ok]
              simp? only []
              by_cases hr : w = ")"
              · subst hr
                refine ⟨fun q => ?_, fun _ => ox_ok ?_⟩
                · rw [decide_eq_true rfl] at q
                  exact Bool.noConfusion q
                · simp? only []
                  exact hw2
              · refine ⟨fun _ => ox_excI ?_, fun q => ?_⟩
                · simp? only []
                  exact ⟨a2 + 1, by omega, by simp, fun d => by rw [m2 d]; exact mach_bad hw2 (R.stop w hw2) fun q => hr q.1⟩
                · rw [decide_eq_false hr] at q
                  exact Bool.noConfusion q
            · rintro x ⟨he, rfl⟩
              exact ⟨a2 + 1, by omega, rfl, fun d => by rw [m2 d]; exact mach_end he (by omega)⟩
          rintro S ⟨hw2, rfl⟩
          have ha2 : a2 < W.length := (List.getElem?_eq_some_iff.mp hw2).1
          have L2 : LI W rr a b (a2 + 1) b2 (done ++ [(J, ws)]) := by
            refine ⟨?_, by omega, by have := L.bb; have := R.bb; omega, R.b3, ?_, ?_, fun d => by rw [m2 d, mach_close hw2]⟩
            · rw [L.seg, drop_at hw, R.seg, drop_at hw2, List.map_append, gflat_app]
              simp [gflat]
            · have := L.dl; have := R.bb
              rw [List.length_append, List.length_singleton]
              omega
            · intro p hp
              rcases List.mem_append.mp hp with hp | hp
              · exact L.j p hp
              · rw [List.mem_singleton] at hp
                subst hp
                exact R.j.le (by have := L.bb; omega)
          have hdl := L.dl
          have hb2 := L.b3
          have y := ihn fuel (a2 + 1) b2 (done ++ [(J, ws)]) (some (Sl.mk false (J))) (by have := R.bb; omega) (by omega) L2
          refine ox_ok ?_
          simp? only []
          refine ⟨by omega, ?_⟩
          rw [show ((a2 : Nat) : Int) + 1 = ((a2 + 1 : Nat) : Int) by omega]
          rw [List.map_append] at y
          exact y
        · have ht' : ¬ (W[a1]? = some ("(" : Str) ∧ b1 < 3) := fun q => by have := ht.mpr q; rw [e] at this; exact Bool.noConfusion this
          exact ht' ⟨by rw [hw, z.1], z.2⟩
    rintro S ⟨a1, b1, done, o, L, hst, rfl⟩
    refine ox_ok ?_
    simp? only []
    refine ⟨_, rfl, jD rr (done.map (·.1)), a1, b1, rowW rr ++ gflat (done.map (·.2)), rfl, ?_, L.seg, L.le, L.bb, L.b3, L.m, hst⟩
    rw [show 4 - b = (3 - b) + 1 by omega]
    exact .mk _ rr done hrr (by have := L.dl; have := L.b3; omega) L.j
set_option Elab.async false
set_option linter.all false
set_option maxRecDepth 100000
open M PySem L2
inductive Pln : Nat → D → Prop where
  | int (n : Nat) (i : Int) : Pln n (.int i)
  | str (n : Nat) (x : Str) : PyData.strOk x = true → Pln n (.str x)
  | tup (n : Nat) (ds : List D) : ds.length ≤ 100 → (∀ d ∈ ds, Pln n d) → Pln (n + 1) (.tup ds)
theorem p_same : ∀ (n : Nat) (d : D), Pln n d → Ok (d__law_same' (n + 1) [d, d]) fun z => z = .bl true := by
  have hs := size_ge
  intro n
  induction n with
  | zero =>
    intro d h
    show Ok ((runF false 3 (m__law_same (d__law_same' 0)) _).nox) _
    unfold m__law_same
    rw [ok_nox, k_run]
    cases h with
    | int _ i =>
      dsimp? only []
      rw [show isi2D "tuple" "list" (.int i) = .ok (.bl false) by kernel_rfl, ok_ok]
      dsimp? only [isD_non]
      rw [show (D.int i).isNon = false from rfl]
      dsimp? only []
      rw [show isiD (.int i) (.ty "str") = .ok (.bl false) by kernel_rfl, ok_ok]
      dsimp? only []
      rw [show isiD (.int i) (.ty "int") = .ok (.bl true) by kernel_rfl, ok_ok]
      dsimp? only []
      rw [show isiD (.int i) (.ty "bool") = .ok (.bl false) by kernel_rfl, ok_ok]
      dsimp? only []
      simp
    | str _ x hx =>
      dsimp? only []
      rw [show isi2D "tuple" "list" (.str x) = .ok (.bl false) by kernel_rfl, ok_ok]
      dsimp? only [isD_non]
      rw [show (D.str x).isNon = false from rfl]
      dsimp? only []
      rw [show isiD (.str x) (.ty "str") = .ok (.bl true) by kernel_rfl, ok_ok]
      dsimp? only []
      have e : eqD (.str x) (.str x) = .ok (.bl true) := by unfold eqD; simp only [dok, hx, deq]; simp
      rw [e, ok_ok]
  | succ n ih =>
    intro d h
    show Ok ((runF false 3 (m__law_same (d__law_same' (n + 1))) _).nox) _
    unfold m__law_same
    rw [ok_nox, k_run]
    cases h with
    | int _ i =>
      dsimp? only []
      rw [show isi2D "tuple" "list" (.int i) = .ok (.bl false) by kernel_rfl, ok_ok]
      dsimp? only [isD_non]
      rw [show (D.int i).isNon = false from rfl]
      dsimp? only []
      rw [show isiD (.int i) (.ty "str") = .ok (.bl false) by kernel_rfl, ok_ok]
      dsimp? only []
      rw [show isiD (.int i) (.ty "int") = .ok (.bl true) by kernel_rfl, ok_ok]
      dsimp? only []
      rw [show isiD (.int i) (.ty "bool") = .ok (.bl false) by kernel_rfl, ok_ok]
      dsimp? only []
      simp
    | str _ x hx =>
      dsimp? only []
      rw [show isi2D "tuple" "list" (.str x) = .ok (.bl false) by kernel_rfl, ok_ok]
      dsimp? only [isD_non]
      rw [show (D.str x).isNon = false from rfl]
      dsimp? only []
      rw [show isiD (.str x) (.ty "str") = .ok (.bl true) by kernel_rfl, ok_ok]
      dsimp? only []
      have e : eqD (.str x) (.str x) = .ok (.bl true) := by unfold eqD; simp only [dok, hx, deq]; simp
      rw [e, ok_ok]
    | tup _ ds hl hd =>
      have nf : ∀ b : Bool, neD (.bl b) (.bl b) = .ok (.bl false) := fun b => by unfold neD; simp [dok, deq]
      dsimp? only []
      rw [show isi2D "tuple" "list" (.tup ds) = .ok (.bl true) by kernel_rfl, ok_ok]
      dsimp? only []
      rw [show isiD (.tup ds) (.ty "tuple") = .ok (.bl true) by kernel_rfl, ok_ok, ok_ok]
      rw [nf, ok_ok]
      dsimp? only []
      rw [show isiD (.tup ds) (.ty "list") = .ok (.bl false) by kernel_rfl, ok_ok, ok_ok]
      rw [nf, ok_ok]
      dsimp? only []
      simp only [decide_true, true_implies, Bool.true_eq_false, false_implies, and_true]
      refine k_lcM (fun i : Nat => D.int (0 + (i : Int))) (fun _ => .bl true) (List.range ds.length) ?_ (by simp; omega) ?_ ?_
      · dsimp? only []
        refine ⟨⟨by omega, by omega⟩, ?_⟩
        rw [Int.toNat_natCast]; rfl
      · intro i hi
        have hi : i < ds.length := by simpa using hi
        obtain ⟨x, hx⟩ := atI_lt (xs := ds) (i := 0 + (i : Int)) (by omega) (by omega)
        dsimp? only [wipeS]
        refine ⟨x, hx, x, hx, ?_⟩
        exact ih x (hd x (atI_mem hx))
      · rw [k_all]
        simp
theorem spl_ne (k : Nat) (acc cs : List Nat) : TL.spl [32] k acc cs ≠ [] := by
  induction cs generalizing k acc with
  | nil => rw [TL.spl_nil]; simp
  | cons c r ih =>
    cases k with
    | zero =>
      unfold TL.spl
      split
      · simp
      · exact ih _ _
    | succ k => exact ih _ _
theorem joinL_cons {S p : List Nat} {l : List (List Nat)} (h : l ≠ []) : TL.joinL S (p :: l) = p ++ (S ++ TL.joinL S l) := by
  cases l with
  | nil => exact absurd rfl h
  | cons q r => rfl
theorem pre_32 (c : Nat) (r : List Nat) : TL.pre [32] (c :: r) = decide (c = 32) := by
  unfold TL.pre
  show ([c] == [32]) = _
  by_cases h : c = 32
  · subst h; rfl
  · rw [decide_eq_false h]
    simp [h]
theorem spl_c (acc : List Nat) (c : Nat) (r : List Nat) : TL.spl [32] 0 acc (c :: r) = if c = 32 then acc :: TL.spl [32] 0 [] r else TL.spl [32] 0 (acc ++ [c]) r := by
  by_cases h : c = 32
  · rw [if_pos h, TL.spl_hit (by rw [pre_32, decide_eq_true h])]
    rfl
  · rw [if_neg h, TL.spl_miss (by rw [pre_32, decide_eq_false h])]
theorem spl_join' (acc cs : List Nat) : TL.joinL [32] (TL.spl [32] 0 acc cs) = acc ++ cs := by
  induction cs generalizing acc with
  | nil => rw [TL.spl_nil]; simp [TL.joinL]
  | cons c r ih =>
    rw [spl_c]
    split
    · rename_i h
      subst h
      rw [joinL_cons (spl_ne _ _ _), ih]
      rfl
    · rw [ih]
      simp
theorem spl_mem (acc cs : List Nat) : ∀ p ∈ TL.spl [32] 0 acc cs, p.length ≤ acc.length + cs.length ∧ ∀ c ∈ p, c ∈ acc ++ cs := by
  induction cs generalizing acc with
  | nil =>
    rw [TL.spl_nil]
    intro p hp
    rw [List.mem_singleton] at hp
    subst hp
    exact ⟨by simp, fun c hc => by simpa using hc⟩
  | cons c r ih =>
    rw [spl_c]
    split
    · intro p hp
      rcases List.mem_cons.mp hp with rfl | hp
      · exact ⟨by simp, fun c hc => List.mem_append_left _ hc⟩
      · obtain ⟨h1, h2⟩ := ih [] p hp
        simp only [List.length_nil, List.nil_append] at h1 h2
        exact ⟨by rw [List.length_cons]; omega, fun c hc => List.mem_append_right _ (List.mem_cons_of_mem _ (h2 c hc))⟩
    · intro p hp
      obtain ⟨h1, h2⟩ := ih _ p hp
      rw [List.length_append, List.length_singleton] at h1
      refine ⟨by rw [List.length_cons]; omega, fun c hc => ?_⟩
      have := h2 c hc
      simpa using this
theorem spl_len (acc cs : List Nat) : (TL.spl [32] 0 acc cs).length ≤ cs.length + 1 := by
  induction cs generalizing acc with
  | nil => rw [TL.spl_nil]; simp
  | cons c r ih =>
    rw [spl_c]
    split
    · have := ih []
      simp only [List.length_cons]; omega
    · have := ih (acc ++ [c])
      simp only [List.length_cons]; omega
def wds (T : Str) : List Str := Txt.split T " "
theorem wds_spl (T : Str) : (wds T).map TL.tl = TL.spl [32] 0 [] (TL.tl T) := TL.split_spl T " " (by decide) (TL.kind_ok (by decide +kernel))
theorem so_iff {w : Str} : SO w ↔ ∀ c ∈ TL.tl w, c < 0x110000 := by
  unfold SO PyData.strOk
  rw [← Array.all_toList, List.all_eq_true]
  exact ⟨fun h c hc => of_decide_eq_true (h c hc), fun h c hc => decide_eq_true (h c hc)⟩
structure TOk (T : Str) : Prop where
  so : SO T
  len : (TL.tl T).length ≤ 400
theorem wds_ok {T : Str} (h : TOk T) : WSo (wds T) := by
  have e := wds_spl T
  refine ⟨?_, fun w hw => ?_⟩
  · have h1 := spl_len [] (TL.tl T)
    rw [← e, List.length_map] at h1
    have := h.len
    omega
  · have hm : TL.tl w ∈ TL.spl [32] 0 [] (TL.tl T) := by rw [← e]; exact List.mem_map_of_mem hw
    obtain ⟨h1, h2⟩ := spl_mem [] (TL.tl T) _ hm
    have hl := h.len
    refine ⟨so_iff.mpr fun c hc => so_iff.mp h.so c (by simpa using h2 c hc), ?_⟩
    rw [List.length_nil] at h1
    show (TL.tl w).length ≤ 500
    omega
theorem wds_join (T : Str) : Txt.join " " (wds T) = T := by
  rw [TL.join_eq]
  refine TL.ext_tl ?_
  rw [TL.tl_join, wds_spl]
  exact spl_join' [] (TL.tl T)
theorem p_splitW {T : Str} (h : TOk T) : splitD (.str T) (.str " ") = .ok (.lst ((wds T).map .str)) := by
  have hs := size_ge
  unfold splitD
  dsimp only
  rw [if_pos ⟨rfl, by rw [TL.len_tl]; have := h.len; omega⟩]
  rfl
theorem p_row_read {T : Str} (h : TOk T) : OkX (d_read_row [.str T]) (fun J => mach 0 (wds T) 1 0 0 = 0 ∧ JW 3 J (wds T)) (fun x => ∃ k : Nat, 1 ≤ k ∧ x = ⟨16, [.int 1, .int k]⟩ ∧ mach 0 (wds T) 1 0 0 = k) := by
  have hs := size_ge
  have hW := wds_ok h
  have hl := hW.l
  have es := p_splitW h
  generalize wds T = W at hW hl es ⊢
  unfold d_read_row m_read_row
  refine ox_run (ox_cut (fun S => S = [(some (Sl.mk false (.str T))), (some (Sl.mk false (.lst (W.map .str)))), none, none, none]) (ox_ok ?_) ?_)
  · simp? only [k_eM1]
    refine ⟨rfl, ?_⟩
    rw [es, ok_ok]
  rintro S rfl
  refine ox_cut (fun S => ∃ (J : D) (a b : Nat) (ws : List Str), RdOk W 0 1 J a b ws ∧ S = [(some (Sl.mk false (.str T))), (some (Sl.mk false (.lst (W.map .str)))), (some (Sl.mk false (J))), (some (Sl.mk false (.int a))), (some (Sl.mk false (.int b)))]) ?_ ?_
  · refine ox_asg (ox_CX (ox_ok ?_))
    simp? only []
    refine OkX.mono (p_readj hW 5 0 1 (by omega) (by omega) (by omega) (by omega)) ?_ ?_
    · rintro rv ⟨J, a, b, ws, rfl, R⟩
      simp? only []
      exact ⟨J, a, b, ws, R, rfl⟩
    · rintro x ⟨k, hk, rfl, hm⟩
      exact ⟨k, hk, rfl, by simpa using hm 0⟩
  rintro S ⟨J, a, b, ws, R, rfl⟩
  have hm : mach 0 W 1 0 0 = mach a (W.drop a) b 0 4 := by simpa using R.m 0
  have hseg : W = ws ++ W.drop a := by simpa using R.seg
  refine ox_cut (fun S => a = W.length ∧ S = [(some (Sl.mk false (.str T))), (some (Sl.mk false (.lst (W.map .str)))), (some (Sl.mk false (J))), (some (Sl.mk false (.int a))), (some (Sl.mk false (.int b)))]) ?_ ?_
  · refine ox_if (ox_ok ?_)
    have hle := R.le
    simp? only []
    refine ⟨fun q => ox_excI ?_, fun q => ox_ok ?_⟩
    · have q := of_decide_eq_true q
      obtain ⟨w, hw⟩ : ∃ w, W[a]? = some w := ⟨W[a]'(by omega), List.getElem?_eq_getElem (by omega)⟩
      simp? only []
      exact ⟨a + 1, by omega, by simp, by rw [hm]; exact mach_bad hw (R.stop w hw) fun z => by have := z.2; omega⟩
    · have q := of_decide_eq_false q
      simp? only []
      omega
  rintro S ⟨ha, rfl⟩
  refine ox_ok ?_
  simp? only []
  have e0 : W.drop a = [] := List.drop_eq_nil_of_le (by omega)
  rw [e0, List.append_nil] at hseg
  refine ⟨_, rfl, ?_, ?_⟩
  · rw [hm, e0]
    unfold mach
    rw [if_pos ⟨rfl, rfl⟩]
  · rw [hseg]
    exact R.j
set_option Elab.async false
set_option linter.all false
set_option maxRecDepth 100000
open M PySem L2
theorem p_wrong {W : List Str} (hW : WSo W) : d__law_wrong_word [.lst (W.map .str)] = .ok (.int (mach 0 W 1 0 0 : Nat)) := by
  have hs := size_ge
  have hl := hW.l
  refine Ok.eq ?_
  unfold d__law_wrong_word m__law_wrong_word
  rw [ok_nox, k_run]
  refine seq_cut (fun S => S = [(some (Sl.mk false (.lst (W.map .str)))), (some (Sl.mk false (.int 1))), (some (Sl.mk false (.int 0))), (some (Sl.mk false (.int 0))), none]) (by simp? only []) ?_
  rintro S rfl
  generalize hM : mach 0 W 1 0 0 = M0
  rw [k_seq]
  simp? only []
  refine ⟨⟨by omega, by omega⟩, ?_⟩
  refine for_inv (fun i S => ∃ (b d p : Nat) (k : Option Sl), i ≤ W.length ∧ p ≤ 4 ∧ M0 = mach i (W.drop i) b d p ∧ S = [(some (Sl.mk false (.lst (W.map .str)))), (some (Sl.mk false (.int b))), (some (Sl.mk false (.int d))), (some (Sl.mk false (.int p))), k]) _ 0 _ ⟨1, 0, 0, none, by omega, by omega, by rw [List.drop_zero, hM], rfl⟩ ?_ ?_
  · rintro i dv S hd ⟨b, d, p, k, hi, hp, hm, rfl⟩
    obtain ⟨hi2, rfl⟩ := rngL_get hd
    rw [Nat.zero_add] at hi hm ⊢
    have hlt : i < W.length := by
      have := hi2
      simp at this
      omega
    obtain ⟨w, hw⟩ : ∃ w, W[i]? = some w := ⟨W[i], List.getElem?_eq_getElem hlt⟩
    obtain ⟨w1, w2⟩ := hW.w w (List.mem_of_getElem? hw)
    have ha : L2.atI (W.map D.str) (0 + (i : Int)) = some (.str w) := by
      unfold L2.atI ixN
      rw [if_pos (by omega), if_pos (by simp; omega)]
      simp [hw]
    rw [k_gN]
    simp? only []
    refine ⟨fun hp4 => ⟨.str w, ha, ?_⟩, fun hp4 => ⟨.str w, ha, ?_⟩⟩
    · have hp4 : p < 4 := by have := of_decide_eq_true hp4; omega
      rw [p_fits hp4 w1 w2, ok_ok]
      show Ok (R.ok (fitB p w)) _
      rw [ok_ok]
      by_cases hf : Fit p w
      · rw [fitB_t hf]
        refine ⟨fun z => Bool.noConfusion z, fun _ => ⟨b, d, p + 1, (some (Sl.mk false (.int (0 + (i : Int))))), by omega, by omega, by rw [hm, mach_fit hw hp4 hf], ?_⟩⟩
        rw [show ((p + 1 : Nat) : Int) = (p : Int) + 1 by omega]
      · rw [fitB_f hf]
        refine ⟨fun _ => ?_, fun z => Bool.noConfusion z⟩
        rw [hm, mach_unfit hw hp4 hf, show (0 : Int) + (i : Int) + 1 = ((i + 1 : Nat) : Int) by omega]
    · have hp4 : p = 4 := by have := of_decide_eq_false hp4; omega
      subst hp4
      have third : ∀ {QQ : D → Prop}, (decide (w = (")" : Str)) = true → QQ (.bl true)) → (decide (w = (")" : Str)) = false → QQ (.bl false)) → ∃ d1, L2.atI (W.map D.str) (0 + (i : Int)) = some d1 ∧ Ok (eqD d1 (.str ")")) QQ := fun {QQ} h1 h2 => by
        refine ⟨_, ha, ?_⟩
        rw [eqS w1 so_r, ok_ok]
        cases e : decide (w = (")" : Str)) with
        | true => exact h1 e
        | false => exact h2 e
      have bad : ¬ (w = "(" ∧ b < 3) → ¬ (w = ")" ∧ 0 < d) → D.int (0 + (i : Int) + 1) = D.int (M0 : Nat) := fun h1 h2 => by
        rw [hm, mach_bad hw h1 h2, show (0 : Int) + (i : Int) + 1 = ((i + 1 : Nat) : Int) by omega]
      have fin : ¬ (w = "(" ∧ b < 3) → ∃ d1, L2.atI (W.map D.str) (0 + (i : Int)) = some d1 ∧ Ok (eqD d1 (.str ")")) fun x => Ok (toB x) fun b1 => (b1 = true → (decide ((0 : Int) < (d : Int)) = true → ∃ b_2 d_2 p k, i + 1 ≤ W.length ∧ p ≤ 4 ∧ M0 = mach (i + 1) (W.drop (i + 1)) b_2 d_2 p ∧ [(some (Sl.mk false (.lst (W.map .str)))), (some (Sl.mk false (.int b))), (some (Sl.mk false (.int ((d : Int) - 1)))), (some (Sl.mk false (.int (4 : Nat)))), (some (Sl.mk false (.int (0 + (i : Int)))))] = [(some (Sl.mk false (.lst (W.map .str)))), (some (Sl.mk false (.int (b_2 : Nat)))), (some (Sl.mk false (.int (d_2 : Nat)))), (some (Sl.mk false (.int (p : Nat)))), k]) ∧ (decide ((0 : Int) < (d : Int)) = false → D.int (0 + (i : Int) + 1) = D.int (M0 : Nat))) ∧ (b1 = false → D.int (0 + (i : Int) + 1) = D.int (M0 : Nat)) := fun h1 => by
        refine third (fun e => ?_) (fun e => ?_)
        · have e := of_decide_eq_true e
          show Ok (R.ok true) _
          rw [ok_ok]
          refine ⟨fun _ => ⟨fun hd => ?_, fun hd => ?_⟩, fun z => Bool.noConfusion z⟩
          · have hd := of_decide_eq_true hd
            obtain ⟨d', rfl⟩ : ∃ d', d = d' + 1 := ⟨d - 1, by omega⟩
            refine ⟨b, d', 4, (some (Sl.mk false (.int (0 + (i : Int))))), by omega, by omega, by rw [hm, mach_close (by rw [hw, e])], ?_⟩
            rw [show ((d' + 1 : Nat) : Int) - 1 = (d' : Int) by omega]
          · have hd := of_decide_eq_false hd
            exact bad h1 fun z => by have := z.2; omega
        · have e := of_decide_eq_false e
          show Ok (R.ok false) _
          rw [ok_ok]
          exact ⟨fun z => Bool.noConfusion z, fun _ => bad h1 fun z => e z.1⟩
      rw [eqS w1 so_l, ok_ok]
      simp? only []
      refine ⟨fun hq => ⟨fun hb => ?_, fun hb => ?_⟩, fun hq => ?_⟩
      · have hq := of_decide_eq_true hq
        have hb := of_decide_eq_true hb
        refine ⟨b + 1, d + 1, 0, (some (Sl.mk false (.int (0 + (i : Int))))), by omega, by omega, by rw [hm, mach_open (by rw [hw, hq]) (by omega)], ?_⟩
        rfl
      · have hb := of_decide_eq_false hb
        exact fin fun z => by have := z.2; omega
      · have hq := of_decide_eq_false hq
        exact fin fun z => hq z.1
  · rintro S ⟨b, d, p, k, hi, hp, hm, rfl⟩
    rw [rngL_len, Nat.zero_add] at hi hm
    rw [Int.toNat_natCast, List.drop_eq_nil_of_le (Nat.le_refl _)] at hm
    unfold mach at hm
    simp? only []
    refine ⟨fun h4 => ⟨fun h0 => ?_, fun h0 => ?_⟩, fun h4 => ?_⟩
    · have h4 := of_decide_eq_true h4
      have h0 := of_decide_eq_true h0
      rw [hm, if_pos ⟨by omega, by omega⟩]
      rfl
    · have h0 := of_decide_eq_false h0
      rw [hm, if_neg fun z => h0 (by have := z.2; omega)]
      rfl
    · have h4 := of_decide_eq_false h4
      rw [hm, if_neg fun z => h4 (by have := z.1; omega)]
      rfl
theorem gflat_len {B : Nat} : ∀ l : List (List Str), (∀ ws ∈ l, ws.length ≤ B) → (gflat l).length ≤ (B + 2) * l.length
  | [], _ => by simp [gflat]
  | ws :: l, h => by
    have h1 := h ws (by simp)
    have h2 := gflat_len l fun x hx => h x (by simp [hx])
    simp only [gflat, List.length_append, List.length_cons, List.length_nil]
    rw [Nat.mul_add]
    omega
def bnd : Nat → Nat
  | 0 => 0
  | n + 1 => 8 + 2 * bnd n
theorem jw_len {n : Nat} {d : D} {ws : List Str} (h : JW n d ws) : ws.length ≤ bnd n := by
  induction h with
  | mk n r gl hr hl h ih =>
    have wl : (rowW r).length = 4 := rfl
    have := gflat_len (B := bnd n) (gl.map (·.2)) (fun ws hw => by obtain ⟨p, hp, rfl⟩ := List.mem_map.mp hw; exact ih p hp)
    rw [List.length_map] at this
    have h3 : (bnd n + 2) * gl.length ≤ (bnd n + 2) * 2 := Nat.mul_le_mul_left _ hl
    rw [List.length_append, wl]
    show 4 + _ ≤ 8 + 2 * bnd n
    omega
theorem jw_words {n : Nat} {d : D} {ws : List Str} (h : JW n d ws) : n ≤ 3 → ∀ m, n ≤ m → Wd d__law_words' m (d, ws) := by
  induction h with
  | mk n r gl hr hl h ih =>
    intro hn m hm
    obtain ⟨m, rfl⟩ : ∃ q, m = q + 1 := ⟨m - 1, by omega⟩
    refine ⟨?_, step_lwords hr gl (fun p hp => ih p hp (by omega) m (by omega)) (by omega)⟩
    have := jw_len (JW.mk n r gl hr hl h)
    have b3 : bnd (n + 1) ≤ 100 := by
      rcases (show n = 0 ∨ n = 1 ∨ n = 2 by omega) with rfl | rfl | rfl <;> decide
    exact Nat.le_trans this b3
theorem isi_tup (xs : List D) : isiD (.tup xs) (.ty "tuple") = .ok (.bl true) := by kernel_rfl
theorem isi_ii (n : Int) : isiD (.int n) (.ty "int") = .ok (.bl true) := by kernel_rfl
theorem isi_ib (n : Int) : isiD (.int n) (.ty "bool") = .ok (.bl false) := by kernel_rfl
theorem jw_is {n : Nat} {d : D} {ws : List Str} (h : JW n d ws) : ∀ f m : Nat, n ≤ f → n ≤ m → d__law_is_joint' f [d, .int m] = .ok (.bl true) := by
  have hs := size_ge
  induction h with
  | mk n r gl hr hl h ih =>
    intro f m hf hm
    obtain ⟨f, rfl⟩ : ∃ q, f = q + 1 := ⟨f - 1, by omega⟩
    obtain ⟨m, rfl⟩ : ∃ q, m = q + 1 := ⟨m - 1, by omega⟩
    obtain ⟨hb, hcl, hc, hn, hmm⟩ := hr
    refine Ok.eq ?_
    show Ok ((runF false 7 (m__law_is_joint (d__law_is_joint' f)) _).nox) _
    unfold m__law_is_joint
    rw [ok_nox, k_run]
    have e0 : decide (((m + 1 : Nat) : Int) = 0) = false := decide_eq_false (by omega)
    refine pass_if ?_ ?_
    · show Ok (tO _ _ [(some (Sl.mk false (.tup [rowD r, .tup (gl.map (·.1))]))), _, none, none, none, none, none]) _
      simp? only [e0, isi_tup]
      decide
    refine seq_cut (fun S => S = [(some (Sl.mk false (jD r (gl.map (·.1))))), (some (Sl.mk false (.int (m + 1 : Nat)))), (some (Sl.mk false (rowD r))), (some (Sl.mk false (.tup (gl.map (·.1))))), none, none, none]) (by simp? only [k_gj]) ?_
    rintro S rfl
    refine pass_if ?_ ?_
    · show Ok (tO _ _ [_, _, (some (Sl.mk false (.tup [.int r.bit, csD r.cs, .int r.ran, .int r.more]))), _, none, none, none]) _
      simp? only [isi_tup]
      decide
    have r0 : ∀ {Q : D → Prop}, Ok (ixD (rowD r) (.int 0)) Q ↔ Q (.int r.bit) := fun {Q} => ok_ok
    have r1 : ∀ {Q : D → Prop}, Ok (ixD (rowD r) (.int 1)) Q ↔ Q (csD r.cs) := fun {Q} => ok_ok
    have r2 : ∀ {Q : D → Prop}, Ok (ixD (rowD r) (.int 2)) Q ↔ Q (.int r.ran) := fun {Q} => ok_ok
    have r3 : ∀ {Q : D → Prop}, Ok (ixD (rowD r) (.int 3)) Q ↔ Q (.int r.more) := fun {Q} => ok_ok
    have isc : isiD (csD r.cs) (.ty "tuple") = .ok (.bl true) := isi_tup _
    refine pass_if (by simp? only [r1, isc]) ?_
    refine seq_cut (fun S => ∃ o, S = [(some (Sl.mk false (jD r (gl.map (·.1))))), (some (Sl.mk false (.int (m + 1 : Nat)))), (some (Sl.mk false (rowD r))), (some (Sl.mk false (.tup (gl.map (·.1))))), o, none, none]) ?_ ?_
    · have lc : lstD (csD r.cs) = .ok (.lst (r.cs.map .int)) := rfl
      rw [k_for]
      refine Ok.mono (P := fun ds => ds = ([r.bit, r.ran, r.more] ++ r.cs).map D.int) (by simp? only [r0, r1, r2, r3, lc]; omega) ?_
      rintro ds rfl
      refine for_typed D.int (fun _ S => ∃ o, S = [(some (Sl.mk false (jD r (gl.map (·.1))))), (some (Sl.mk false (.int (m + 1 : Nat)))), (some (Sl.mk false (rowD r))), (some (Sl.mk false (.tup (gl.map (·.1))))), o, none, none]) _ _ ⟨none, rfl⟩ ?_ ?_
      · rintro done x rest S e ⟨o, rfl⟩
        simp? only [isi_ii, isi_ib]
        exact ⟨_, rfl⟩
      · rintro S ⟨o, rfl⟩
        exact ⟨rfl, o, rfl⟩
    rintro S ⟨o, rfl⟩
    have nin : ∀ (x : Int) (l : List Int), x ∈ l → notInD (.int x) (.tup (l.map .int)) = .ok (.bl false) := fun x l h => by
      simp only [notInD, inD', flat_ints, any_int, flatD, Bool.and_self, if_true]
      rw [decide_eq_true h]
      rfl
    have n0 := nin r.bit [0, 1] (by rcases hb with h | h <;> rw [h] <;> decide)
    have n2 := nin r.ran [-1, 0, 1, 2] (by rcases hn with h | h | h | h <;> rw [h] <;> decide)
    have n3 := nin r.more [0, 1] (by rcases hmm with h | h <;> rw [h] <;> decide)
    simp only [List.map_cons, List.map_nil] at n0 n2 n3
    refine pass_if ?_ ?_
    · simp? only [r0, r1, r2, r3, n0, n2, n3]
    refine pass_if ?_ ?_
    · simp? only [r1]
      refine k_lcT D.int (fun _ => false) D.int r.cs (by simp? only [r1, k_itC]) (by omega) ?_ ?_
      · intro c hcm
        have n5 := nin c [-1, 0, 1] (by rcases hc c hcm with h | h | h <;> rw [h] <;> decide)
        simp only [List.map_cons, List.map_nil] at n5
        simp? only [n5]
      · have ef : (r.cs.filter fun _ => false) = [] := by simp
        rw [ef]
        simp? only []
        decide
    rw [k_ret, k_C, k_c]
    refine k_lcM (fun p : D × List Str => p.1) (fun _ => .bl true) gl (by simp? only []) (by omega) ?_ ?_
    · intro p hp
      simp? only []
      have z := ih p hp f m (by omega) (by omega)
      rw [show ((m + 1 : Nat) : Int) - 1 = (m : Int) by omega, z, ok_ok]
    · simp? only []
      rw [k_all]
      simp
theorem seq_rt {s r : FS} {S : M.Env} {d : D} (h : Ok (s S) fun z => z.1 = .rt d) : Ok (sSeq s r S) fun z => match z.1 with | .rt x => x = d | _ => False := by
  obtain ⟨⟨fl, S1⟩, e, h1⟩ := h
  dsimp only at h1
  subst h1
  unfold sSeq
  rw [e]
  exact ⟨_, rfl, rfl⟩
theorem hnd_ok {h : FS} {S : M.Env} (z : Ok (h S) fun z => match z.1 with | .rt x => x = .bl true | _ => False) : Ok (hndF h S) fun z => z.1 = .rt (.bl true) := by
  obtain ⟨⟨fl, S1⟩, e, h1⟩ := z
  cases fl with
  | rt x =>
    dsimp only at h1
    subst h1
    unfold hndF
    rw [e]
    exact ⟨_, rfl, rfl⟩
  | _ => exact h1.elim
theorem p_refused {T : Str} {k : Nat} (h : d_read_row [.str T] = .exc ⟨16, [.int 1, .int k]⟩) : d__law_refused_word [.str T, .int k] = .ok (.bl true) := by
  have hs := size_ge
  have e1 : sDrop (eCX d_read_row (aC (eV 0) aN)) [(some (Sl.mk false (.str T))), (some (Sl.mk false (.int k))), none] = .exc ⟨16, [.int 1, .int k]⟩ := by
    show (d_read_row [.str T] >>= _) = _
    rw [h]; rfl
  have pl : Pln 1 (.tup [.int 1, .int k]) := .tup 0 _ (by simp) fun d hd => by
    simp only [List.mem_cons, List.not_mem_nil, or_false] at hd
    rcases hd with rfl | rfl <;> exact .int _ _
  have es : d__law_same [.tup [.int 1, .int k], .tup [.int 1, .int k]] = .ok (.bl true) := by
    obtain ⟨d, e, rfl⟩ := p_same 3 _ (Pln.tup 2 _ (by simp) fun d hd => by
      simp only [List.mem_cons, List.not_mem_nil, or_false] at hd
      rcases hd with rfl | rfl <;> exact .int _ _ : Pln 3 (.tup [.int 1, .int k]))
    exact e
  refine Ok.eq ?_
  unfold d__law_refused_word m__law_refused_word
  rw [ok_nox, k_run]
  have e2 : ∀ hnd : Exc → FS, sTryAs mt_BadText 2 (sDrop (eCX d_read_row (aC (eV 0) aN))) hnd [(some (Sl.mk false (.str T))), (some (Sl.mk false (.int k))), none] = hndF (hnd ⟨16, [.int 1, .int k]⟩) [(some (Sl.mk false (.str T))), (some (Sl.mk false (.int k))), (some (Sl.mk false (.cls xix)))] := fun hnd => by
    unfold sTryAs
    rw [if_pos (show noOwn [(some (Sl.mk false (.str T))), (some (Sl.mk false (.int k))), none] = true from rfl), e1]
    rfl
  generalize hy : (⟨16, [.int 1, .int k]⟩ : Exc) = y at e2
  have e4 : (aC (eT (aC (eXf y 16 0 (eW 2)) (aC (eXf y 16 1 (eW 2)) aN))) (aC (eT (aC (eI 1) (aC (eV 1) aN))) aN)) [(some (Sl.mk false (.str T))), (some (Sl.mk false (.int k))), (some (Sl.mk false (.cls xix)))] = .ok [.tup [.int 1, .int k], .tup [.int 1, .int k]] := by subst hy; kernel_rfl
  have e5 : Ok (eCH d__law_same (aC (eT (aC (eXf y 16 0 (eW 2)) (aC (eXf y 16 1 (eW 2)) aN))) (aC (eT (aC (eI 1) (aC (eV 1) aN))) aN)) [(some (Sl.mk false (.str T))), (some (Sl.mk false (.int k))), (some (Sl.mk false (.cls xix)))]) fun d => d = .bl true := by
    unfold eCH
    rw [e4, R.ok_bind, if_pos (by rfl), es]
    exact ⟨_, rfl, rfl⟩
  have x1 : isXD xtab y (.cls xix) (.tup [.cls 15, .cls 13, .cls 11, .cls 12, .cls 14]) = .ok (.bl false) := by subst hy; kernel_rfl
  have x2 : isXD xtab y (.cls xix) (.cls 10) = .ok (.bl true) := by subst hy; kernel_rfl
  have x3 : isXD xtab y (.cls xix) (.ty "ValueError") = .ok (.bl true) := by subst hy; kernel_rfl
  refine Ok.mono (seq_rt (d := .bl true) ?_) (fun z h => ?_)
  rotate_left
  · obtain ⟨fl, S1⟩ := z
    cases fl <;> first | exact h | exact h.elim
  show Ok (sTryAs _ _ _ _ [(some (Sl.mk false (.str T))), (some (Sl.mk false (.int k))), none]) _
  rw [e2]
  refine hnd_ok ?_
  refine pass_if (by simp? only [x1]) ?_
  rw [k_ret, k_And]
  simp? only [x2, x3]
  exact e5
theorem sum_le : ∀ (ws : List Str), (∀ w ∈ ws, w.cps.toList.length ≤ 500) → (ws.map (·.length)).sum ≤ 500 * ws.length
  | [], _ => by simp
  | w :: ws, h => by
    have h1 := sum_le ws fun x hx => h x (by simp [hx])
    have h2 : w.length ≤ 500 := by rw [TL.len_tl]; exact h w (by simp)
    simp only [List.map_cons, List.sum_cons, List.length_cons]
    omega
theorem p_right {T : Str} (hT : TOk T) : Ok (d__law_right_word [.str T]) fun d => d = .bl true := by
  have hs := size_ge
  have hW := wds_ok hT
  have z := p_row_read hT
  unfold d__law_right_word m__law_right_word
  rw [k_run]
  refine seq_cut (fun S => S = [(some (Sl.mk false (.str T))), (some (Sl.mk false (.int (mach 0 (wds T) 1 0 0 : Nat)))), none]) ?_ ?_
  · simp? only [k_eM1]
    refine ⟨rfl, ?_⟩
    rw [p_splitW hT, ok_ok, p_wrong hW, ok_ok]
  rintro S rfl
  cases e : d_read_row [.str T] with
  | ok J =>
    rw [e] at z
    obtain ⟨hm, hj⟩ := z
    rw [hm]
    refine pass_if (by simp? only []; decide) ?_
    refine seq_cut (fun S => S = [(some (Sl.mk false (.str T))), (some (Sl.mk false (.int (0 : Nat)))), (some (Sl.mk false (J)))]) (by simp? only [e]) ?_
    rintro S rfl
    rw [k_ret, k_And]
    simp? only []
    have h3 : d__law_is_joint [J, .int 3] = .ok (.bl true) := jw_is hj 5 3 (by omega) (by omega)
    rw [h3, ok_ok]
    simp? only [k_eM1]
    refine ⟨rfl, ?_⟩
    obtain ⟨_, wd⟩ := jw_words hj (by omega) 4 (by omega)
    refine Ok.mono (show Ok (d__law_words [J]) _ from wd) ?_
    rintro _ rfl
    have ej : joinD (.str " ") (.lst ((wds T).map .str)) = .ok (.str T) := by
      unfold joinD
      simp only [asS_map]
      have h1 := sum_le (wds T) fun w hw => (hW.w w hw).2
      have h2 := hW.l
      rw [if_pos (by show _ + (wds T).length * 1 ≤ _; omega), wds_join]
    rw [show ((J, wds T) : D × List Str).2 = wds T from rfl, ej, ok_ok, eqS hT.so hT.so, ok_ok, decide_eq_true rfl]
  | exc x =>
    rw [e] at z
    obtain ⟨k, hk, rfl, hm⟩ := z
    rw [hm]
    rw [k_seq, k_if]
    simp? only []
    refine ⟨fun _ => ?_, fun q => absurd (of_decide_eq_false q) (by omega)⟩
    rw [p_refused e, ok_ok]
  | fail => rw [e] at z; exact z.elim
set_option Elab.async false
set_option linter.all false
set_option maxRecDepth 100000
open M PySem L2
theorem joinL_len (S : List Nat) : ∀ (l : List (List Nat)), (∀ p ∈ l, p.length ≤ 4) → (TL.joinL S l).length ≤ l.length * (4 + S.length)
  | [], _ => by simp [TL.joinL]
  | [p], h => by
    have := h p (by simp)
    simp only [TL.joinL, List.length_cons, List.length_nil]
    omega
  | p :: q :: r, h => by
    have h1 := h p (by simp)
    have h2 := joinL_len S (q :: r) fun x hx => h x (by simp [hx])
    simp only [TL.joinL, List.length_append]
    rw [List.length_cons (a := p), Nat.add_mul]
    omega
theorem joinL_mem (S : List Nat) {c : Nat} : ∀ (l : List (List Nat)), c ∈ TL.joinL S l → c ∈ S ∨ ∃ p ∈ l, c ∈ p
  | [], h => by simp [TL.joinL] at h
  | [p], h => .inr ⟨p, by simp, h⟩
  | p :: q :: r, h => by
    simp only [TL.joinL, List.mem_append] at h
    rcases h with h | h | h
    · exact .inr ⟨p, by simp, h⟩
    · exact .inl h
    · rcases joinL_mem S (q :: r) h with h | ⟨x, hx, h⟩
      · exact .inl h
      · exact .inr ⟨x, List.mem_cons_of_mem _ hx, h⟩
def Gw (w : Str) : Prop := (TL.tl w).length ≤ 4 ∧ ∀ c ∈ TL.tl w, c < 128
instance (w : Str) : Decidable (Gw w) := by unfold Gw; infer_instance
structure Gws (n : Nat) (l : List Str) : Prop where
  len : l.length ≤ n
  w : ∀ w ∈ l, Gw w
theorem gw_code (n : Int) : Gw (sg (code n)) := by
  unfold code
  split
  · decide
  · split
    · decide
    · split <;> decide
theorem code_lt (n : Int) : code n < 128 := by
  unfold code
  split
  · decide
  · split
    · decide
    · split <;> decide
theorem gw_ew {cs : List Int} (h : cs.length ≤ 3) : Gw (ew cs) := by
  unfold ew
  split
  · decide
  · refine ⟨?_, fun c hc => ?_⟩
    · show (cs.map code).length ≤ 4
      rw [List.length_map]; omega
    · have hc : c ∈ cs.map code := hc
      obtain ⟨n, _, rfl⟩ := List.mem_map.mp hc
      exact code_lt n
theorem gw_mw (n : Int) : Gw (mw n) := by unfold mw; split <;> decide
theorem gw_gflat : ∀ l : List (List Str), (∀ ws ∈ l, ∀ w ∈ ws, Gw w) → ∀ w ∈ gflat l, Gw w
  | [], _, w, h => by cases h
  | ws :: l, h, w, hw => by
    simp only [gflat, List.mem_append, List.mem_cons, List.not_mem_nil, or_false] at hw
    rcases hw with (hw | hw | hw) | hw
    · subst hw; decide
    · exact h ws (by simp) w hw
    · subst hw; decide
    · exact gw_gflat l (fun x hx => h x (by simp [hx])) w hw
theorem jw_gw {n : Nat} {d : D} {ws : List Str} (h : JW n d ws) : ∀ w ∈ ws, Gw w := by
  induction h with
  | mk n r gl hr hl h ih =>
    intro w hw
    rcases List.mem_append.mp hw with hw | hw
    · simp only [rowW, List.mem_cons, List.not_mem_nil, or_false] at hw
      rcases hw with rfl | rfl | rfl | rfl
      · exact gw_code _
      · exact gw_ew hr.l
      · exact gw_code _
      · exact gw_mw _
    · exact gw_gflat _ (fun ws hws w hw => by obtain ⟨p, hp, rfl⟩ := List.mem_map.mp hws; exact ih p hp w hw) w hw
theorem jt_jw {d : D} (h : JT d) : ∃ ws, JW 3 d ws := by
  have lf : ∀ {r : RowT}, r.Ok → ∀ n, JW (n + 1) (jD r []) (rowW r ++ gflat []) := fun hr n => JW.mk n _ [] hr (by simp) (by simp)
  cases h with
  | one r hr => exact ⟨_, lf hr 2⟩
  | two r s hr hs => exact ⟨_, JW.mk 2 r [(jD s [], _)] hr (by simp) fun p hp => by rw [List.mem_singleton] at hp; subst hp; exact lf hs 1⟩
  | side r s t hr hs ht => exact ⟨_, JW.mk 2 r [(jD s [], _), (jD t [], _)] hr (by simp) fun p hp => by
      simp only [List.mem_cons, List.not_mem_nil, or_false] at hp
      rcases hp with rfl | rfl
      · exact lf hs 1
      · exact lf ht 1⟩
  | deep r s t hr hs ht => exact ⟨_, JW.mk 2 r [(jD s [jD t []], _)] hr (by simp) fun p hp => by
      rw [List.mem_singleton] at hp; subst hp
      exact JW.mk 1 s [(jD t [], _)] hs (by simp) fun p hp => by rw [List.mem_singleton] at hp; subst hp; exact lf ht 0⟩
theorem txt_ok {n : Nat} {l : List Str} (h : Gws n l) (hn : n ≤ 80) : joinD (.str " ") (.lst (l.map .str)) = .ok (.str (Txt.join " " l)) ∧ TOk (Txt.join " " l) := by
  have ht : TL.tl (Txt.join " " l) = TL.joinL [32] (l.map TL.tl) := by rw [TL.join_eq]; exact TL.tl_join " " l
  have hl := h.len
  refine ⟨?_, ?_, ?_⟩
  · unfold joinD
    simp only [asS_map]
    have h1 := sum_le l fun w hw => by have := (h.w w hw).1; show (TL.tl w).length ≤ 500; omega
    rw [if_pos (by show _ + l.length * 1 ≤ _; omega)]
  · refine so_iff.mpr fun c hc => ?_
    rw [ht] at hc
    rcases joinL_mem [32] _ hc with hc | ⟨p, hp, hc⟩
    · rw [List.mem_singleton] at hc; subst hc; decide
    · obtain ⟨w, hw, rfl⟩ := List.mem_map.mp hp
      have := (h.w w hw).2 c hc
      omega
  · rw [ht]
    have := joinL_len [32] (l.map TL.tl) (fun p hp => by obtain ⟨w, hw, rfl⟩ := List.mem_map.mp hp; exact (h.w w hw).1)
    rw [List.length_map] at this
    simp only [List.length_cons, List.length_nil] at this
    omega
def SG : Str := (" !\"#$&'()*+,-./0123456789:;<=>?@ABCDEFGHIJKLMNOPQRSTUVWXYZ[\\]^_`" : Str) ++ ("abcdefghijklmnopqrstuvwxyz{|}~\n\t" : Str)
def sgOk (i : Nat) : Bool := match ixD (.str SG) (.int i) with
  | .ok (.str x) => decide ((TL.tl x).length = 1) && (TL.tl x).all fun c => decide (c < 128)
  | _ => false
theorem sg_all : (List.range 96).all sgOk = true := by decide +kernel
theorem sg_ix {i : Nat} (h : i < 96) : ∃ w, ixD (.str SG) (.int i) = .ok (.str w) ∧ (TL.tl w).length = 1 ∧ ∀ c ∈ TL.tl w, c < 128 := by
  have z := List.all_eq_true.mp sg_all i (List.mem_range.mpr h)
  unfold sgOk at z
  split at z
  · rename_i x e
    rw [Bool.and_eq_true] at z
    exact ⟨x, e, of_decide_eq_true z.1, fun c hc => of_decide_eq_true (List.all_eq_true.mp z.2 c hc)⟩
  · cases z
theorem p_sign (n : Int) : Ok (d__law_sign [.int n]) fun d => ∃ w, d = .str w ∧ (TL.tl w).length = 1 ∧ ∀ c ∈ TL.tl w, c < 128 := by
  have hs := size_ge
  unfold d__law_sign m__law_sign
  rw [ok_nox, k_run]
  have m := mod_b n (m := 96) (by omega)
  obtain ⟨w, e, h1, h2⟩ := sg_ix (i := (n % 96).toNat) (by omega)
  rw [Int.toNat_of_nonneg m.1] at e
  refine seq_cut (fun S => S = [(some (Sl.mk false (.int n))), (some (Sl.mk false (.str " !\"#$&'()*+,-./0123456789:;<=>?@ABCDEFGHIJKLMNOPQRSTUVWXYZ[\\]^_`")))]) (by simp? only []) ?_
  rintro S rfl
  refine seq_cut (fun S => S = [(some (Sl.mk false (.int n))), (some (Sl.mk false (.str SG)))]) ?_ ?_
  · have ea : addD (.str " !\"#$&'()*+,-./0123456789:;<=>?@ABCDEFGHIJKLMNOPQRSTUVWXYZ[\\]^_`") (.str "abcdefghijklmnopqrstuvwxyz{|}~\n\t") = .ok (.str SG) := by kernel_rfl
    simp? only [ea]
  rintro S rfl
  simp? only [e]
  exact ⟨by omega, w, rfl, h1, h2⟩
def MENU : List Str := [("" : Str), ("0" : Str), ("1" : Str), ("2" : Str), ("3" : Str), ("." : Str), ("+" : Str), ("-" : Str), ("(" : Str), (")" : Str), (".." : Str), ("01" : Str), ("1.0" : Str), ("...." : Str), ("000" : Str), ("0000" : Str), ("--" : Str), (".-" : Str), ("+." : Str), ("()" : Str), ("10" : Str), (".2" : Str), ("a" : Str), ("A" : Str), ("x" : Str), ("9" : Str), ("-1" : Str), ("+1" : Str), ("((" : Str), ("))" : Str), ("1\n" : Str), ("\n" : Str), ("\t" : Str), (".\t" : Str), ("0." : Str), ("-." : Str)]
theorem menu_gw : ∀ w ∈ MENU, Gw w := by decide +kernel
theorem strs_of : ∀ {ys : List D}, (∀ y ∈ ys, ∃ w, y = .str w ∧ (TL.tl w).length = 1 ∧ ∀ c ∈ TL.tl w, c < 128) → ∃ l : List Str, ys = l.map .str ∧ ∀ w ∈ l, (TL.tl w).length = 1 ∧ ∀ c ∈ TL.tl w, c < 128
  | [], _ => ⟨[], rfl, by simp⟩
  | y :: ys, h => by
    obtain ⟨w, rfl, h1⟩ := h y (by simp)
    obtain ⟨l, rfl, h2⟩ := strs_of (ys := ys) fun z hz => h z (by simp [hz])
    exact ⟨w :: l, rfl, fun x hx => by
      rcases List.mem_cons.mp hx with rfl | hx
      · exact h1
      · exact h2 x hx⟩
theorem joinL_nil_len : ∀ (l : List (List Nat)), (∀ p ∈ l, p.length = 1) → (TL.joinL [] l).length = l.length
  | [], _ => rfl
  | [p], h => by
    have := h p (by simp)
    simp only [TL.joinL, List.length_cons, List.length_nil]
    exact this
  | p :: q :: r, h => by
    have h1 := h p (by simp)
    have h2 := joinL_nil_len (q :: r) fun x hx => h x (by simp [hx])
    simp only [TL.joinL, List.length_append, List.length_nil, Nat.zero_add, h1, h2, List.length_cons]
    omega
theorem p_odd (d0 : D) (hd : drawn 10 d0) : Ok (d__law_odd [d0]) fun d => ∃ w, Gw w ∧ d = .str w := by
  have hs := size_ge
  unfold d__law_odd m__law_odd
  rw [ok_nox, k_run]
  refine Ok.mono (P := fun z => ∃ d, z.1 = .rt d ∧ ∃ w, Gw w ∧ d = .str w) ?_ fun z ⟨d, e, h⟩ => by rw [e]; exact h
  refine seq_cut (fun S => S = [(some (Sl.mk false (d0))), (some (Sl.mk false (.lst (MENU.map .str)))), none]) (by simp? only []; exact ⟨by omega, rfl⟩) ?_
  rintro S rfl
  rw [k_seq, k_if]
  simp? only []
  refine (hd.ix (by omega) (by omega)).mono ?_
  rintro _ ⟨x, rfl, hx0, _⟩
  simp? only []
  refine ⟨by omega, fun _ => ?_, fun _ => ?_⟩
  · refine (hd.ix (by omega) (by omega)).mono ?_
    rintro _ ⟨y, rfl, hy0, _⟩
    simp? only []
    have ml : (MENU.length : Int) = 36 := by decide
    have m := mod_b y (m := (MENU.length : Int)) (by omega)
    refine ⟨by omega, ?_⟩
    obtain ⟨d, hdd⟩ := atI_lt (xs := MENU.map D.str) (i := y % (MENU.length : Int)) m.1 (by rw [List.length_map]; exact m.2)
    obtain ⟨w, hw, rfl⟩ := List.mem_map.mp (atI_mem hdd)
    exact ⟨_, hdd, _, rfl, w, menu_gw w hw, rfl⟩
  · rw [k_eM1, k_S]
    refine ⟨rfl, ?_⟩
    obtain ⟨_, ey, y, rfl, hy0, _⟩ := hd.ix (i := 1) (by omega) (by omega)
    have m4 := mod_b y (m := 4) (by omega)
    refine k_lcA (P := fun d => ∃ w, d = .str w ∧ (TL.tl w).length = 1 ∧ ∀ c ∈ TL.tl w, c < 128) (1 + y % 4).toNat (by omega) ?_ ?_
    · simp? only [ey]
      refine ⟨by omega, ⟨by omega, by omega⟩, by rw [rngL_len], ?_⟩
      intro d hdm
      obtain ⟨j, hj⟩ := List.getElem?_of_mem hdm
      obtain ⟨hj, rfl⟩ := rngL_get hj
      simp? only []
      refine ⟨mul_l (by omega) (by omega), ?_⟩
      refine (hd.ix (by omega) (by omega)).mono ?_
      rintro _ ⟨u, rfl, hu0, hu1⟩
      simp? only []
      refine ⟨mul_l (by omega) (by omega), mul_l (by omega) (by omega), ?_⟩
      refine (hd.ix (by omega) (by omega)).mono ?_
      rintro _ ⟨v, rfl, hv0, hv1⟩
      simp? only []
      exact p_sign _
    · intro ys hy hp
      obtain ⟨l, rfl, hl⟩ := strs_of hp
      rw [List.length_map] at hy
      have ht : TL.tl (Txt.join "" l) = TL.joinL [] (l.map TL.tl) := by rw [TL.join_eq]; exact TL.tl_join "" l
      have ej : joinD (.str "") (.lst (l.map .str)) = .ok (.str (Txt.join "" l)) := by
        unfold joinD
        simp only [asS_map]
        have h1 := sum_le l fun w hw => by have := (hl w hw).1; show (TL.tl w).length ≤ 500; omega
        rw [if_pos (by show _ + l.length * 0 ≤ _; omega)]
      rw [ej, ok_ok]
      refine ⟨_, rfl, _, ⟨?_, fun c hc => ?_⟩, rfl⟩
      · rw [ht, joinL_nil_len _ (fun p hp => by obtain ⟨w, hw, rfl⟩ := List.mem_map.mp hp; exact (hl w hw).1), List.length_map]
        omega
      · rw [ht] at hc
        rcases joinL_mem [] _ hc with hc | ⟨p, hp, hc⟩
        · cases hc
        · obtain ⟨w, hw, rfl⟩ := List.mem_map.mp hp
          exact (hl w hw).2 c hc
set_option Elab.async false
set_option linter.all false
set_option maxRecDepth 100000
open M PySem L2
theorem cut_memX {α : Type} {xs : List α} {lo hi : Option Int} {x : α} (h : x ∈ M.cutL xs lo hi) : x ∈ xs := by
  unfold M.cutL at h
  exact List.mem_of_mem_drop (List.mem_of_mem_take h)
theorem cut_lenN {α : Type} {xs : List α} {j : Int} {k : Nat} (h : j = k) : (M.cutL xs none (some j)).length ≤ k := by
  subst h
  unfold M.cutL
  rw [HT.sIx_nat, List.length_take]
  omega
theorem cut_lenF {α : Type} {xs : List α} {j : Int} {k : Nat} (h : j = k) : (M.cutL xs (some j) none).length ≤ xs.length - k := by
  subst h
  unfold M.cutL
  rw [HT.sIx_nat, List.length_take, List.length_drop]
  omega
theorem cut_len1 {α : Type} {xs : List α} {i j : Int} {k : Nat} (h : i = k) (h1 : j = (k + 1 : Nat)) : (M.cutL xs (some i) (some j)).length ≤ 1 := by
  subst h h1
  unfold M.cutL
  rw [HT.sIx_nat, HT.sIx_nat, List.length_take]
  omega
theorem p_spoilt {n : Nat} {l more : List Str} {o : Str} {way place : Int} (h : Gws n l) (hn : n ≤ 70) (ho : Gw o) (hm : Gws 8 more) : Ok (d__law_spoilt [.lst (l.map .str), .int way, .int place, .str o, .lst (more.map .str)]) fun d => ∃ l', d = .lst (l'.map .str) ∧ Gws (n + 10) l' := by
  have hs := size_ge
  have hl := h.len
  have hml := hm.len
  unfold d__law_spoilt m__law_spoilt
  rw [ok_nox, k_run]
  refine Ok.mono (P := fun z => ∃ d, z.1 = .rt d ∧ ∃ l', d = .lst (l'.map .str) ∧ Gws (n + 10) l') ?_ fun z ⟨d, e, h⟩ => by rw [e]; exact h
  refine seq_cut (fun S => ∃ k : Nat, k ≤ l.length ∧ S = [(some (Sl.mk false (.lst (l.map .str)))), (some (Sl.mk false (.int way))), (some (Sl.mk false (.int place))), (some (Sl.mk false (.str o))), (some (Sl.mk false (.lst (more.map .str)))), (some (Sl.mk false (.int k)))]) ?_ ?_
  · simp? only []
    have m := mod_b place (m := (l.length : Int) + 1) (by omega)
    exact ⟨by omega, (place % ((l.length : Int) + 1)).toNat, by omega, by rw [Int.toNat_of_nonneg m.1]⟩
  rintro S ⟨k, hk, rfl⟩
  have mem : ∀ {lo hi : Option Int}, ∀ w ∈ M.cutL l lo hi, Gw w := fun w hw => h.w w (cut_memX hw)
  have a1 : (M.cutL l none (some (k : Int))).length ≤ k := cut_lenN rfl
  have a2 : (M.cutL l none (some ((k : Int) + 1))).length ≤ k + 1 := cut_lenN (by omega)
  have b0 : (M.cutL l (some (k : Int)) none).length ≤ l.length - k := cut_lenF rfl
  have b1 : (M.cutL l (some ((k : Int) + 1)) none).length ≤ l.length - (k + 1) := cut_lenF (by omega)
  have b2 : (M.cutL l (some ((k : Int) + 2)) none).length ≤ l.length - (k + 2) := cut_lenF (by omega)
  have c0 : (M.cutL l (some (k : Int)) (some ((k : Int) + 1))).length ≤ 1 := cut_len1 rfl (by omega)
  have c1 : (M.cutL l (some ((k : Int) + 1)) (some ((k : Int) + 2))).length ≤ 1 := cut_len1 (k := k + 1) (by omega) (by omega)
  have ga : ∀ {a b : List Str}, (∀ w ∈ a, Gw w) → (∀ w ∈ b, Gw w) → ∀ w ∈ a ++ b, Gw w := fun {a b} h1 h2 w hw => (List.mem_append.mp hw).elim (h1 w) (h2 w)
  have gs : ∀ {x : Str}, Gw x → ∀ w ∈ [x], Gw w := fun {x} hx w hw => by rw [List.mem_singleton] at hw; rw [hw]; exact hx
  have gp : Gw "(" := by decide
  have gq : Gw ")" := by decide
  have fin : ∀ {d : D} (L : List Str), d = .lst (L.map .str) → L.length ≤ n + 10 → (∀ w ∈ L, Gw w) → ∃ d', Fl.rt d = Fl.rt d' ∧ ∃ l', d' = .lst (l'.map .str) ∧ Gws (n + 10) l' := fun {d} L e h1 h2 => ⟨d, rfl, L, e, h1, h2⟩
  simp? only []
  refine ⟨fun _ => ⟨by omega, by simp only [List.length_append, List.length_map, List.length_cons, List.length_nil]; omega, fin (M.cutL l none (some (k : Int)) ++ [o] ++ M.cutL l (some ((k : Int) + 1)) none) (by simp) ?_ (ga (ga mem (gs ho)) mem)⟩, fun _ =>
    ⟨fun _ => ⟨by omega, fin (M.cutL l none (some (k : Int)) ++ M.cutL l (some ((k : Int) + 1)) none) (by simp) ?_ (ga mem mem)⟩, fun _ =>
    ⟨fun _ => ⟨by omega, by simp only [List.length_append, List.length_map, List.length_cons, List.length_nil]; omega, fin (M.cutL l none (some (k : Int)) ++ [o] ++ M.cutL l (some (k : Int)) none) (by simp) ?_ (ga (ga mem (gs ho)) mem)⟩, fun _ =>
    ⟨fun _ => fin (M.cutL l none (some (k : Int))) rfl ?_ mem, fun _ =>
    ⟨fun _ => ⟨by omega, fin (M.cutL l none (some ((k : Int) + 1)) ++ M.cutL l (some (k : Int)) none) (by simp) ?_ (ga mem mem)⟩, fun _ =>
    ⟨fun _ => ⟨by omega, by simp only [List.length_append, List.length_map, List.length_cons, List.length_nil]; omega, by simp only [List.length_append, List.length_map, List.length_cons, List.length_nil]; omega, fin (M.cutL l none (some (k : Int)) ++ M.cutL l (some ((k : Int) + 1)) (some ((k : Int) + 2)) ++ M.cutL l (some (k : Int)) (some ((k : Int) + 1)) ++ M.cutL l (some ((k : Int) + 2)) none) (by simp) ?_ (ga (ga (ga mem mem) mem) mem)⟩, fun _ =>
    ⟨fun _ => ⟨by omega, by simp only [List.length_append, List.length_map, List.length_cons, List.length_nil]; omega, by simp only [List.length_append, List.length_map, List.length_cons, List.length_nil]; omega, fin (l ++ [("(" : Str)] ++ more ++ [(")" : Str)]) (by simp) ?_ (ga (ga (ga h.w (gs gp)) hm.w) (gs gq))⟩, fun _ => fin l rfl ?_ h.w⟩⟩⟩⟩⟩⟩⟩
  all_goals first | omega | (simp only [List.length_append, List.length_cons, List.length_nil]; omega)
theorem drawn.cut {n : Nat} {d : D} (h : drawn n d) {Q : D → Prop} {lo hi : Option Int} {m : Nat} (hl : ∀ l : List Int, l.length = n → (M.cutL l lo hi).length = m) (q : ∀ d', drawn m d' → Q d') : Ok (slD d lo hi) Q := by
  obtain ⟨l, rfl, h1, h2⟩ := h
  rw [k_slL, cut_map]
  exact q _ ⟨_, rfl, hl l h1, fun x hx => h2 x (cut_memX hx)⟩
theorem cut_lenX {α : Type} {xs : List α} {a b : Nat} (h1 : a ≤ b) (h2 : b ≤ xs.length) : (M.cutL xs (some (a : Int)) (some (b : Int))).length = b - a := by
  unfold M.cutL
  rw [HT.sIx_nat, HT.sIx_nat, List.length_take, List.length_drop]
  omega
theorem cut_lenY {α : Type} {xs : List α} {b : Nat} (h2 : b ≤ xs.length) : (M.cutL xs none (some (b : Int))).length = b := by
  unfold M.cutL
  rw [HT.sIx_nat, List.length_take, List.length_drop]
  have : HT.sIx xs.length 0 none = 0 := rfl
  rw [this]
  omega
theorem pure_law : ∀ ns : List Int, ns.length ≤ 63 → (∀ z ∈ ns, PySem.Builtin.Int.intBits z ≤ 1048576) → d_law [.scr ns] = .ok (.bl true) := by
  intro ns hlen hbits
  have hs := size_ge
  refine Ok.eq ?_
  unfold d_law m_law
  rw [ok_nox, k_run]
  refine Ok.mono (P := fun z => z.1 = .rt (.bl true)) ?_ fun z h => by rw [h]
  refine seq_cut (fun S => ∃ a b c d e f g, S = [(some (Sl.mk false (.scr ns))), a, b, c, d, e, f, g]) ?_ ?_
  · rw [k_for]
    refine Ok.mono (P := fun ds => ∃ c : Nat, c ≤ 63 ∧ ds = rngL 0 c) ?_ ?_
    · simp? only [k_min2, k_max2]
      generalize hq : (if (if (ns.length : Int) > 1 then (ns.length : Int) else 1) < 63 then (if (ns.length : Int) > 1 then (ns.length : Int) else 1) else 63) = q
      have h2 : 0 ≤ q ∧ q ≤ 63 := by rw [← hq]; split <;> split <;> omega
      exact ⟨⟨by omega, by omega⟩, q.toNat, by omega, rfl⟩
    rintro ds ⟨c, hc, rfl⟩
    refine for_inv (fun i S => ∃ a b c d e f g, S = [(some (Sl.mk false (.scr ns))), a, b, c, d, e, f, g]) _ 0 _ ⟨_, _, _, _, _, _, _, rfl⟩ ?_ ?_
    · rintro i dv S hd ⟨a, b, c', d, e, f, g, rfl⟩
      obtain ⟨hi, rfl⟩ := rngL_get hd
      rw [k_gN]
      refine seq_cut (fun S => ∃ dd, drawn 33 dd ∧ S = [(some (Sl.mk false (.scr ns))), (some (Sl.mk false (.int (0 + (i : Int))))), (some (Sl.mk false (dd))), c', d, e, f, g]) ?_ ?_
      · simp? only []
        exact (p_draws ns (0 + (i : Int)) 33 (by omega) (by omega) (by omega)).mono fun x hx => ⟨x, hx, rfl⟩
      rintro S ⟨dd, hdd, rfl⟩
      refine seq_cut (fun S => ∃ w1, Gws 56 w1 ∧ S = [(some (Sl.mk false (.scr ns))), (some (Sl.mk false (.int (0 + (i : Int))))), (some (Sl.mk false (dd))), (some (Sl.mk false (.lst (w1.map .str)))), d, e, f, g]) ?_ ?_
      · simp? only []
        refine hdd.cut (m := 7) (fun l hl => cut_lenY (b := 7) (by omega)) ?_
        intro d' hd'
        refine (p_joint d' hd').mono ?_
        intro J hJ
        obtain ⟨ws, hj⟩ := jt_jw hJ
        simp? only []
        obtain ⟨_, wd⟩ := jw_words hj (by omega) 4 (by omega)
        refine Ok.mono (show Ok (d__law_words [J]) _ from wd) ?_
        rintro _ rfl
        exact ⟨ws, ⟨jw_len hj, jw_gw hj⟩, rfl⟩
      rintro S ⟨w1, hw1, rfl⟩
      refine seq_cut (fun S => ∃ w2, Gws 8 w2 ∧ S = [(some (Sl.mk false (.scr ns))), (some (Sl.mk false (.int (0 + (i : Int))))), (some (Sl.mk false (dd))), (some (Sl.mk false (.lst (w1.map .str)))), (some (Sl.mk false (.lst (w2.map .str)))), e, f, g]) ?_ ?_
      · simp? only []
        refine (hdd.ix (by omega) (by omega)).mono ?_
        rintro _ ⟨x, rfl, hx0, _⟩
        refine (hdd.ix (by omega) (by omega)).mono ?_
        rintro _ ⟨y, rfl, hy0, _⟩
        refine (p_row x y hx0).mono ?_
        rintro _ ⟨r, hr, rfl⟩
        have hj : JW 1 (jD r []) (rowW r ++ gflat []) := JW.mk 0 r [] hr (by simp) (by simp)
        obtain ⟨_, wd⟩ := jw_words hj (by omega) 4 (by omega)
        refine Ok.mono (show Ok (d__law_words [jD r []]) _ from wd) ?_
        rintro _ rfl
        exact ⟨_, ⟨jw_len hj, jw_gw hj⟩, rfl⟩
      rintro S ⟨w2, hw2, rfl⟩
      refine seq_cut (fun S => ∃ w3, Gws 66 w3 ∧ S = [(some (Sl.mk false (.scr ns))), (some (Sl.mk false (.int (0 + (i : Int))))), (some (Sl.mk false (dd))), (some (Sl.mk false (.lst (w1.map .str)))), (some (Sl.mk false (.lst (w2.map .str)))), (some (Sl.mk false (.lst (w3.map .str)))), f, g]) ?_ ?_
      · simp? only []
        refine (hdd.ix (by omega) (by omega)).mono ?_
        rintro _ ⟨x, rfl, hx0, _⟩
        simp? only []
        refine ⟨by omega, ?_⟩
        refine (hdd.ix (by omega) (by omega)).mono ?_
        rintro _ ⟨y, rfl, hy0, _⟩
        refine hdd.cut (m := 10) (fun l hl => cut_lenX (a := 9) (b := 19) (by omega) (by omega)) ?_
        intro d' hd'
        refine (p_odd d' hd').mono ?_
        rintro _ ⟨o, ho, rfl⟩
        refine (p_spoilt hw1 (by omega) ho hw2).mono ?_
        rintro _ ⟨w3, rfl, h3⟩
        exact ⟨w3, h3, rfl⟩
      rintro S ⟨w3, hw3, rfl⟩
      refine seq_cut (fun S => ∃ w4, Gws 76 w4 ∧ S = [(some (Sl.mk false (.scr ns))), (some (Sl.mk false (.int (0 + (i : Int))))), (some (Sl.mk false (dd))), (some (Sl.mk false (.lst (w1.map .str)))), (some (Sl.mk false (.lst (w2.map .str)))), (some (Sl.mk false (.lst (w3.map .str)))), (some (Sl.mk false (.lst (w4.map .str)))), g]) ?_ ?_
      · simp? only []
        refine (hdd.ix (by omega) (by omega)).mono ?_
        rintro _ ⟨x, rfl, hx0, _⟩
        simp? only []
        refine ⟨by omega, ?_⟩
        refine (hdd.ix (by omega) (by omega)).mono ?_
        rintro _ ⟨y, rfl, hy0, _⟩
        refine hdd.cut (m := 10) (fun l hl => cut_lenX (a := 23) (b := 33) (by omega) (by omega)) ?_
        intro d' hd'
        refine (p_odd d' hd').mono ?_
        rintro _ ⟨o, ho, rfl⟩
        refine (p_spoilt hw3 (by omega) ho hw2).mono ?_
        rintro _ ⟨w4, rfl, h4⟩
        exact ⟨w4, h4, rfl⟩
      rintro S ⟨w4, hw4, rfl⟩
      have hok : ∀ w ∈ [w1, w3, w4], Gws 76 w := fun w hw => by
        simp only [List.mem_cons, List.not_mem_nil, or_false] at hw
        rcases hw with rfl | rfl | rfl
        · exact ⟨by have := hw1.len; omega, hw1.w⟩
        · exact ⟨by have := hw3.len; omega, hw3.w⟩
        · exact hw4
      rw [k_if, k_tNo]
      simp? only []
      refine k_lcM (fun w : List Str => .lst (w.map .str)) (fun _ => .bl true) [w1, w3, w4] (by simp? only []) (by simp; omega) ?_ ?_
      · intro w hw
        obtain ⟨ej, hT⟩ := txt_ok (hok w hw) (by omega)
        simp? only [k_eM1, ej]
        exact ⟨rfl, p_right hT⟩
      · have ea : allD (.lst [.bl true, .bl true, .bl true]) = .ok (.bl true) := rfl
        simp? only [ea]
        exact ⟨_, _, _, _, _, _, _, rfl⟩
    · rintro S ⟨a, b, c', d, e, f, g, rfl⟩
      exact ⟨rfl, _, _, _, _, _, _, _, rfl⟩
  rintro S ⟨a, b, c, d, e, f, g, rfl⟩
  simp? only []
end Pf
set_option Elab.async false
set_option linter.all false
set_option maxRecDepth 100000
set_option maxHeartbeats 0
open PySem PySem.W PySem.Calls PyProof.Rows
theorem PySem.Challenge.cw_firstbreach_k66_wrong_word_of_a_row_holds : PySem.Challenge.rw_firstbreach_k66_wrong_word_of_a_row.Holds := by
  w_on; o_law
  refine HandSHeadRun.head_any (r := OpenLaw.row PySem.Challenge.rw_firstbreach_k66_wrong_word_of_a_row) (q := view (OpenLaw.row PySem.Challenge.rw_firstbreach_k66_wrong_word_of_a_row).prog [36]) (H := Pf.hk) (ob := Pf.ob) (M := 4000) (loose := Pf.looseN) (d := HandSHeadRun.topDef (OpenLaw.row PySem.Challenge.rw_firstbreach_k66_wrong_word_of_a_row).prog 36) (kwd := []) Pf.ob_eq
    (by kernel_rfl) (fun s => by kernel_rfl) Pf.run (by kernel_rfl) (by kernel_rfl) (by kernel_rfl) (by rfl) (by first | assumption | decide +kernel) (by decide +kernel) ⟨rfl, rfl, rfl, rfl, rfl, by decide +kernel⟩ ?hw ?hc
  case hw => w_witness2
  case hc =>
    refine M.walk_ofX (l := PySem.Challenge.rw_firstbreach_k66_wrong_word_of_a_row) (n := 63) (k := 12) (x := "_law_script") (den := Pf.d_law) rfl (by decide) (by kernel_rfl) ⟨rfl, by decide, by decide⟩ ?F Pf.pure_law
    intro w mg fa h Y G hmg0
    obtain ⟨K, KX, c⟩ := Y
    have hmg : mg ("law" : PySem.Str) = some (.ref fa) := by
      have e : (HandSHeadRun.topDef (OpenLaw.row PySem.Challenge.rw_firstbreach_k66_wrong_word_of_a_row).prog 36).name = ("law" : PySem.Str) := by kernel_rfl
      rw [← e]
      exact hmg0
    obtain ⟨fd, hb, hF⟩ := Pf.facts (P := (PySem.Challenge.rw_firstbreach_k66_wrong_word_of_a_row).prog) (w := w) (by kernel_rfl) (by kernel_rfl) KX G hmg c
    exact ⟨K, fd, Pf.clK K, KX, hb, hF⟩
