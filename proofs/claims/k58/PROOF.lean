import PyProof.Rows.All
import HandS.ForMost
import HandS.Flow
import HandS.Deep
import HandS.Evl
import KE.KDictKeyed
import HandS.WordsExc
import HandS.Exc
import HandS.TupAny
import HandS.TupMul
import HandS.TupLe
import HandS.WideBits
import HandS.Zip
import HandS.Defaults
import HandS.IsInst
import HandS.Strs
import KE.SortData
import HandS.Text
import HandS.Style
import HandS.MakeKwOnly
import HandS.MakeKw
import HandS.SetBool
import HandS.TupSets
import KE.GoesEnum
import KE.GoesMore
import HandS.Property
import HandS.Head0
import HandS.Head1
import HandS.Head2
import HandS.HeadEnd
import HandS.HeadHook1
import HandS.HeadHook2
import HandS.EndBits
import HandS.HeadNt
import KE.DataAny
import HandS.Conv
import HandS.More
import HandS.HeadHook3
import PyProof.RulesMatch
import HandS.SetFor
import HandS.SetKeys
import HandS.SortKw
import HandS.Keys
import KE.SortKeyHeap
import KE.KMinKey
import HandS.ExcInit
import HandS.ExcCtx
import KE.KExcLine
import KE.KSuper
import HandS.ExcField
import HandS.ExcIs
import HandS.TryOnly
import HandS.HotCalls
import HandS.ClsMeth
import HandS.DictComp
import HandS.Small
import HandS.Star
import HandS.GenBody
import HandS.GenCall
import HandS.GenList
import HandS.GenYield
import PyProof.Walks
import KE.DataFind
import PySem.Challenge.RW_firstbreach_k58_taking_books_and_halls
set_option Elab.async false
set_option linter.all false
set_option maxRecDepth 100000
set_option maxHeartbeats 4000000
namespace M
open PySem L2
mutual
def nkp : NestedKey → Bool
  | .none => true
  | .num _ => true
  | .text _ => false
  | .tup ks => nkps ks
def nkps : List NestedKey → Bool
  | [] => true
  | k :: ks => nkp k && nkps ks
end
mutual
def hashN : NestedKey → Int
  | .none => reduceHash 0xFCA86420
  | .num i => hashInt i
  | .text _ => 0
  | .tup ks => reduceHash (Builtin.Tuple.tupleHashOf (hashNs ks))
def hashNs : List NestedKey → List Int
  | [] => []
  | k :: ks => hashN k :: hashNs ks
end
mutual
theorem hashN_eq (w : World) : ∀ k : NestedKey, nkp k = true → k.hash w = hashN k
  | .none, _ => rfl
  | .num _, _ => rfl
  | .text _, h => by cases h
  | .tup ks, h => by
    have h : nkps ks = true := h
    show reduceHash (Builtin.Tuple.tupleHashOf (NestedKey.hashes w ks)) = reduceHash (Builtin.Tuple.tupleHashOf (hashNs ks))
    rw [hashNs_eq w ks h]
theorem hashNs_eq (w : World) : ∀ ks : List NestedKey, nkps ks = true → NestedKey.hashes w ks = hashNs ks
  | [], _ => rfl
  | k :: ks, h => by
    have h : (nkp k && nkps ks) = true := h
    rw [Bool.and_eq_true] at h
    show k.hash w :: NestedKey.hashes w ks = hashN k :: hashNs ks
    rw [hashN_eq w k h.1, hashNs_eq w ks h.2]
end
abbrev XV := List (NestedKey × Addr × V)
abbrev XT : XV → List (NestedKey × Addr × Value) → Prop := Paired fun p q => p.1 = q.1 ∧ p.2.1 = q.2.1 ∧ RelV p.2.2 q.2.2
def dnP (a : Addr) (xs : XV) : Heap → Prop := fun h => (a == sysModules) = false ∧ xs.length ≤ sizeLine ∧ ∃ us, XT xs us ∧ ∃ o es ep, h.get? a = some o ∧ o.ExactDict ∧ o.data = .dict es ep ∧ es.toList = us.map (fun x => (⟨hashN x.1, .ref x.2.1, x.2.2⟩ : DictEntry)) ∧ (us.map (·.1)).Nodup
def okC (xs : List V) : Bool := decide (xs.length < 2) || (decide (3 < xs.length) || xs.all fun x => match x with | .str _ => true | _ => false)
def SqU (K : PySem.W.Frag) (H : Hp) (a : Addr) (xs : List V) : Prop := H a = some (.tup xs) ∨ ∃ (o : Obj) (its : Array Value) (n : Nat), K.lookup a = some o ∧ o.cls = .type "tuple" ∧ o.data = .seq its n ∧ its.size ≤ sizeLine ∧ Vals xs its.toList ∧ okC xs = true
theorem SqU.t {K : PySem.W.Frag} {H : Hp} {a : Addr} {xs : List V} (h : SqU K H a xs) : SqT K H a xs := by
  rcases h with h | ⟨o, its, n, h1, h2, h3, h4, h5, _⟩
  · exact SqT.of h
  · exact .inr ⟨o, its, n, h1, h2, h3, h4, h5⟩
theorem SqU.of {K : PySem.W.Frag} {H : Hp} {a : Addr} {xs : List V} (h : H a = some (.tup xs)) : SqU K H a xs := .inl h
mutual
inductive NkH (K : PySem.W.Frag) (H : Hp) : NestedKey → V → Prop where
  | none : NkH K H .none .non
  | num (i : Int) : NkH K H (.num i) (.int i)
  | tup {ks : List NestedKey} {a : Addr} {xs : List V} : SqU K H a xs → NkHs K H ks xs → NkH K H (.tup ks) (.ref a)
inductive NkHs (K : PySem.W.Frag) (H : Hp) : List NestedKey → List V → Prop where
  | nil : NkHs K H [] []
  | cons {k : NestedKey} {v : V} {ks : List NestedKey} {vs : List V} : NkH K H k v → NkHs K H ks vs → NkHs K H (k :: ks) (v :: vs)
end
def XKey (K : PySem.W.Frag) (H : Hp) (xs : XV) : Prop := ∀ x ∈ xs, NkH K H x.1 (.ref x.2.1) ∧ nkp x.1 = true ∧ x.1.depth ≤ 8
section
variable {X : Cx} {pins : List (Addr × Obj)} {σ : St} {H : Hp} {s : Shared} {a : Addr} {y v : V} {u r : Value} {A : Around} {E : Value → Shared → Prop}
mutual
theorem nk_is (I : Inv X pins σ H s) : ∀ {k : NestedKey} {v : V} {u : Value}, NkH X.K H k v → RelV v u → NestedIs s.heap k u
  | _, _, u, .none, ru => by
    have : u = .none := ru
    subst this; exact .none
  | _, _, u, .num i, ru => by
    obtain ⟨t, rfl⟩ := (show ∃ t, u = .int i t from ru)
    exact .int i t
  | _, _, u, .tup (a := a) ht hk, ru => by
    have : u = .ref a := ru
    subst this
    obtain ⟨its, rv, ⟨o, h1, h2, n, h3⟩, _⟩ := I.tuple ht.t
    exact .tup h1 h2 h3 (by rw [List.toList_toArray]; exact nks_is I hk rv)
theorem nks_is (I : Inv X pins σ H s) : ∀ {ks : List NestedKey} {vs : List V} {us : List Value}, NkHs X.K H ks vs → Vals vs us → NestedAll s.heap ks us
  | _, _, _, .nil, .nil => .nil
  | _, _, _, .cons a b, .cons r t => .cons (nk_is I a r) (nks_is I b t)
end
def DigAt (H : Hp) (l a : Addr) (xs : XV) : Prop := H l = some (.ext (dnP a xs)) ∨ ∃ o, H l = some (.frz o (.ext (dnP a xs)))
theorem DigAt.ok (I : Inv X pins σ H s) {xs : XV} {l : Addr} (e : DigAt H l a xs) : ObjOk X.prog X.w H s.heap l (.ext (dnP a xs)) := by
  rcases e with e | ⟨o, e⟩
  · exact I.hok l _ e
  · exact (show ObjOk X.prog X.w H s.heap l (.frz o (.ext (dnP a xs))) from I.hok l _ e).2
def isK (xs : XV) (k : NestedKey) : Bool := xs.any fun x => decide (x.1 = k)
theorem XT.has {xs : XV} {us : List (NestedKey × Addr × Value)} (r : XT xs us) (k : NestedKey) : (atKey us k).isSome = isK xs k := by
  induction r with
  | nil => rfl
  | @cons p q ps qs h t ih =>
    unfold isK at ih ⊢
    rw [List.any_cons, ← ih]
    by_cases e : p.1 = k
    · have b : atKey (q :: qs) k = some q.2 := by simp [atKey, List.find?_cons, h.1.symm.trans e]
      rw [b, decide_eq_true e]; rfl
    · have b : atKey (q :: qs) k = atKey qs k := by
        have e' : ¬ q.1 = k := fun z => e (h.1.trans z)
        simp [atKey, List.find?_cons, e']
      rw [b, decide_eq_false e]; rfl
def putX (xs : XV) (k : NestedKey) (b : Addr) (v : V) : XV := if isK xs k then xs.map (fun x => if x.1 = k then (x.1, x.2.1, v) else x) else xs ++ [(k, b, v)]
theorem XT.repl {xs : XV} {us : List (NestedKey × Addr × Value)} (r : XT xs us) (k : NestedKey) {y : V} {u : Value} (ry : RelV y u) : XT (xs.map fun x => if x.1 = k then (x.1, x.2.1, y) else x) (us.map (putAt k u)) := by
  induction r with
  | nil => exact .nil
  | @cons p q ps qs h t ih =>
    rw [List.map_cons, List.map_cons]
    refine .cons ?_ ih
    obtain ⟨h1, h2, h3⟩ := h
    unfold putAt
    by_cases e : p.1 = k
    · rw [if_pos e, if_pos (h1.symm.trans e)]; exact ⟨h1, h2, ry⟩
    · rw [if_neg e, if_neg (fun z => e (h1.trans z))]; exact ⟨h1, h2, h3⟩
theorem XT.put {xs : XV} {us : List (NestedKey × Addr × Value)} (r : XT xs us) (k : NestedKey) {b : Addr} {y : V} {u : Value} (ry : RelV y u) : XT (putX xs k b y) (storedH us k b u) := by
  unfold putX storedH
  rw [r.has k]
  by_cases q : isK xs k = true
  · rw [if_pos q, if_pos q]; exact r.repl k ry
  · rw [if_neg q, if_neg q]; exact Paired.snoc r ⟨rfl, rfl, ry⟩
end
end M
set_option Elab.async false
set_option linter.all false
set_option maxRecDepth 100000
set_option maxHeartbeats 4000000
namespace M
open PySem L2
section
variable {X : Cx} {pins : List (Addr × Obj)} {σ : St} {H : Hp} {s : Shared} {a : Addr} {y v : V} {u r : Value} {A : Around} {E : Value → Shared → Prop}
def dnO (a : Addr) (xs : XV) : HO := .ext (dnP a xs)
def valX (xs : XV) (k : NestedKey) : Option V := (xs.find? fun x => decide (x.1 = k)).map fun x => x.2.2
theorem XT.val {xs : XV} {us : List (NestedKey × Addr × Value)} (r : XT xs us) (k : NestedKey) : RelO (valX xs k) ((atKey us k).map (·.2)) := by
  induction r with
  | nil => exact True.intro
  | @cons p q ps qs h t ih =>
    obtain ⟨h1, _, h2⟩ := h
    by_cases e : p.1 = k
    · have e' : q.1 = k := h1.symm.trans e
      have b : atKey (q :: qs) k = some q.2 := by simp [atKey, List.find?_cons, e']
      have b2 : valX (p :: ps) k = some p.2.2 := by simp [valX, List.find?_cons, e]
      rw [b2, b]; exact h2
    · have e' : ¬ q.1 = k := fun z => e (h1.trans z)
      have b : atKey (q :: qs) k = atKey qs k := by simp [atKey, List.find?_cons, e']
      have b2 : valX (p :: ps) k = valX ps k := by simp [valX, List.find?_cons, e]
      rw [b2, b]; exact ih
end
section
variable {X : Cx} {o i e value : Expr} {pos pos' tpos : Pos} {td ty tv : TE}
end
end M
set_option Elab.async false
set_option linter.all false
set_option maxRecDepth 100000
set_option maxHeartbeats 4000000
namespace M
open PySem L2
inductive D where
  | non | bl (b : Bool) | int (i : Int) | str (x : Str) | ty (n : String)
  | tup (xs : List D) | lst (xs : List D) | dic (ks : List Key) (vs : List D) | dit (ks : List (List Key)) (vs : List D)
  | obj (c : Nat) (fs : List D) | scr (ns : List Int) | cls (c : Nat)
  | dkf (ks : List Key) (vs : List D) | dig (ks : List NestedKey) (vs : List D) | dgf (ks : List NestedKey) (vs : List D)
  deriving Inhabited
structure Exc where
  c : Nat
  fs : List D
inductive R (α : Type) where
  | ok (a : α) | exc (x : Exc) | fail
def R.bind {α β : Type} (r : R α) (f : α → R β) : R β := match r with
  | .ok a => f a
  | .exc x => .exc x
  | .fail => .fail
instance : Monad R where
  pure := .ok
  bind := R.bind
@[simp] theorem R.pure_eq {α : Type} (a : α) : (pure a : R α) = .ok a := rfl
@[simp] theorem R.ok_bind {α β : Type} (a : α) (f : α → R β) : (R.ok a >>= f) = f a := rfl
@[simp] theorem R.exc_bind {α β : Type} (x : Exc) (f : α → R β) : (R.exc x >>= f) = .exc x := rfl
@[simp] theorem R.fail_bind {α β : Type} (f : α → R β) : (R.fail >>= f) = .fail := rfl
def R.nox {α : Type} : R α → R α
  | .exc _ => .fail
  | r => r
@[simp] theorem R.nox_ok {α : Type} (a : α) : (R.ok a).nox = .ok a := rfl
@[simp] theorem R.nox_fail {α : Type} : (R.fail : R α).nox = .fail := rfl
def R.need (b : Bool) : R Unit := if b then .ok () else .fail
@[simp] theorem R.need_true : R.need true = .ok () := rfl
structure Sl where
  own : Bool
  d : D
abbrev Env := List (Option Sl)
abbrev FE := Env → R D
abbrev FT := Env → R Bool
abbrev FA := Env → R (List D)
inductive Fl where
  | nx | bk | ct | rt (d : D)
abbrev FS := Env → R (Fl × Env)
abbrev FG := D → Env → R Env
inductive Kd where
  | st | bo | fr
def Ex (H H' : Hp) : Prop := ∀ a o, H a = some o → H' a = some o
theorem Ex.refl (H : Hp) : Ex H H := fun _ _ h => h
theorem Ex.trans {H H1 H2 : Hp} (a : Ex H H1) (b : Ex H1 H2) : Ex H H2 := fun x o h => b x o (a x o h)
theorem Ex.new {H : Hp} {p : Addr} {o : HO} (h : H p = none) : Ex H (upd H p o) := fun a u e => by
  rw [upd_ne (ne_of_none e h)]; exact e
theorem Ex.upd {H H' : Hp} {p : Addr} {o : HO} (e : Ex H H') (h : H p = none) : Ex H (upd H' p o) := fun a u q => by
  rw [upd_ne (ne_of_none q h)]; exact e a u q
theorem Ex.upd2 {H H' : Hp} {p : Addr} {o : HO} (e : Ex H H') (h : H' p = some o) : Ex (L2.upd H p o) H' := fun a u q => by
  by_cases ha : a = p
  · subst ha; rw [upd_same] at q; cases q; exact h
  · rw [upd_ne ha] at q; exact e a u q
theorem Ex.free {H H' : Hp} (e : Ex H H') {l : Addr} (h : H' l = none) : H l = none := by
  cases q : H l with
  | none => rfl
  | some o => rw [e l o q] at h; cases h
theorem Ex.sqL {K : PySem.W.Frag} {H H' : Hp} {a : Addr} {xs : List V} (e : Ex H H') (h : SqL K H a xs) : SqL K H' a xs := by
  rcases h with (h | ⟨o, h⟩) | h
  · exact .inl (.inl (e _ _ h))
  · exact .inl (.inr ⟨o, e _ _ h⟩)
  · exact .inr h
theorem Ex.sqT {K : PySem.W.Frag} {H H' : Hp} {a : Addr} {xs : List V} (e : Ex H H') (h : SqT K H a xs) : SqT K H' a xs := by
  rcases h with (h | ⟨o, h⟩) | h
  · exact .inl (.inl (e _ _ h))
  · exact .inl (.inr ⟨o, e _ _ h⟩)
  · exact .inr h
theorem Ex.sqU {K : PySem.W.Frag} {H H' : Hp} {a : Addr} {xs : List V} (e : Ex H H') (h : SqU K H a xs) : SqU K H' a xs := by
  rcases h with h | h
  · exact .inl (e _ _ h)
  · exact .inr h
structure Step (G H G' H' : Hp) : Prop where
  g : Ex G G'
  h : Ex H H'
  gh : Ex G' H'
  gr : ∀ b o, G' b = some o → G b = some o ∨ H b = none
theorem Step.refl {G H : Hp} (e : Ex G H) : Step G H G H := ⟨Ex.refl _, Ex.refl _, e, fun _ _ h => .inl h⟩
theorem Step.trans {G H G1 H1 G2 H2 : Hp} (a : Step G H G1 H1) (b : Step G1 H1 G2 H2) : Step G H G2 H2 :=
  ⟨a.g.trans b.g, a.h.trans b.h, b.gh, fun x o q => by
    rcases b.gr x o q with q | q
    · exact a.gr x o q
    · exact .inr (a.h.free q)⟩
theorem Step.new {G H : Hp} {p : Addr} {o : HO} (e : Ex G H) (h : H p = none) : Step G H (upd G p o) (upd H p o) :=
  ⟨Ex.new (e.free h), Ex.new h, fun a u q => by
    by_cases ha : a = p
    · subst ha; rw [upd_same] at q ⊢; exact q
    · rw [upd_ne ha] at q ⊢; exact e a u q, fun b u q => by
    by_cases hb : b = p
    · subst hb; exact .inr h
    · rw [upd_ne hb] at q; exact .inl q⟩
theorem Step.new' {G H : Hp} {p : Addr} {o : HO} (e : Ex G H) (h : H p = none) : Step G H G (upd H p o) :=
  ⟨Ex.refl _, Ex.new h, e.upd (e.free h), fun _ _ q => .inl q⟩
theorem Step.frz {G0 H0 G H : Hp} {p : Addr} {o : HO} (s : Step G0 H0 G H) (h : H p = some o) (h0 : H0 p = none) (hg : G p = none) : Step G0 H0 (upd G p o) H :=
  ⟨s.g.trans (Ex.new hg), s.h, s.gh.upd2 h, fun b u q => by
    by_cases hb : b = p
    · subst hb; exact .inr h0
    · rw [upd_ne hb] at q; exact s.gr b u q⟩
mutual
theorem NkH.mono {K : PySem.W.Frag} {H H' : Hp} (e : Ex H H') : ∀ {k : NestedKey} {v : V}, NkH K H k v → NkH K H' k v
  | _, _, .none => .none
  | _, _, .num i => .num i
  | _, _, .tup h r => .tup (e.sqU h) (NkHs.mono e r)
theorem NkHs.mono {K : PySem.W.Frag} {H H' : Hp} (e : Ex H H') : ∀ {ks : List NestedKey} {vs : List V}, NkHs K H ks vs → NkHs K H' ks vs
  | _, _, .nil => .nil
  | _, _, .cons a b => .cons (NkH.mono e a) (NkHs.mono e b)
end
theorem DigAt.mono {H H' : Hp} {l a : Addr} {xs : XV} (h : DigAt H l a xs) (e : Ex H H') : DigAt H' l a xs := by
  rcases h with h | ⟨o, h⟩
  · exact .inl (e _ _ h)
  · exact .inr ⟨o, e _ _ h⟩
theorem XKey.mono {K : PySem.W.Frag} {H H' : Hp} {xs : XV} (h : XKey K H xs) (e : Ex H H') : XKey K H' xs := fun x hx => ⟨(h x hx).1.mono e, (h x hx).2⟩
structure Kn where
  K : PySem.W.Frag
  cl : Nat → Option (Addr × List Str)
mutual
inductive RD (k : Kn) (G : Hp) : D → V → Prop where
  | non : RD k G .non .non
  | bl (b : Bool) : RD k G (.bl b) (.bl b)
  | int (i : Int) : RD k G (.int i) (.int i)
  | str (x : Str) : RD k G (.str x) (.str x)
  | ty (n : String) : RD k G (.ty n) (.ty n)
  | tup {ds : List D} {a : Addr} {vs : List V} : SqU k.K G a vs → RDs k G ds vs → RD k G (.tup ds) (.ref a)
  | lst {ds : List D} {a : Addr} {vs : List V} : G a = some (.lst vs) → RDs k G ds vs → RD k G (.lst ds) (.ref a)
  | cls {c : Nat} {C : Addr} {nm : List Str} : k.cl c = some (C, nm) → RD k G (.cls c) (.ref C)
  | scr {ns : List Int} {a : Addr} : SqL k.K G a (ns.map V.int) → RD k G (.scr ns) (.ref a)
  | dic {ks : List Key} {ds : List D} {a : Addr} {vs : List V} : G a = some (.dK (ks.zip vs)) → ks.length = ds.length → RDs k G ds vs → RD k G (.dic ks ds) (.ref a)
  | dit {ks : List (List Key)} {ds : List D} {a : Addr} {vs : List V} : G a = some (.dT (ks.zip vs)) → ks.length = ds.length → RDs k G ds vs → RD k G (.dit ks ds) (.ref a)
  | dig {ks : List NestedKey} {ds : List D} {a l : Addr} {xs : XV} : DigAt G l a xs → xs.map (fun x => x.1) = ks → XKey k.K G xs → RDs k G ds (xs.map fun x => x.2.2) → RD k G (.dig ks ds) (.ref l)
  | dgf {ks : List NestedKey} {ds : List D} {a l : Addr} {o : Obj} {xs : XV} : G l = some (.frz o (dnO a xs)) → xs.map (fun x => x.1) = ks → XKey k.K G xs → RDs k G ds (xs.map fun x => x.2.2) → RD k G (.dgf ks ds) (.ref l)
  | dkf {ks : List Key} {ds : List D} {a : Addr} {o : Obj} {vs : List V} : G a = some (.frz o (.dK (ks.zip vs))) → ks.length = ds.length → RDs k G ds vs → RD k G (.dkf ks ds) (.ref a)
  | obj {c : Nat} {ds : List D} {a C dx : Addr} {nm : List Str} {vs : List V} : k.cl c = some (C, nm) → G a = some (.ins C dx (nm.zip vs)) → RDs k G ds vs → RD k G (.obj c ds) (.ref a)
inductive RDs (k : Kn) (G : Hp) : List D → List V → Prop where
  | nil : RDs k G [] []
  | cons {d : D} {ds : List D} {v : V} {vs : List V} : RD k G d v → RDs k G ds vs → RDs k G (d :: ds) (v :: vs)
end
mutual
theorem RD.mono {k : Kn} {G G' : Hp} (e : Ex G G') : ∀ {d : D} {v : V}, RD k G d v → RD k G' d v
  | _, _, .non => .non
  | _, _, .bl b => .bl b
  | _, _, .int i => .int i
  | _, _, .str x => .str x
  | _, _, .ty n => .ty n
  | _, _, .tup h r => .tup (e.sqU h) (RDs.mono e r)
  | _, _, .lst h r => .lst (e _ _ h) (RDs.mono e r)
  | _, _, .scr h => .scr (e.sqL h)
  | _, _, .cls h => .cls h
  | _, _, .dic h l r => .dic (e _ _ h) l (RDs.mono e r)
  | _, _, .dit h l r => .dit (e _ _ h) l (RDs.mono e r)
  | _, _, .dkf h l r => .dkf (e _ _ h) l (RDs.mono e r)
  | _, _, .dig h l kk r => .dig (h.mono e) l (kk.mono e) (RDs.mono e r)
  | _, _, .dgf h l kk r => .dgf (e _ _ h) l (kk.mono e) (RDs.mono e r)
  | _, _, .obj c h r => .obj c (e _ _ h) (RDs.mono e r)
theorem RDs.mono {k : Kn} {G G' : Hp} (e : Ex G G') : ∀ {ds : List D} {vs : List V}, RDs k G ds vs → RDs k G' ds vs
  | _, _, .nil => .nil
  | _, _, .cons a b => .cons (RD.mono e a) (RDs.mono e b)
end
section
variable {k : Kn} {G H : Hp}
theorem RDs.length : ∀ {ds : List D} {vs : List V}, RDs k G ds vs → ds.length = vs.length
  | _, _, .nil => rfl
  | _, _, .cons _ b => by simp [RDs.length b]
theorem RDs.append : ∀ {ds es : List D} {vs us : List V}, RDs k G ds vs → RDs k G es us → RDs k G (ds ++ es) (vs ++ us)
  | _, _, _, _, .nil, s => s
  | _, _, _, _, .cons a b, s => .cons a (RDs.append b s)
theorem RDs.get : ∀ {ds : List D} {vs : List V} {i : Nat} {d : D}, RDs k G ds vs → ds[i]? = some d → ∃ v, vs[i]? = some v ∧ RD k G d v
  | _, _, _, _, .nil, h => by simp at h
  | _, _, 0, _, .cons a _, h => by simp at h; subst h; exact ⟨_, rfl, a⟩
  | _, _, i + 1, d, .cons _ b, h => by
    obtain ⟨v, h1, h2⟩ := RDs.get (i := i) (d := d) b (by simpa using h)
    exact ⟨v, by simpa using h1, h2⟩
theorem RDs.take : ∀ {ds : List D} {vs : List V} (n : Nat), RDs k G ds vs → RDs k G (ds.take n) (vs.take n)
  | _, _, 0, _ => by simpa using .nil
  | _, _, _ + 1, .nil => .nil
  | _, _, n + 1, .cons r t => .cons r (RDs.take n t)
theorem RDs.drop : ∀ {ds : List D} {vs : List V} (n : Nat), RDs k G ds vs → RDs k G (ds.drop n) (vs.drop n)
  | _, _, 0, r => r
  | _, _, _ + 1, .nil => .nil
  | _, _, n + 1, .cons _ t => RDs.drop n t
theorem RDs.set : ∀ {ds : List D} {vs : List V} (i : Nat) {d : D} {v : V}, RDs k G ds vs → RD k G d v → RDs k G (ds.set i d) (vs.set i v)
  | _, _, _, _, _, .nil, _ => .nil
  | _, _, 0, _, _, .cons _ t, r => .cons r t
  | _, _, i + 1, _, _, .cons q t, r => .cons q (RDs.set i t r)
theorem RDs.ints : ∀ (ns : List Int), RDs k G (ns.map D.int) (ns.map V.int)
  | [] => .nil
  | n :: ns => .cons (.int n) (RDs.ints ns)
end
inductive Cont (k : Kn) (G : Hp) : D → HO → Prop where
  | lst {ds : List D} {vs : List V} : RDs k G ds vs → Cont k G (.lst ds) (.lst vs)
  | dic {ks : List Key} {ds : List D} {vs : List V} : ks.length = ds.length → RDs k G ds vs → Cont k G (.dic ks ds) (.dK (ks.zip vs))
  | dit {ks : List (List Key)} {ds : List D} {vs : List V} : ks.length = ds.length → RDs k G ds vs → Cont k G (.dit ks ds) (.dT (ks.zip vs))
  | dig {ks : List NestedKey} {ds : List D} {a : Addr} {xs : XV} : xs.map (fun x => x.1) = ks → XKey k.K G xs → RDs k G ds (xs.map fun x => x.2.2) → Cont k G (.dig ks ds) (dnO a xs)
  | obj {c : Nat} {ds : List D} {C dx : Addr} {nm : List Str} {vs : List V} : k.cl c = some (C, nm) → RDs k G ds vs → Cont k G (.obj c ds) (.ins C dx (nm.zip vs))
theorem Cont.mono {k : Kn} {G G' : Hp} (e : Ex G G') {d : D} {o : HO} (c : Cont k G d o) : Cont k G' d o := by
  cases c with
  | lst r => exact .lst (r.mono e)
  | dic l r => exact .dic l (r.mono e)
  | dit l r => exact .dit l (r.mono e)
  | dig l kk r => exact .dig l (kk.mono e) (r.mono e)
  | obj h r => exact .obj h (r.mono e)
theorem Cont.rd {k : Kn} {G : Hp} {d : D} {o : HO} {a : Addr} (c : Cont k G d o) (h : G a = some o) : RD k G d (.ref a) := by
  cases c with
  | lst r => exact .lst h r
  | dic l r => exact .dic h l r
  | dit l r => exact .dit h l r
  | dig l kk r => exact .dig (.inl h) l kk r
  | obj q r => exact .obj q h r
structure Cf where
  k : Kn
  H0 : Hp
  G0 : Hp
  W : WX
def OwnAt (S : Env) (σ : St) (i : Nat) (a : Addr) : Prop := (∃ d, S[i]? = some (some ⟨true, d⟩)) ∧ σ[i]? = some (some (.ref a))
structure Rel (c : Cf) (G : Hp) (S : Env) (σ : St) (H : Hp) : Prop where
  st : Step c.G0 c.H0 G H
  len : S.length = σ.length
  fz : ∀ (i : Nat) (d : D), S[i]? = some (some ⟨false, d⟩) → ∃ v, σ[i]? = some (some v) ∧ RD c.k G d v
  ow : ∀ (i : Nat) (d : D), S[i]? = some (some ⟨true, d⟩) → ∃ a o, σ[i]? = some (some (.ref a)) ∧ G a = none ∧ c.H0 a = none ∧ H a = some o ∧ Cont c.k G d o
  nd : ∀ (i j : Nat) (a : Addr), OwnAt S σ i a → OwnAt S σ j a → i = j
section
variable {c : Cf} {G G' H H' : Hp} {S : Env} {σ : St}
theorem Rel.own (r : Rel c G S σ H) {i : Nat} {a : Addr} (h : OwnAt S σ i a) : G a = none ∧ c.H0 a = none ∧ ∃ o d, H a = some o ∧ S[i]? = some (some ⟨true, d⟩) ∧ Cont c.k G d o := by
  obtain ⟨⟨d, hd⟩, hs⟩ := h
  obtain ⟨a', o, e, g, h0, ho, ct⟩ := r.ow i d hd
  rw [hs] at e; cases e
  exact ⟨g, h0, o, d, ho, hd, ct⟩
theorem Rel.grow (r : Rel c G S σ H) (s : Step G H G' H') : Rel c G' S σ H' where
  st := r.st.trans s
  len := r.len
  fz := fun i d h => let ⟨v, e, q⟩ := r.fz i d h; ⟨v, e, q.mono s.g⟩
  ow := fun i d h => by
    obtain ⟨a, o, e, g, h0, ho, ct⟩ := r.ow i d h
    refine ⟨a, o, e, ?_, h0, s.h _ _ ho, ct.mono s.g⟩
    cases q : G' a with
    | none => rfl
    | some u =>
      rcases s.gr a u q with z | z
      · rw [g] at z; cases z
      · rw [ho] at z; cases z
  nd := r.nd
theorem Rel.frz (r : Rel c G S σ H) {i : Nat} {d : D} (h : S[i]? = some (some ⟨true, d⟩)) : ∃ G', Ex G G' ∧ Rel c G' (S.set i (some ⟨false, d⟩)) σ H := by
  obtain ⟨a, o, e, g, h0, ho, ct⟩ := r.ow i d h
  have ow : OwnAt S σ i a := ⟨⟨d, h⟩, e⟩
  have ex : Ex G (upd G a o) := Ex.new g
  have hi : i < S.length := (List.getElem?_eq_some_iff.mp h).1
  refine ⟨upd G a o, ex, ⟨r.st.frz ho h0 g, by rw [List.length_set]; exact r.len, fun j d' q => ?_, fun j d' q => ?_, fun j l b q1 q2 => ?_⟩⟩
  · by_cases hj : i = j
    · subst hj
      rw [List.getElem?_set_self hi] at q; cases q
      exact ⟨_, e, (ct.mono ex).rd upd_same⟩
    · rw [List.getElem?_set_ne hj] at q
      obtain ⟨v, e', q'⟩ := r.fz j d' q
      exact ⟨v, e', q'.mono ex⟩
  · by_cases hj : i = j
    · subst hj
      rw [List.getElem?_set_self hi] at q; cases q
    · rw [List.getElem?_set_ne hj] at q
      obtain ⟨b, u, e', g', h0', ho', ct'⟩ := r.ow j d' q
      have hb : b ≠ a := fun z => hj (r.nd i j a ow ⟨⟨d', q⟩, by rw [← z]; exact e'⟩)
      exact ⟨b, u, e', by rw [upd_ne hb]; exact g', h0', ho', ct'.mono ex⟩
  · have back : ∀ {m : Nat}, OwnAt (S.set i (some ⟨false, d⟩)) σ m b → OwnAt S σ m b := fun {m} hm => by
      obtain ⟨⟨d', q⟩, z⟩ := hm
      by_cases hj : i = m
      · subst hj; rw [List.getElem?_set_self hi] at q; cases q
      · rw [List.getElem?_set_ne hj] at q; exact ⟨⟨d', q⟩, z⟩
    exact r.nd j l b (back q1) (back q2)
theorem Rel.setS (r : Rel c G S σ H) {d : D} {v : V} (i : Nat) (h : RD c.k G d v) : Rel c G (S.set i (some ⟨false, d⟩)) (σ.set i (some v)) H where
  st := r.st
  len := by rw [List.length_set, List.length_set]; exact r.len
  fz := fun j d' q => by
    by_cases hj : i = j
    · subst hj
      have hi : i < S.length := by have := (List.getElem?_eq_some_iff.mp q).1; rwa [List.length_set] at this
      rw [List.getElem?_set_self hi] at q; cases q
      exact ⟨v, List.getElem?_set_self (by rw [← r.len]; exact hi), h⟩
    · rw [List.getElem?_set_ne hj] at q ⊢; exact r.fz j d' q
  ow := fun j d' q => by
    by_cases hj : i = j
    · subst hj
      have hi : i < S.length := by have := (List.getElem?_eq_some_iff.mp q).1; rwa [List.length_set] at this
      rw [List.getElem?_set_self hi] at q; cases q
    · rw [List.getElem?_set_ne hj] at q ⊢; exact r.ow j d' q
  nd := fun j l b q1 q2 => by
    have back : ∀ {m : Nat}, OwnAt (S.set i (some ⟨false, d⟩)) (σ.set i (some v)) m b → OwnAt S σ m b := fun {m} hm => by
      obtain ⟨⟨d', q⟩, z⟩ := hm
      by_cases hj : i = m
      · subst hj
        have hi : i < S.length := by have := (List.getElem?_eq_some_iff.mp q).1; rwa [List.length_set] at this
        rw [List.getElem?_set_self hi] at q; cases q
      · rw [List.getElem?_set_ne hj] at q z; exact ⟨⟨d', q⟩, z⟩
    exact r.nd j l b (back q1) (back q2)
theorem Rel.setO (r : Rel c G S σ H) {d : D} {a : Addr} {o : HO} (i : Nat) (ha : H' a = some o) (hg : G a = none) (h0 : c.H0 a = none) (ct : Cont c.k G d o) (hn : ∀ j, OwnAt S σ j a → j = i) (hh : ∀ b, b ≠ a → H' b = H b) :
    Rel c G (S.set i (some ⟨true, d⟩)) (σ.set i (some (.ref a))) H' where
  st := ⟨r.st.g, fun b u q => by rw [hh b (ne_of_none q h0)]; exact r.st.h b u q, fun b u q => by rw [hh b (ne_of_none q hg)]; exact r.st.gh b u q, r.st.gr⟩
  len := by rw [List.length_set, List.length_set]; exact r.len
  fz := fun j d' q => by
    by_cases hj : i = j
    · subst hj
      have hi : i < S.length := by have := (List.getElem?_eq_some_iff.mp q).1; rwa [List.length_set] at this
      rw [List.getElem?_set_self hi] at q; cases q
    · rw [List.getElem?_set_ne hj] at q ⊢; exact r.fz j d' q
  ow := fun j d' q => by
    by_cases hj : i = j
    · subst hj
      have hi : i < S.length := by have := (List.getElem?_eq_some_iff.mp q).1; rwa [List.length_set] at this
      rw [List.getElem?_set_self hi] at q; cases q
      exact ⟨a, o, List.getElem?_set_self (by rw [← r.len]; exact hi), hg, h0, ha, ct⟩
    · rw [List.getElem?_set_ne hj] at q ⊢
      obtain ⟨b, u, e', g', h0', ho', ct'⟩ := r.ow j d' q
      have hb : b ≠ a := fun z => hj (hn j ⟨⟨d', q⟩, by rw [← z]; exact e'⟩).symm
      exact ⟨b, u, e', g', h0', by rw [hh b hb]; exact ho', ct'⟩
  nd := fun j l b q1 q2 => by
    have back : ∀ {m : Nat}, OwnAt (S.set i (some ⟨true, d⟩)) (σ.set i (some (.ref a))) m b → (m = i ∧ b = a) ∨ (m ≠ i ∧ OwnAt S σ m b) := fun {m} hm => by
      obtain ⟨⟨d', q⟩, z⟩ := hm
      by_cases hj : i = m
      · subst hj
        have hi : i < S.length := by have := (List.getElem?_eq_some_iff.mp q).1; rwa [List.length_set] at this
        rw [List.getElem?_set_self (by rw [← r.len]; exact hi)] at z; cases z
        exact .inl ⟨rfl, rfl⟩
      · rw [List.getElem?_set_ne hj] at q z; exact .inr ⟨Ne.symm hj, ⟨d', q⟩, z⟩
    rcases back q1 with ⟨h1, e1⟩ | ⟨n1, o1⟩ <;> rcases back q2 with ⟨h2, e2⟩ | ⟨n2, o2⟩
    · rw [h1, h2]
    · exact absurd (hn l (by rw [← e1]; exact o2)) n2
    · exact absurd (hn j (by rw [← e2]; exact o1)) n1
    · exact r.nd j l b o1 o2
theorem Rel.unset (r : Rel c G S σ H) (i : Nat) : Rel c G (S.set i none) (σ.set i none) H where
  st := r.st
  len := by rw [List.length_set, List.length_set]; exact r.len
  fz := fun j d' q => by
    by_cases hj : i = j
    · subst hj
      have hi : i < S.length := by have := (List.getElem?_eq_some_iff.mp q).1; rwa [List.length_set] at this
      rw [List.getElem?_set_self hi] at q; cases q
    · rw [List.getElem?_set_ne hj] at q ⊢; exact r.fz j d' q
  ow := fun j d' q => by
    by_cases hj : i = j
    · subst hj
      have hi : i < S.length := by have := (List.getElem?_eq_some_iff.mp q).1; rwa [List.length_set] at this
      rw [List.getElem?_set_self hi] at q; cases q
    · rw [List.getElem?_set_ne hj] at q ⊢; exact r.ow j d' q
  nd := fun j l b q1 q2 => by
    have back : ∀ {m : Nat}, OwnAt (S.set i none) (σ.set i none) m b → OwnAt S σ m b := fun {m} hm => by
      obtain ⟨⟨d', q⟩, z⟩ := hm
      by_cases hj : i = m
      · subst hj
        have hi : i < S.length := by have := (List.getElem?_eq_some_iff.mp q).1; rwa [List.length_set] at this
        rw [List.getElem?_set_self hi] at q; cases q
      · rw [List.getElem?_set_ne hj] at q z; exact ⟨⟨d', q⟩, z⟩
    exact r.nd j l b (back q1) (back q2)
end
def wipeS (S : Env) : List Nat → Env
  | [] => S
  | v :: vs => (wipeS S vs).set v none
theorem Rel.wipe {c : Cf} {G H : Hp} {S : Env} {σ : St} (r : Rel c G S σ H) : ∀ vs : List Nat, Rel c G (wipeS S vs) (L2.wipe σ vs) H
  | [] => r
  | v :: vs => (Rel.wipe r vs).unset v
theorem Rel.mut {c : Cf} {G H : Hp} {S : Env} {σ : St} (r : Rel c G S σ H) {i : Nat} {a : Addr} {d' : D} {o' : HO} (ow : OwnAt S σ i a) (ct : Cont c.k G d' o') : Rel c G (S.set i (some ⟨true, d'⟩)) σ (upd H a o') := by
  obtain ⟨g, h0, _⟩ := r.own ow
  have q := r.setO (H' := upd H a o') i upd_same g h0 ct (fun j oj => r.nd j i a oj ow) (fun b hb => upd_ne hb)
  have e : σ.set i (some (.ref a)) = σ := by
    apply List.ext_getElem?
    intro j
    by_cases hj : i = j
    · subst hj; rw [List.getElem?_set_self (List.getElem?_eq_some_iff.mp ow.2).1, ow.2]
    · rw [List.getElem?_set_ne hj]
  rw [e] at q; exact q
def Now (k : Kn) (G H : Hp) (d : D) (v : V) : Prop := RD k G d v ∨ ∃ a o, v = .ref a ∧ H a = some o ∧ Cont k G d o
inductive Nows (k : Kn) (G H : Hp) : List D → List V → Prop where
  | nil : Nows k G H [] []
  | cons {d : D} {ds : List D} {v : V} {vs : List V} : Now k G H d v → Nows k G H ds vs → Nows k G H (d :: ds) (v :: vs)
section
variable {k : Kn} {G G' H H' : Hp}
theorem Now.grow {d : D} {v : V} (n : Now k G H d v) (s : Step G H G' H') : Now k G' H' d v := by
  rcases n with n | ⟨a, o, e, h, ct⟩
  · exact .inl (n.mono s.g)
  · exact .inr ⟨a, o, e, s.h _ _ h, ct.mono s.g⟩
theorem Nows.grow (s : Step G H G' H') : ∀ {ds : List D} {vs : List V}, Nows k G H ds vs → Nows k G' H' ds vs
  | _, _, .nil => .nil
  | _, _, .cons a b => .cons (a.grow s) (Nows.grow s b)
theorem Nows.of : ∀ {ds : List D} {vs : List V}, RDs k G ds vs → Nows k G H ds vs
  | _, _, .nil => .nil
  | _, _, .cons a b => .cons (.inl a) (Nows.of b)
theorem Now.rd {d : D} {v : V} (e : Ex G H) (n : Now k G H d v) : RD k H d v := by
  rcases n with n | ⟨a, o, rfl, h, ct⟩
  · exact n.mono e
  · exact (ct.mono e).rd h
theorem Nows.rd (e : Ex G H) : ∀ {ds : List D} {vs : List V}, Nows k G H ds vs → RDs k H ds vs
  | _, _, .nil => .nil
  | _, _, .cons a b => .cons (a.rd e) (Nows.rd e b)
theorem Now.lst {ds : List D} {v : V} (e : Ex G H) (n : Now k G H (.lst ds) v) : ∃ a vs, v = .ref a ∧ H a = some (.lst vs) ∧ RDs k G ds vs := by
  rcases n with n | ⟨a, o, rfl, h, ct⟩
  · cases n with | lst h r => exact ⟨_, _, rfl, e _ _ h, r⟩
  · cases ct with | lst r => exact ⟨_, _, rfl, h, r⟩
theorem Now.tup {ds : List D} {v : V} (n : Now k G H (.tup ds) v) : ∃ a vs, v = .ref a ∧ SqU k.K G a vs ∧ RDs k G ds vs := by
  rcases n with n | ⟨a, o, rfl, h, ct⟩
  · cases n with | tup h r => exact ⟨_, _, rfl, h, r⟩
  · cases ct
theorem Now.scr {ns : List Int} {v : V} (n : Now k G H (.scr ns) v) : ∃ a, v = .ref a ∧ SqL k.K G a (ns.map V.int) := by
  rcases n with n | ⟨a, o, rfl, h, ct⟩
  · cases n with | scr h => exact ⟨_, rfl, h⟩
  · cases ct
theorem Now.dic {ks : List Key} {ds : List D} {v : V} (e : Ex G H) (n : Now k G H (.dic ks ds) v) : ∃ a vs, v = .ref a ∧ H a = some (.dK (ks.zip vs)) ∧ ks.length = ds.length ∧ RDs k G ds vs := by
  rcases n with n | ⟨a, o, rfl, h, ct⟩
  · cases n with | dic h l r => exact ⟨_, _, rfl, e _ _ h, l, r⟩
  · cases ct with | dic l r => exact ⟨_, _, rfl, h, l, r⟩
theorem Now.dit {ks : List (List Key)} {ds : List D} {v : V} (e : Ex G H) (n : Now k G H (.dit ks ds) v) : ∃ a vs, v = .ref a ∧ H a = some (.dT (ks.zip vs)) ∧ ks.length = ds.length ∧ RDs k G ds vs := by
  rcases n with n | ⟨a, o, rfl, h, ct⟩
  · cases n with | dit h l r => exact ⟨_, _, rfl, e _ _ h, l, r⟩
  · cases ct with | dit l r => exact ⟨_, _, rfl, h, l, r⟩
theorem Now.dkf {ks : List Key} {ds : List D} {v : V} (e : Ex G H) (n : Now k G H (.dkf ks ds) v) : ∃ a o vs, v = .ref a ∧ H a = some (.frz o (.dK (ks.zip vs))) ∧ ks.length = ds.length ∧ RDs k G ds vs := by
  rcases n with n | ⟨a, o, rfl, h, ct⟩
  · cases n with | dkf h l r => exact ⟨_, _, _, rfl, e _ _ h, l, r⟩
  · cases ct
theorem Now.obj {c : Nat} {ds : List D} {v : V} (e : Ex G H) (n : Now k G H (.obj c ds) v) : ∃ a C dx nm vs, v = .ref a ∧ k.cl c = some (C, nm) ∧ H a = some (.ins C dx (nm.zip vs)) ∧ RDs k G ds vs := by
  rcases n with n | ⟨a, o, rfl, h, ct⟩
  · cases n with | obj q h r => exact ⟨_, _, _, _, _, rfl, q, e _ _ h, r⟩
  · cases ct with | obj q r => exact ⟨_, _, _, _, _, rfl, q, h, r⟩
theorem Now.int {i : Int} {v : V} (n : Now k G H (.int i) v) : v = .int i := by
  rcases n with n | ⟨a, o, rfl, h, ct⟩
  · cases n; rfl
  · cases ct
theorem Now.bl {i : Bool} {v : V} (n : Now k G H (.bl i) v) : v = .bl i := by
  rcases n with n | ⟨a, o, rfl, h, ct⟩
  · cases n; rfl
  · cases ct
theorem Now.str {i : Str} {v : V} (n : Now k G H (.str i) v) : v = .str i := by
  rcases n with n | ⟨a, o, rfl, h, ct⟩
  · cases n; rfl
  · cases ct
theorem Now.non {v : V} (n : Now k G H .non v) : v = .non := by
  rcases n with n | ⟨a, o, rfl, h, ct⟩
  · cases n; rfl
  · cases ct
theorem Now.ty {x : String} {v : V} (n : Now k G H (.ty x) v) : v = .ty x := by
  rcases n with n | ⟨a, o, rfl, h, ct⟩
  · cases n; rfl
  · cases ct
end
def Res (k : Kn) (H : Hp) (G' H' : Hp) (d : D) (v : V) : Kd → Prop
  | .st => RD k G' d v
  | .bo => Now k G' H' d v
  | .fr => ∃ a o, v = .ref a ∧ G' a = none ∧ H a = none ∧ H' a = some o ∧ Cont k G' d o
section
variable {k : Kn} {H0 H G' H' G2 H2 : Hp} {d : D} {v : V} {kd : Kd}
theorem Res.mono (h : Res k H G' H' d v kd) (e : Ex H0 H) : Res k H0 G' H' d v kd := by
  cases kd with
  | st => exact h
  | bo => exact h
  | fr => obtain ⟨a, o, e', hg, h0, r⟩ := h; exact ⟨a, o, e', hg, e.free h0, r⟩
theorem Res.now (h : Res k H G' H' d v kd) : Now k G' H' d v := by
  cases kd with
  | st => exact .inl h
  | bo => exact h
  | fr => obtain ⟨a, o, e, _, _, h, ct⟩ := h; exact .inr ⟨a, o, e, h, ct⟩
end
def Args (k : Kn) (G H : Hp) (ds : List D) (vs : List V) : Bool → Prop
  | true => Nows k G H ds vs
  | false => RDs k G ds vs
theorem Args.nows {k : Kn} {G H : Hp} {ds : List D} {vs : List V} {b : Bool} (h : Args k G H ds vs b) : Nows k G H ds vs := by
  cases b with
  | true => exact h
  | false => exact Nows.of h
def XR (c : Cf) (G : Hp) (x : Exc) (cls : Value) (da : Option Addr) (H : Hp) : Prop :=
  ∃ C nm, c.k.cl x.c = some (C, nm) ∧ cls = .ref C ∧ ((nm = [] ∧ x.fs = [] ∧ da = none) ∨ ∃ d vs, da = some d ∧ H d = some (.xd (nm.zip vs)) ∧ RDs c.k G x.fs vs ∧ nm.length = vs.length)
def PX (c : Cf) (σ : St) (x : Exc) : Prop := ∀ cls da G' H', Step c.G0 c.H0 G' H' → XR c G' x cls da H' → c.W cls da σ H'
def PXs (c : Cf) (x : Exc) : Prop := ∀ σ, PX c σ x
abbrev liftX (E : XK) : WX := fun cls da _ H => E cls da H
def PostE (c : Cf) (k : Kd) (G : Hp) (S : Env) (σ : St) (H : Hp) (Q : VK) : R D → Prop
  | .ok d => ∀ v G' H', Step G H G' H' → Res c.k H G' H' d v k → Q v H'
  | .exc x => PX c σ x
  | .fail => False
def RdE (c : Cf) (k : Kd) (f : FE) : TE := fun σ H Q => ∃ G S, Rel c G S σ H ∧ PostE c k G S σ H Q (f S)
def PostT (c : Cf) (G : Hp) (S : Env) (σ : St) (H : Hp) (Q : Bool → Hp → Prop) : R Bool → Prop
  | .ok b => ∀ G' H', Step G H G' H' → Q b H'
  | .exc x => PX c σ x
  | .fail => False
def RdT (c : Cf) (f : FT) : TT := fun σ H Q => ∃ G S, Rel c G S σ H ∧ PostT c G S σ H Q (f S)
def PostA (c : Cf) (b : Bool) (G : Hp) (S : Env) (σ : St) (H : Hp) (Q : List V → Hp → Prop) : R (List D) → Prop
  | .ok ds => ∀ vs G' H', Step G H G' H' → Args c.k G' H' ds vs b → Q vs H'
  | .exc x => PX c σ x
  | .fail => False
def RdA (c : Cf) (b : Bool) (f : FA) : TA := fun σ H Q => ∃ G S, Rel c G S σ H ∧ PostA c b G S σ H Q (f S)
structure Frm (as : List Nat) (S : Env) (σ : St) (H : Hp) (S' : Env) (σ' : St) (H' : Hp) : Prop where
  len : σ'.length = σ.length
  sg : ∀ (i : Nat), i ∉ as → σ'[i]? = σ[i]?
  sl : ∀ (i : Nat), i ∉ as → i + 1000 ∉ as → S'[i]? = S[i]?
  ow : ∀ (i : Nat) (a : Addr), i ∉ as → i + 1000 ∉ as → OwnAt S σ i a → H' a = H a
theorem Frm.refl (as : List Nat) (S : Env) (σ : St) (H : Hp) : Frm as S σ H S σ H := ⟨rfl, fun _ _ => rfl, fun _ _ _ => rfl, fun _ _ _ _ _ => rfl⟩
theorem Frm.trans {as bs : List Nat} {S S1 S2 : Env} {σ σ1 σ2 : St} {H H1 H2 : Hp} (a : Frm as S σ H S1 σ1 H1) (b : Frm bs S1 σ1 H1 S2 σ2 H2) : Frm (as ++ bs) S σ H S2 σ2 H2 where
  len := b.len.trans a.len
  sg := fun i h => by
    simp only [List.mem_append, not_or] at h
    exact (b.sg i h.2).trans (a.sg i h.1)
  sl := fun i h h' => by
    simp only [List.mem_append, not_or] at h h'
    exact (b.sl i h.2 h'.2).trans (a.sl i h.1 h'.1)
  ow := fun i x h h' o => by
    simp only [List.mem_append, not_or] at h h'
    have o' : OwnAt S1 σ1 i x := ⟨by obtain ⟨d, e⟩ := o.1; exact ⟨d, (a.sl i h.1 h'.1).trans e⟩, (a.sg i h.1).trans o.2⟩
    exact (b.ow i x h.2 h'.2 o').trans (a.ow i x h.1 h'.1 o)
theorem Frm.mono {as bs : List Nat} {S S1 : Env} {σ σ1 : St} {H H1 : Hp} (a : Frm as S σ H S1 σ1 H1) (h : ∀ i, i ∈ as → i ∈ bs) : Frm bs S σ H S1 σ1 H1 :=
  ⟨a.len, fun i q => a.sg i fun z => q (h i z), fun i q q' => a.sl i (fun z => q (h i z)) fun z => q' (h _ z), fun i x q q' => a.ow i x (fun z => q (h i z)) fun z => q' (h _ z)⟩
theorem Frm.step {c : Cf} {as : List Nat} {S : Env} {σ : St} {G H G' H' : Hp} (r : Rel c G S σ H) (s : Step G H G' H') : Frm as S σ H S σ H' :=
  ⟨rfl, fun _ _ => rfl, fun _ _ _ => rfl, fun i a _ _ o => by
    obtain ⟨_, _, u, _, h, _⟩ := r.own o
    rw [h, s.h a u h]⟩
theorem Frm.mut {c : Cf} {G H : Hp} {S : Env} {σ : St} (r : Rel c G S σ H) {i : Nat} {a : Addr} {x : Option Sl} {o' : HO} (ow : OwnAt S σ i a) : Frm [i + 1000] S σ H (S.set i x) σ (upd H a o') :=
  ⟨rfl, fun _ _ => rfl, fun j _ h => List.getElem?_set_ne (fun z => h (by simp [z])), fun j b _ h oj => upd_ne (fun z => h (by
    have : i = j := r.nd i j b (by rw [z]; exact ow) oj
    simp [this]))⟩
def RV (c : Cf) (fr : Bool) (G H : Hp) (d : D) (v : V) : Prop :=
  match fr with
  | true => ∃ a o, v = .ref a ∧ G a = none ∧ c.H0 a = none ∧ H a = some o ∧ Cont c.k G d o
  | false => RD c.k G d v
structure OwR (k : Kn) (as : List Nat) (S' : Env) (σ : St) (G' H' : Hp) : Prop where
  ex : ∃ σ' : St, (∀ i : Nat, i ∉ as → σ'[i]? = σ[i]?) ∧ ∀ (i : Nat) (d : D), S'[i]? = some (some ⟨true, d⟩) → ∃ a o, σ'[i]? = some (some (.ref a)) ∧ G' a = none ∧ H' a = some o ∧ Cont k G' d o
theorem Rel.owR {c : Cf} {as : List Nat} {S : Env} {σ : St} {G H : Hp} (r : Rel c G S σ H) : OwR c.k as S σ G H :=
  ⟨σ, fun _ _ => rfl, fun i d q => by
    obtain ⟨a, o, e, g, _, ho, ct⟩ := r.ow i d q
    exact ⟨a, o, e, g, ho, ct⟩⟩
theorem OwR.sub {k : Kn} {as bs : List Nat} {S : Env} {σ : St} {G H : Hp} (h : OwR k as S σ G H) (hs : ∀ i, i ∈ as → i ∈ bs) : OwR k bs S σ G H := by
  obtain ⟨σ', h1, h2⟩ := h.ex
  exact ⟨σ', fun i hi => h1 i fun z => hi (hs i z), h2⟩
theorem OwR.mv {k : Kn} {as bs : List Nat} {S S1 S2 : Env} {σ σ1 : St} {G H H0 H1 : Hp} (h : OwR k bs S2 σ1 G H) (fm : Frm as S σ H0 S1 σ1 H1) : OwR k (as ++ bs) S2 σ G H := by
  obtain ⟨σ', h1, h2⟩ := h.ex
  refine ⟨σ', fun i hi => ?_, h2⟩
  simp only [List.mem_append, not_or] at hi
  exact (h1 i hi.2).trans (fm.sg i hi.1)
def PostS (c : Cf) (fr : Bool) (as : List Nat) (G : Hp) (S : Env) (σ : St) (H : Hp) (Dn : Ends) : R (Fl × Env) → Prop
  | .ok (.nx, S') => ∀ G' σ' H', Ex G G' → Rel c G' S' σ' H' → Frm as S σ H S' σ' H' → Dn.nx σ' H'
  | .ok (.bk, S') => ∀ G' σ' H', Ex G G' → Rel c G' S' σ' H' → Frm as S σ H S' σ' H' → Dn.bk σ' H'
  | .ok (.ct, S') => ∀ G' σ' H', Ex G G' → Rel c G' S' σ' H' → Frm as S σ H S' σ' H' → Dn.ct σ' H'
  | .ok (.rt d, S') => ∀ v G' H', Step c.G0 c.H0 G' H' → RV c fr G' H' d v → OwR c.k as S' σ G' H' → Dn.rt v H'
  | .exc x => PXs c x
  | .fail => False
def RdS (c : Cf) (fr : Bool) (as : List Nat) (f : FS) : TS := fun Dn σ H => ∃ G S, Rel c G S σ H ∧ PostS c fr as G S σ H Dn (f S)
def PostG (c : Cf) (as : List Nat) (G : Hp) (S : Env) (σ : St) (H : Hp) (Q : St → Hp → Prop) : R Env → Prop
  | .ok S' => ∀ G' σ' H', Step G H G' H' → Rel c G' S' σ' H' → Frm as S σ H S' σ' H' → Q σ' H'
  | _ => False
def RdG (c : Cf) (as : List Nat) (g : FG) : TG := fun v σ H Q => ∃ G S d, Rel c G S σ H ∧ RD c.k G d v ∧ PostG c as G S σ H Q (g d S)
end M
set_option Elab.async false
set_option linter.all false
set_option maxRecDepth 100000
set_option maxHeartbeats 4000000
namespace M
open PySem L2
section
variable {X : Cx}
theorem peI {e : Expr} {t t' : TE} (h : PE X e t) (i : ∀ σ H Q, t' σ H Q → t σ H Q) : PE X e t' := ⟨fun pins s σ H Q I q => h.run pins s σ H Q I (i σ H Q q)⟩
theorem ptI {e : Expr} {t t' : TT} (h : PT X e t) (i : ∀ σ H Q, t' σ H Q → t σ H Q) : PT X e t' := ⟨fun pins s σ H Q I q => h.run pins s σ H Q I (i σ H Q q)⟩
theorem pwI {e : Expr} {t t' : TT} (h : PW X e t) (i : ∀ σ H Q, t' σ H Q → t σ H Q) : PW X e t' := ⟨fun wh pins s σ H Q I q => h.run wh pins s σ H Q I (i σ H Q q)⟩
theorem paI {e : List Expr} {t t' : TA} (h : PA X e t) (i : ∀ σ H Q, t' σ H Q → t σ H Q) : PA X e t' := ⟨fun pos pins s σ H Q I q => h.run pos pins s σ H Q I (i σ H Q q)⟩
theorem psI {e : Stmt} {t t' : TS} (h : PS X e t) (i : ∀ D σ H, t' D σ H → t D σ H) : PS X e t' := ⟨fun pins s σ H D I q => h.run pins s σ H D I (i D σ H q)⟩
theorem pssI {e : List Stmt} {t t' : TS} (h : PSs X e t) (i : ∀ D σ H, t' D σ H → t D σ H) : PSs X e t' := ⟨fun pins s σ H D I q => h.run pins s σ H D I (i D σ H q)⟩
theorem pgI {e : Expr} {t t' : TG} (h : PG X e t) (i : ∀ v σ H Q, t' v σ H Q → t v σ H Q) : PG X e t' := ⟨fun pins s σ H v u Q I r q => h.run pins s σ H v u Q I r (i v σ H Q q)⟩
theorem pgsI {e : List Expr} {t t' : TGs} (h : PGs X e t) (i : ∀ v σ H Q, t' v σ H Q → t v σ H Q) : PGs X e t' := ⟨fun pins s σ H v u Q I r q => h.run pins s σ H v u Q I r (i v σ H Q q)⟩
theorem piI {tg e : Expr} {t t' : TI} (h : PI X tg e t) (i : ∀ σ H Q, t' σ H Q → t σ H Q) : PI X tg e t' := ⟨fun pins s σ H R I q => h.run pins s σ H R I (i σ H R q)⟩
theorem poI {e : Option Expr} {t t' : TO} (h : PO X e t) (i : ∀ σ H Q, t' σ H Q → t σ H Q) : PO X e t' := ⟨fun pins s σ H Q I q => h.run pins s σ H Q I (i σ H Q q)⟩
theorem ptsI {e : List Expr} {t t' : TT} (h : PTs X e t) (i : ∀ σ H Q, t' σ H Q → t σ H Q) : PTs X e t' := ⟨fun pins s σ H Q I q => h.run pins s σ H Q I (i σ H Q q)⟩
end
section
variable {X : Cx} {c : Cf}
theorem rdE_go {kd : Kd} {f : FE} {G H : Hp} {S : Env} {σ : St} {Q : VK} {β : Type} {g : D → R β} {Post : R β → Prop} (r : Rel c G S σ H) (p : Post (f S >>= g))
    (hx : ∀ x, Post (.exc x) → PX c σ x) (hf : Post .fail → False) (k : ∀ d v G' H', Step G H G' H' → Res c.k H G' H' d v kd → Post (g d) → Q v H') : RdE c kd f σ H Q := by
  refine ⟨G, S, r, ?_⟩
  cases e : f S with
  | ok d => rw [e] at p; exact fun v G' H' s h => k d v G' H' s h p
  | exc x => rw [e] at p; exact hx x p
  | fail => rw [e] at p; exact hf p
theorem rdT_go {f : FT} {G H : Hp} {S : Env} {σ : St} {Q : Bool → Hp → Prop} {β : Type} {g : Bool → R β} {Post : R β → Prop} (r : Rel c G S σ H) (p : Post (f S >>= g))
    (hx : ∀ x, Post (.exc x) → PX c σ x) (hf : Post .fail → False) (k : ∀ d G' H', Step G H G' H' → Post (g d) → Q d H') : RdT c f σ H Q := by
  refine ⟨G, S, r, ?_⟩
  cases e : f S with
  | ok d => rw [e] at p; exact fun G' H' s => k d G' H' s p
  | exc x => rw [e] at p; exact hx x p
  | fail => rw [e] at p; exact hf p
theorem rdA_go {b : Bool} {f : FA} {G H : Hp} {S : Env} {σ : St} {Q : List V → Hp → Prop} {β : Type} {g : List D → R β} {Post : R β → Prop} (r : Rel c G S σ H) (p : Post (f S >>= g))
    (hx : ∀ x, Post (.exc x) → PX c σ x) (hf : Post .fail → False) (k : ∀ ds vs G' H', Step G H G' H' → Args c.k G' H' ds vs b → Post (g ds) → Q vs H') : RdA c b f σ H Q := by
  refine ⟨G, S, r, ?_⟩
  cases e : f S with
  | ok d => rw [e] at p; exact fun v G' H' s h => k d v G' H' s h p
  | exc x => rw [e] at p; exact hx x p
  | fail => rw [e] at p; exact hf p
abbrev PE' (X : Cx) (c : Cf) (kd : Kd) (e : Expr) (f : FE) : Prop := PE X e (RdE c kd f)
abbrev PT' (X : Cx) (c : Cf) (e : Expr) (f : FT) : Prop := PT X e (RdT c f)
abbrev PA' (X : Cx) (c : Cf) (b : Bool) (es : List Expr) (f : FA) : Prop := PA X es (RdA c b f)
theorem cst_of {e : Expr} {d : D} {v : V} (h : PE X e (tC v)) (r : ∀ G, RD c.k G d v) : PE' X c .st e (fun _ => .ok d) :=
  peI h fun σ H Q ⟨G, S, rel, p⟩ => p v G H (Step.refl rel.st.gh) (r G)
def eI (i : Int) : FE := fun _ => .ok (.int i)
def eS (x : Str) : FE := fun _ => .ok (.str x)
def eB (b : Bool) : FE := fun _ => .ok (.bl b)
def eN : FE := fun _ => .ok .non
theorem d_int {i j pos} : PE' X c .st (.Constant (.int i) j pos) (eI i) := cst_of pe_int fun _ => .int i
theorem d_str {i j pos} : PE' X c .st (.Constant (.str i) j pos) (eS i) := cst_of pe_str fun _ => .str i
theorem d_bl {i j pos} : PE' X c .st (.Constant (.bool i) j pos) (eB i) := cst_of pe_bl fun _ => .bl i
def eV (i : Nat) : FE := fun S => match S[i]? with
  | some (some ⟨false, d⟩) => .ok d
  | _ => .fail
def eW (i : Nat) : FE := fun S => match S[i]? with
  | some (some ⟨_, d⟩) => .ok d
  | _ => .fail
theorem d_v (i : Nat) {x : Str} {pos : Pos} (hN : X.N[i]? = some x := by rfl) (hv : Vis X.env.scope x := by first | exact Or.inl rfl | exact Or.inr (Or.inl rfl) | exact Or.inr (Or.inr rfl)) (hd : (x == ("__debug__" : Str)) = false := by decide)
    (hcd : (x == ("__classdict__" : Str)) = false := by decide) : PE' X c .st (.Name x pos) (eV i) :=
  peI (pe_var hN hv hd hcd) fun σ H Q ⟨G, S, r, p⟩ => by
    unfold eV at p
    split at p
    · rename_i d e
      obtain ⟨v, e1, q⟩ := r.fz i d e
      exact ⟨v, e1, p v G H (Step.refl r.st.gh) q⟩
    · exact p.elim
theorem d_w (i : Nat) {x : Str} {pos : Pos} (hN : X.N[i]? = some x := by rfl) (hv : Vis X.env.scope x := by first | exact Or.inl rfl | exact Or.inr (Or.inl rfl) | exact Or.inr (Or.inr rfl)) (hd : (x == ("__debug__" : Str)) = false := by decide)
    (hcd : (x == ("__classdict__" : Str)) = false := by decide) : PE' X c .bo (.Name x pos) (eW i) :=
  peI (pe_var hN hv hd hcd) fun σ H Q ⟨G, S, r, p⟩ => by
    unfold eW at p
    split at p
    · rename_i b d e
      cases b with
      | false =>
        obtain ⟨v, e1, q⟩ := r.fz i d e
        exact ⟨v, e1, p v G H (Step.refl r.st.gh) (.inl q)⟩
      | true =>
        obtain ⟨a, o, e1, hg, h0, ho, ct⟩ := r.ow i d e
        exact ⟨_, e1, p _ G H (Step.refl r.st.gh) (.inr ⟨a, o, rfl, ho, ct⟩)⟩
    · exact p.elim
theorem d_z {e : Expr} {f : FE} (h : PE' X c .fr e f) : PE' X c .st e f :=
  peI h fun σ H Q ⟨G, S, r, p⟩ => ⟨G, S, r, by
    cases e1 : f S with
    | ok d =>
      rw [e1] at p
      rintro v G' H' s ⟨a, o, rfl, hg, hn, ha, ct⟩
      exact p _ (upd G' a o) H' (s.frz ha hn hg) ((ct.mono (Ex.new hg)).rd upd_same)
    | exc x => rw [e1] at p; exact p
    | fail => rw [e1] at p; exact p⟩
def Op2 (X : Cx) (k : Kn) (f : Value → Value → Sem Value) (kd : Kd) (g : D → D → R D) : Prop :=
  ∃ r : R2, OpR X f r ∧ ∀ G H x y u v d, Ex G H → Now k G H x u → Now k G H y v → g x y = .ok d → ∀ Q : VK, (∀ w G' H', Step G H G' H' → Res k H G' H' d w kd → Q w H') → r u v H Q
variable {kd k1 k2 k3 : Kd} {a b : Expr} {f g h : FE} {pos : Pos}
def e2 (o : D → D → R D) (f g : FE) : FE := fun S => do
  let x ← f S
  let y ← g S
  (o x y).nox
theorem e2_go {o : D → D → R D} {σ : St} {H : Hp} {Q : VK} {r : R2} (hr : ∀ G H x y u v d, Ex G H → Now c.k G H x u → Now c.k G H y v → o x y = .ok d → ∀ Q : VK, (∀ w G' H', Step G H G' H' → Res c.k H G' H' d w kd → Q w H') → r u v H Q)
    (q : RdE c kd (e2 o f g) σ H Q) : RdE c k1 f σ H fun x H1 => RdE c k2 g σ H1 fun y H2 => r x y H2 Q := by
  obtain ⟨G, S, rel, p⟩ := q
  refine rdE_go (g := fun x => do let y ← g S; (o x y).nox) (Post := PostE c kd G S σ H Q) rel p (fun _ z => z) (fun z => z) fun d1 v1 G1 H1 s1 q1 p1 => ?_
  refine rdE_go (g := fun y => (o d1 y).nox) (Post := PostE c kd G S σ H Q) (rel.grow s1) p1 (fun _ z => z) (fun z => z) fun d2 v2 G2 H2 s2 q2 p2 => ?_
  cases e : o d1 d2 with
  | ok d =>
    rw [e] at p2
    exact hr G2 H2 d1 d2 v1 v2 d s2.gh (q1.now.grow s2) q2.now e Q fun w G3 H3 s3 q3 => p2 w G3 H3 ((s1.trans s2).trans s3) (q3.mono (s1.h.trans s2.h))
  | exc x => rw [e] at p2; exact p2.elim
  | fail => rw [e] at p2; exact p2.elim
theorem d_op {op : Operator} {o : D → D → R D} (ho : Op2 X c.k (binaryOp op) kd o) (ha : PE' X c k1 a f) (hb : PE' X c k2 b g) : PE' X c kd (.BinOp a op b pos) (e2 o f g) := by
  obtain ⟨r, h1, h2⟩ := ho
  exact peI (pe_op h1 ha hb) fun σ H Q q => e2_go h2 q
theorem d_cmp {op : CmpOp} {o : D → D → R D} (ho : Op2 X c.k (compareOp op) kd o) (ha : PE' X c k1 a f) (hb : PE' X c k2 b g) (hm : behindInMarks op b = false := by rfl) : PE' X c kd (.Compare a [op] [b] pos) (e2 o f g) := by
  obtain ⟨r, h1, h2⟩ := ho
  exact peI (pe_cmpR h1 ha hb hm) fun σ H Q q => e2_go h2 q
def Ix2 (X : Cx) (k : Kn) (g : D → D → R D) : Prop :=
  ∃ r : R2, IxR X r ∧ ∀ G H x y u v d, Ex G H → Now k G H x u → Now k G H y v → g x y = .ok d → ∀ Q : VK, (∀ w G' H', Step G H G' H' → Res k H G' H' d w .st → Q w H') → r u v H Q
theorem d_ix {o : D → D → R D} (ho : Ix2 X c.k o) (ha : PE' X c k1 a f) (hb : PE' X c k2 b g) (hi : PlainIx b := by exact fun _ _ => rfl) : PE' X c .st (.Subscript a b pos) (e2 o f g) := by
  obtain ⟨r, h1, h2⟩ := ho
  exact peI (pe_ix h1 ha hb hi) fun σ H Q q => e2_go h2 q
def e1 (o : D → R D) (f : FE) : FE := fun S => do
  let x ← f S
  (o x).nox
theorem e1_go {o : D → R D} {σ : St} {H : Hp} {Q : VK} {r : V → Hp → VK → Prop} (hr : ∀ G H x u d, Ex G H → Now c.k G H x u → o x = .ok d → ∀ Q : VK, (∀ w G' H', Step G H G' H' → Res c.k H G' H' d w kd → Q w H') → r u H Q)
    (q : RdE c kd (e1 o f) σ H Q) : RdE c k1 f σ H fun x H1 => r x H1 Q := by
  obtain ⟨G, S, rel, p⟩ := q
  refine rdE_go (g := fun x => (o x).nox) (Post := PostE c kd G S σ H Q) rel p (fun _ z => z) (fun z => z) fun d1 v1 G1 H1 s1 q1 p1 => ?_
  cases e : o d1 with
  | ok d =>
    rw [e] at p1
    exact hr G1 H1 d1 v1 d s1.gh q1.now e Q fun w G3 H3 s3 q3 => p1 w G3 H3 (s1.trans s3) (q3.mono s1.h)
  | exc x => rw [e] at p1; exact p1.elim
  | fail => rw [e] at p1; exact p1.elim
def Un1 (X : Cx) (k : Kn) (f : Value → Sem Value) (g : D → R D) : Prop :=
  ∃ r : V → Hp → VK → Prop, UnR X f r ∧ ∀ G H x u d, Ex G H → Now k G H x u → g x = .ok d → ∀ Q : VK, (∀ w G' H', Step G H G' H' → Res k H G' H' d w .st → Q w H') → r u H Q
theorem d_un {op : UnaryOp} {o : D → R D} (ho : Un1 X c.k (unaryOp op) o) (ha : PE' X c k1 a f) : PE' X c .st (.UnaryOp op a pos) (e1 o f) := by
  obtain ⟨r, h1, h2⟩ := ho
  exact peI (pe_un h1 ha) fun σ H Q q => e1_go h2 q
def aN : FA := fun _ => .ok []
def aC (f : FE) (g : FA) : FA := fun S => do
  let x ← f S
  let xs ← g S
  .ok (x :: xs)
theorem d_an {b : Bool} : PA' X c b [] aN := paI pa_nil fun σ H Q ⟨G, S, r, p⟩ => p [] G H (Step.refl r.st.gh) (by cases b <;> exact .nil)
theorem d_ac {e : Expr} {es : List Expr} {ga : FA} (ha : PE' X c .st e f) (hr : PA' X c false es ga) (hs : starEach (e :: es) X.env = (false, eval e X.env) :: starEach es X.env := by rfl) : PA' X c false (e :: es) (aC f ga) :=
  paI (pa_cons ha hr hs) fun σ H Q ⟨G, S, rel, p⟩ => by
    refine rdE_go (g := fun x => do let xs ← ga S; .ok (x :: xs)) (Post := PostA c false G S σ H Q) rel p (fun _ z => z) (fun z => z) fun d1 v1 G1 H1 s1 q1 p1 => ?_
    refine rdA_go (g := fun xs => .ok (d1 :: xs)) (Post := PostA c false G S σ H Q) (rel.grow s1) p1 (fun _ z => z) (fun z => z) fun d2 v2 G2 H2 s2 q2 p2 => ?_
    exact p2 _ G2 H2 (s1.trans s2) (.cons (RD.mono s2.g q1) q2)
theorem d_ab {e : Expr} {es : List Expr} {ga : FA} (ha : PE' X c k1 e f) (hr : PA' X c true es ga) (hs : starEach (e :: es) X.env = (false, eval e X.env) :: starEach es X.env := by rfl) : PA' X c true (e :: es) (aC f ga) :=
  paI (pa_cons ha hr hs) fun σ H Q ⟨G, S, rel, p⟩ => by
    refine rdE_go (g := fun x => do let xs ← ga S; .ok (x :: xs)) (Post := PostA c true G S σ H Q) rel p (fun _ z => z) (fun z => z) fun d1 v1 G1 H1 s1 q1 p1 => ?_
    refine rdA_go (g := fun xs => .ok (d1 :: xs)) (Post := PostA c true G S σ H Q) (rel.grow s1) p1 (fun _ z => z) (fun z => z) fun d2 v2 G2 H2 s2 q2 p2 => ?_
    exact p2 _ G2 H2 (s1.trans s2) (.cons (q1.now.grow s2) q2)
def mkT (xs : List D) : R D := if xs.length ≤ sizeLine then .ok (.tup xs) else .fail
def mkL (xs : List D) : R D := if xs.length ≤ sizeLine then .ok (.lst xs) else .fail
def eT (g : FA) : FE := fun S => g S >>= mkT
def eL (g : FA) : FE := fun S => g S >>= mkL
theorem d_tup {es : List Expr} {ga : FA} {x1} (h : PA' X c false es ga) : PE' X c .st (.Tuple es x1 pos) (eT ga) :=
  peI (pe_tup h) fun σ H Q ⟨G, S, rel, p⟩ => by
    refine rdA_go (g := mkT) (Post := PostE c .st G S σ H Q) rel p (fun _ z => z) (fun z => z) fun ds vs G1 H1 s1 q1 p1 => ?_
    have q1 : RDs c.k G1 ds vs := q1
    by_cases hl : ds.length ≤ sizeLine
    · unfold mkT at p1; rw [if_pos hl] at p1
      exact ⟨by rw [← q1.length]; exact hl, fun p hp => p1 _ _ _ (s1.trans (Step.new s1.gh hp)) (.tup (SqU.of upd_same) (q1.mono (Ex.new (s1.gh.free hp))))⟩
    · unfold mkT at p1; rw [if_neg hl] at p1; exact p1.elim
theorem d_lst {es : List Expr} {ga : FA} (h : PA' X c false es ga) : PE' X c .fr (.List es pos) (eL ga) :=
  peI (pe_lst h) fun σ H Q ⟨G, S, rel, p⟩ => by
    refine rdA_go (g := mkL) (Post := PostE c .fr G S σ H Q) rel p (fun _ z => z) (fun z => z) fun ds vs G1 H1 s1 q1 p1 => ?_
    have q1 : RDs c.k G1 ds vs := q1
    by_cases hl : ds.length ≤ sizeLine
    · unfold mkL at p1; rw [if_pos hl] at p1
      exact ⟨by rw [← q1.length]; exact hl, fun p hp => p1 _ _ _ (s1.trans (Step.new' s1.gh hp)) ⟨p, _, rfl, s1.gh.free hp, s1.h.free hp, upd_same, .lst q1⟩⟩
    · unfold mkL at p1; rw [if_neg hl] at p1; exact p1.elim
def ClR (X : Cx) (k : Kn) (f : Value) (kd : Kd) (g : List D → R D) : Prop :=
  ∃ r : List V → Hp → VK → Prop, CallR X f r ∧ ∀ G H ds vs d, Ex G H → Nows k G H ds vs → g ds = .ok d → ∀ Q : VK, (∀ w G' H', Step G H G' H' → Res k H G' H' d w kd → Q w H') → r vs H Q
def eC (o : List D → R D) (g : FA) : FE := fun S => do
  let xs ← g S
  (o xs).nox
theorem eC_go {ba : Bool} {ga : FA} {o : List D → R D} {σ : St} {H : Hp} {Q : VK} {r : List V → Hp → VK → Prop} (hr : ∀ G H ds vs d, Ex G H → Nows c.k G H ds vs → o ds = .ok d → ∀ Q : VK, (∀ w G' H', Step G H G' H' → Res c.k H G' H' d w kd → Q w H') → r vs H Q)
    (q : RdE c kd (eC o ga) σ H Q) : RdA c ba ga σ H fun x H1 => r x H1 Q := by
  obtain ⟨G, S, rel, p⟩ := q
  refine rdA_go (g := fun x => (o x).nox) (Post := PostE c kd G S σ H Q) rel p (fun _ z => z) (fun z => z) fun d1 v1 G1 H1 s1 q1 p1 => ?_
  cases e : o d1 with
  | ok d =>
    rw [e] at p1
    exact hr G1 H1 d1 v1 d s1.gh q1.nows e Q fun w G3 H3 s3 q3 => p1 w G3 H3 (s1.trans s3) (q3.mono s1.h)
  | exc x => rw [e] at p1; exact p1.elim
  | fail => rw [e] at p1; exact p1.elim
theorem d_bltn {ba : Bool} {x : Str} {p : Pos} {e : Expr} {es : List Expr} {ga : FA} {id : String} {o : List D → R D} (ho : ClR X c.k (.builtin id) kd o) (hm : X.mg x = none) (ha : PA' X c ba (e :: es) ga) (hv : bootBuiltins x = some (.builtin id) := by decide +kernel) (hg : Gl X x := by rfl)
    (hn : x ≠ "__name__" := by decide) (hdb : (x == ("__debug__" : Str)) = false := by decide)
    (hs : starEach (e :: es) X.env = (false, eval e X.env) :: starEach es X.env := by rfl) (hs2 : ((backTo pos (starEach es X.env)).any fun x => x.1) = false := by rfl) :
    PE' X c kd (.Call (.Name x p) (e :: es) [] pos) (eC o ga) := by
  obtain ⟨r, h1, h2⟩ := ho
  exact peI (pe_callB h1 hg hm hv ha hn hdb hs hs2) fun σ H Q q => eC_go h2 q
theorem d_btyp {ba : Bool} {x : Str} {p : Pos} {e : Expr} {es : List Expr} {ga : FA} {id : String} {o : List D → R D} (ho : ClR X c.k (.type id) kd o) (hm : X.mg x = none) (ha : PA' X c ba (e :: es) ga) (hv : bootBuiltins x = some (.type id) := by decide +kernel) (hg : Gl X x := by rfl)
    (hn : x ≠ "__name__" := by decide) (hdb : (x == ("__debug__" : Str)) = false := by decide)
    (hs : starEach (e :: es) X.env = (false, eval e X.env) :: starEach es X.env := by rfl) (hs2 : ((backTo pos (starEach es X.env)).any fun x => x.1) = false := by rfl) :
    PE' X c kd (.Call (.Name x p) (e :: es) [] pos) (eC o ga) := by
  obtain ⟨r, h1, h2⟩ := ho
  exact peI (pe_callTy h1 hg hm hv ha hn hdb hs hs2) fun σ H Q q => eC_go h2 q
end
end M
set_option Elab.async false
set_option linter.all false
set_option maxRecDepth 100000
set_option maxHeartbeats 4000000
namespace M
open PySem L2
mutual
def D.toP : D → PyData
  | .bl b => .bool b
  | .int i => .int i
  | .str x => .str x
  | .tup xs => .tuple (D.toPs xs)
  | .lst xs => .list (D.toPs xs)
  | _ => .none
def D.toPs : List D → List PyData
  | [] => []
  | x :: xs => x.toP :: D.toPs xs
end
mutual
def deq : D → D → Bool
  | .non, .non => true
  | .bl a, .bl b => a == b
  | .bl a, .int j => (if a then 1 else 0) == j
  | .int i, .bl b => i == (if b then 1 else 0)
  | .int i, .int j => i == j
  | .str x, .str y => x == y
  | .lst xs, .lst ys => deqs xs ys
  | .tup xs, .tup ys => deqs xs ys
  | _, _ => false
def deqs : List D → List D → Bool
  | [], [] => true
  | x :: xs, y :: ys => deq x y && deqs xs ys
  | _, _ => false
end
mutual
def dok : Nat → D → Bool
  | _, .non => true
  | _, .bl _ => true
  | _, .int _ => true
  | _, .str x => PyData.strOk x
  | n + 1, .tup xs => doks n xs
  | n + 1, .lst xs => doks n xs
  | _, _ => false
def doks : Nat → List D → Bool
  | _, [] => true
  | n, x :: xs => dok n x && doks n xs
end
mutual
theorem dok_lay : ∀ (n : Nat) (d : D), dok n d = true → PyData.canLay0 d.toP = true ∧ PyData.depth d.toP ≤ n
  | n, .non, _ => by simp [D.toP, PyData.canLay0, PyData.depth]
  | n, .bl _, _ => by simp [D.toP, PyData.canLay0, PyData.depth]
  | n, .int _, _ => by simp [D.toP, PyData.canLay0, PyData.depth]
  | n, .str x, h => by
    cases n <;> (simp only [dok] at h; simp [D.toP, PyData.canLay0, PyData.depth, h])
  | n + 1, .tup xs, h => by
    simp only [dok] at h
    have := doks_lay n xs h
    simp only [D.toP, PyData.canLay0, PyData.depth]
    exact ⟨this.1, by omega⟩
  | n + 1, .lst xs, h => by
    simp only [dok] at h
    have := doks_lay n xs h
    simp only [D.toP, PyData.canLay0, PyData.depth]
    exact ⟨this.1, by omega⟩
  | 0, .tup xs, h => by simp [dok] at h
  | 0, .lst xs, h => by simp [dok] at h
  | n, .ty _, h => by cases n <;> simp [dok] at h
  | n, .dic _ _, h => by cases n <;> simp [dok] at h
  | n, .dit _ _, h => by cases n <;> simp [dok] at h
  | n, .dkf _ _, h => by cases n <;> simp [dok] at h
  | n, .dig _ _, h => by cases n <;> simp [dok] at h
  | n, .dgf _ _, h => by cases n <;> simp [dok] at h
  | n, .obj _ _, h => by cases n <;> simp [dok] at h
  | n, .scr _, h => by cases n <;> simp [dok] at h
  | n, .cls _, h => by cases n <;> simp [dok] at h
theorem doks_lay : ∀ (n : Nat) (ds : List D), doks n ds = true → PyData.canLayAll0 (D.toPs ds) = true ∧ PyData.depthAll (D.toPs ds) ≤ n
  | n, [], _ => by simp [D.toPs, PyData.canLayAll0, PyData.depthAll]
  | n, x :: xs, h => by
    simp only [doks, Bool.and_eq_true] at h
    have a := dok_lay n x h.1
    have b := doks_lay n xs h.2
    simp only [D.toPs, PyData.canLayAll0, PyData.depthAll, Bool.and_eq_true]
    exact ⟨⟨a.1, b.1⟩, by omega⟩
end
mutual
theorem deq_eqv : ∀ (n m : Nat) (x y : D), dok n x = true → dok m y = true → PyData.eqv x.toP y.toP = deq x y
  | n, m, .non, y, _, h => by cases y <;> first | (simp [D.toP, PyData.eqv, deq]; done) | (cases m <;> simp [dok] at h)
  | n, m, .bl _, y, _, h => by cases y <;> first | (simp [D.toP, PyData.eqv, deq]; done) | (cases m <;> simp [dok] at h)
  | n, m, .int _, y, _, h => by cases y <;> first | (simp [D.toP, PyData.eqv, deq]; done) | (cases m <;> simp [dok] at h)
  | n, m, .str _, y, _, h => by cases y <;> first | (simp [D.toP, PyData.eqv, deq]; done) | (cases m <;> simp [dok] at h)
  | n + 1, m, .tup xs, y, h1, h => by
    cases y with
    | tup ys =>
      cases m with
      | zero => simp [dok] at h
      | succ m =>
        simp only [dok] at h h1
        simp only [D.toP, PyData.eqv, deq]
        exact deqs_eqv n m xs ys h1 h
    | _ => first | (simp [D.toP, PyData.eqv, deq]; done) | (cases m <;> simp [dok] at h)
  | n + 1, m, .lst xs, y, h1, h => by
    cases y with
    | lst ys =>
      cases m with
      | zero => simp [dok] at h
      | succ m =>
        simp only [dok] at h h1
        simp only [D.toP, PyData.eqv, deq]
        exact deqs_eqv n m xs ys h1 h
    | _ => first | (simp [D.toP, PyData.eqv, deq]; done) | (cases m <;> simp [dok] at h)
  | 0, _, .tup xs, _, h, _ => by simp [dok] at h
  | 0, _, .lst xs, _, h, _ => by simp [dok] at h
  | n, _, .ty _, _, h, _ => by cases n <;> simp [dok] at h
  | n, _, .dic _ _, _, h, _ => by cases n <;> simp [dok] at h
  | n, _, .dit _ _, _, h, _ => by cases n <;> simp [dok] at h
  | n, _, .dkf _ _, _, h, _ => by cases n <;> simp [dok] at h
  | n, _, .dig _ _, _, h, _ => by cases n <;> simp [dok] at h
  | n, _, .dgf _ _, _, h, _ => by cases n <;> simp [dok] at h
  | n, _, .obj _ _, _, h, _ => by cases n <;> simp [dok] at h
  | n, _, .scr _, _, h, _ => by cases n <;> simp [dok] at h
  | n, _, .cls _, _, h, _ => by cases n <;> simp [dok] at h
theorem deqs_eqv : ∀ (n m : Nat) (xs ys : List D), doks n xs = true → doks m ys = true → PyData.eqvAll (D.toPs xs) (D.toPs ys) = deqs xs ys
  | n, m, [], [], _, _ => by simp [D.toPs, PyData.eqvAll, deqs]
  | n, m, [], _ :: _, _, _ => by simp [D.toPs, PyData.eqvAll, deqs]
  | n, m, _ :: _, [], _, _ => by simp [D.toPs, PyData.eqvAll, deqs]
  | n, m, x :: xs, y :: ys, h1, h2 => by
    simp only [doks, Bool.and_eq_true] at h1 h2
    simp only [D.toPs, PyData.eqvAll, deqs]
    rw [deq_eqv n m x y h1.1 h2.1, deqs_eqv n m xs ys h1.2 h2.2]
end
mutual
theorem RD.dp {k : Kn} {H : Hp} : ∀ {d : D} {v : V} (n : Nat), RD k H d v → dok n d = true → Dp k.K H v d.toP
  | _, _, _, .non, _ => by simp only [D.toP]; exact .non
  | _, _, _, .bl b, _ => by simp only [D.toP]; exact .bl b
  | _, _, _, .int b, _ => by simp only [D.toP]; exact .int b
  | _, _, _, .str b, _ => by simp only [D.toP]; exact .str b
  | _, _, n, .tup h r, e => by
    cases n with
    | zero => simp [dok] at e
    | succ n => simp only [dok] at e; simp only [D.toP]; exact .tup h.t (RDs.dp n r e)
  | _, _, n, .lst h r, e => by
    cases n with
    | zero => simp [dok] at e
    | succ n => simp only [dok] at e; simp only [D.toP]; exact .lst (SqL.of h) (RDs.dp n r e)
  | _, _, n, .ty _, e => by cases n <;> simp [dok] at e
  | _, _, n, .scr _, e => by cases n <;> simp [dok] at e
  | _, _, n, .cls _, e => by cases n <;> simp [dok] at e
  | _, _, n, .dic _ _ _, e => by cases n <;> simp [dok] at e
  | _, _, n, .dit _ _ _, e => by cases n <;> simp [dok] at e
  | _, _, n, .dkf _ _ _, e => by cases n <;> simp [dok] at e
  | _, _, n, .dig _ _ _ _, e => by cases n <;> simp [dok] at e
  | _, _, n, .dgf _ _ _ _, e => by cases n <;> simp [dok] at e
  | _, _, n, .obj _ _ _, e => by cases n <;> simp [dok] at e
theorem RDs.dp {k : Kn} {H : Hp} : ∀ {ds : List D} {vs : List V} (n : Nat), RDs k H ds vs → doks n ds = true → DpAll k.K H vs (D.toPs ds)
  | _, _, _, .nil, _ => by simp only [D.toPs]; exact .nil
  | _, _, n, .cons a b, e => by
    simp only [doks, Bool.and_eq_true] at e
    simp only [D.toPs]
    exact .cons (RD.dp n a e.1) (RDs.dp n b e.2)
end
theorem dok_shaped {d : D} (h : dok 60 d = true) : SeqAt.shaped d.toP = true := by
  have := dok_lay 60 d h
  unfold SeqAt.shaped
  simp only [this.1, Bool.true_and, decide_eq_true_eq]
  omega
def eqD (a b : D) : R D := if dok 60 a && dok 60 b then .ok (.bl (deq a b)) else .fail
def neD (a b : D) : R D := if dok 60 a && dok 60 b then .ok (.bl (!deq a b)) else .fail
section
variable {X : Cx} {k : Kn}
theorem o_eq (hk : k.K = X.K) (hu : X.A.units + 64 < cLine) : Op2 X k (compareOp .Eq) .st eqD := by
  refine ⟨_, op_eqD hu, ?_⟩
  intro G H x y u v d e nx ny hg Q q
  unfold eqD at hg
  split at hg
  · rename_i h
    simp only [Bool.and_eq_true] at h
    cases hg
    refine ⟨x.toP, y.toP, hk ▸ (nx.rd e).dp 60 h.1, hk ▸ (ny.rd e).dp 60 h.2, dok_shaped h.1, dok_shaped h.2, ?_⟩
    rw [deq_eqv 60 60 x y h.1 h.2]
    exact q _ G H (Step.refl e) (.bl _)
  · cases hg
theorem o_ne (hk : k.K = X.K) (hu : X.A.units + 64 < cLine) : Op2 X k (compareOp .NotEq) .st neD := by
  refine ⟨_, op_neD hu, ?_⟩
  intro G H x y u v d e nx ny hg Q q
  unfold neD at hg
  split at hg
  · rename_i h
    simp only [Bool.and_eq_true] at h
    cases hg
    refine ⟨x.toP, y.toP, hk ▸ (nx.rd e).dp 60 h.1, hk ▸ (ny.rd e).dp 60 h.2, dok_shaped h.1, dok_shaped h.2, ?_⟩
    rw [deq_eqv 60 60 x y h.1 h.2]
    exact q _ G H (Step.refl e) (.bl _)
  · cases hg
def addD : D → D → R D
  | .int i, .int j => .ok (.int (i + j))
  | .str x, .str y => if x.length + y.length ≤ sizeLine then .ok (.str (x ++ y)) else .fail
  | .lst xs, .lst ys => if xs.length + ys.length ≤ sizeLine then .ok (.lst (xs ++ ys)) else .fail
  | .tup xs, .tup ys => if xs.length + ys.length ≤ sizeLine then .ok (.tup (xs ++ ys)) else .fail
  | _, _ => .fail
theorem o_add (hk : k.K = X.K) : Op2 X k (binaryOp .Add) .st addD := by
  refine ⟨_, op_add.or (op_add_str.or (op_cat.or op_catA)), ?_⟩
  intro G H x y u v d e nx ny hg Q q
  unfold addD at hg
  split at hg
  · cases hg; obtain rfl := nx.int; obtain rfl := ny.int
    exact .inl ⟨_, _, rfl, rfl, q _ G H (Step.refl e) (.int _)⟩
  · split at hg
    · rename_i hl
      cases hg; obtain rfl := nx.str; obtain rfl := ny.str
      exact .inr (.inl ⟨_, _, rfl, rfl, hl, q _ G H (Step.refl e) (.str _)⟩)
    · cases hg
  · split at hg
    · rename_i hl
      cases hg
      obtain ⟨a, vs, rfl, ha, ra⟩ := nx.lst e
      obtain ⟨b, us, rfl, hb, rb⟩ := ny.lst e
      exact .inr (.inr (.inl ⟨a, b, vs, us, rfl, rfl, ha, hb, by rw [← ra.length, ← rb.length]; exact hl, fun p hp => q _ _ _ (Step.new e hp) (.lst upd_same ((ra.append rb).mono (Ex.new (e.free hp))))⟩))
    · cases hg
  · split at hg
    · rename_i hl
      cases hg
      obtain ⟨a, vs, rfl, ha, ra⟩ := nx.tup
      obtain ⟨b, us, rfl, hb, rb⟩ := ny.tup
      refine .inr (.inr (.inr ⟨a, b, vs, us, rfl, rfl, hk ▸ e.sqT ha.t, hk ▸ e.sqT hb.t, by rw [← ra.length, ← rb.length]; exact hl, fun z => ?_, fun z1 z2 => ?_, fun _ _ p hp => q _ _ _ (Step.new e hp) (.tup (SqU.of upd_same) ((ra.append rb).mono (Ex.new (e.free hp))))⟩))
      · subst z; cases ra; exact q _ _ _ (Step.refl e) (.tup hb rb)
      · subst z2; cases rb; rw [List.append_nil] at q; exact q _ _ _ (Step.refl e) (.tup ha ra)
    · cases hg
  · cases hg
theorem o_int {f : Value → Value → Sem Value} {C : Int → Int → Prop} [∀ i j, Decidable (C i j)] {gv : Int → Int → V} {gd : Int → Int → D} (h : OpR X f (rI C gv)) (r : ∀ i j G, RD k G (gd i j) (gv i j)) :
    Op2 X k f .st (fun x y => match x, y with | .int i, .int j => if C i j then .ok (gd i j) else .fail | _, _ => .fail) := by
  refine ⟨_, h, ?_⟩
  intro G H x y u v d e nx ny hg Q q
  dsimp only at hg
  split at hg
  · split at hg
    · rename_i hc
      cases hg; obtain rfl := nx.int; obtain rfl := ny.int
      exact ⟨_, _, rfl, rfl, hc, q _ G H (Step.refl e) (r _ _ _)⟩
    · cases hg
  · cases hg
theorem o_int0 {f : Value → Value → Sem Value} {gv : Int → Int → V} {gd : Int → Int → D} (h : OpR X f (rI0 gv)) (r : ∀ i j G, RD k G (gd i j) (gv i j)) :
    Op2 X k f .st (fun x y => match x, y with | .int i, .int j => .ok (gd i j) | _, _ => .fail) := by
  refine ⟨_, h, ?_⟩
  intro G H x y u v d e nx ny hg Q q
  dsimp only at hg
  split at hg
  · cases hg; obtain rfl := nx.int; obtain rfl := ny.int
    exact ⟨_, _, rfl, rfl, q _ G H (Step.refl e) (r _ _ _)⟩
  · cases hg
def subD : D → D → R D := fun x y => match x, y with | .int i, .int j => .ok (.int (i - j)) | _, _ => .fail
theorem o_sub : Op2 X k (binaryOp .Sub) .st subD := o_int0 op_sub fun _ _ _ => .int _
instance (i j : Int) : Decidable (CMul i j) := by unfold CMul; exact inferInstance
instance (i j : Int) : Decidable (CMulX i j) := by unfold CMulX; exact inferInstance
instance (i j : Int) : Decidable (CDiv i j) := by unfold CDiv; exact inferInstance
instance (i j : Int) : Decidable (CPow i j) := by unfold CPow; exact inferInstance
def fdivD : D → D → R D := fun x y => match x, y with | .int i, .int j => if CDiv i j then .ok (.int (i / j)) else .fail | _, _ => .fail
theorem o_fdiv : Op2 X k (binaryOp .FloorDiv) .st fdivD := o_int op_fdiv fun _ _ _ => .int _
def modD : D → D → R D := fun x y => match x, y with | .int i, .int j => if 0 < j then .ok (.int (i % j)) else .fail | _, _ => .fail
theorem o_mod : Op2 X k (binaryOp .Mod) .st modD := o_int (C := fun _ j => 0 < j) op_mod fun _ _ _ => .int _
def powD : D → D → R D := fun x y => match x, y with | .int i, .int j => if CPow i j then .ok (.int (i ^ j.toNat)) else .fail | _, _ => .fail
theorem o_pow : Op2 X k (binaryOp .Pow) .st powD := o_int op_pow fun _ _ _ => .int _
def mulD : D → D → R D
  | .int i, .int j => if CMul i j ∨ CMulX i j then .ok (.int (i * j)) else .fail
  | .lst xs, .int j => if -(2 ^ 63) ≤ j ∧ j < 2 ^ 63 ∧ xs.length * j.toNat ≤ sizeLine then .ok (.lst (List.replicate j.toNat xs).flatten) else .fail
  | .tup xs, .int j => if xs ≠ [] ∧ 2 ≤ j ∧ j ≤ 1000 ∧ xs.length ≤ 1000 then .ok (.tup (List.replicate j.toNat xs).flatten) else .fail
  | _, _ => .fail
theorem RDs.rep {G : Hp} {ds : List D} {vs : List V} (r : RDs k G ds vs) : ∀ n : Nat, RDs k G (List.replicate n ds).flatten (List.replicate n vs).flatten
  | 0 => by simpa using .nil
  | n + 1 => by rw [List.replicate_succ, List.replicate_succ, List.flatten_cons, List.flatten_cons]; exact r.append (RDs.rep r n)
theorem o_mul (hk : k.K = X.K) : Op2 X k (binaryOp .Mult) .st mulD := by
  refine ⟨_, (op_mul.or op_mulX).or (op_rep.or op_repT), ?_⟩
  intro G H x y u v d e nx ny hg Q q
  unfold mulD at hg
  split at hg
  · split at hg
    · rename_i hc
      cases hg; obtain rfl := nx.int; obtain rfl := ny.int
      rcases hc with hc | hc
      · exact .inl (.inl ⟨_, _, rfl, rfl, hc, q _ G H (Step.refl e) (.int _)⟩)
      · exact .inl (.inr ⟨_, _, rfl, rfl, hc, q _ G H (Step.refl e) (.int _)⟩)
    · cases hg
  · split at hg
    · rename_i hc
      cases hg; obtain rfl := ny.int
      obtain ⟨a, vs, rfl, ha, ra⟩ := nx.lst e
      exact .inr (.inl ⟨a, _, vs, rfl, rfl, ha, hc.1, hc.2.1, by rw [← ra.length]; exact hc.2.2, fun p hp => q _ _ _ (Step.new e hp) (.lst upd_same ((ra.rep _).mono (Ex.new (e.free hp))))⟩)
    · cases hg
  · split at hg
    · rename_i hc
      cases hg; obtain rfl := ny.int
      obtain ⟨a, vs, rfl, ha, ra⟩ := nx.tup
      exact .inr (.inr ⟨a, _, vs, rfl, rfl, hk ▸ e.sqT ha.t, fun z => hc.1 (by subst z; cases ra; rfl), hc.2.1, hc.2.2.1, by rw [← ra.length]; exact hc.2.2.2, fun p hp => q _ _ _ (Step.new e hp) (.tup (SqU.of upd_same) ((ra.rep _).mono (Ex.new (e.free hp))))⟩)
    · cases hg
  · cases hg
def ltD : D → D → R D := fun x y => match x, y with | .int i, .int j => .ok (.bl (decide (i < j))) | _, _ => .fail
theorem o_lt : Op2 X k (compareOp .Lt) .st ltD := o_int0 op_lt fun _ _ _ => .bl _
def leD : D → D → R D := fun x y => match x, y with | .int i, .int j => .ok (.bl (decide (i ≤ j))) | _, _ => .fail
theorem o_le : Op2 X k (compareOp .LtE) .st leD := o_int0 op_le fun _ _ _ => .bl _
def gtD : D → D → R D := fun x y => match x, y with | .int i, .int j => .ok (.bl (decide (j < i))) | _, _ => .fail
theorem o_gt : Op2 X k (compareOp .Gt) .st gtD := o_int0 op_gt fun _ _ _ => .bl _
def geD : D → D → R D := fun x y => match x, y with | .int i, .int j => .ok (.bl (decide (j ≤ i))) | _, _ => .fail
theorem o_ge : Op2 X k (compareOp .GtE) .st geD := o_int0 op_ge fun _ _ _ => .bl _
def negD : D → R D := fun x => match x with | .int i => .ok (.int (-i)) | _ => .fail
theorem o_neg : Un1 X k (unaryOp .USub) negD := by
  refine ⟨_, un_neg, ?_⟩
  intro G H x u d e nx hg Q q
  unfold negD at hg
  split at hg
  · cases hg; obtain rfl := nx.int
    exact ⟨_, rfl, q _ G H (Step.refl e) (.int _)⟩
  · cases hg
theorem RDs.atI {G : Hp} {ds : List D} {vs : List V} {i : Int} {d : D} (r : RDs k G ds vs) (h : L2.atI ds i = some d) : ∃ v, L2.atI vs i = some v ∧ RD k G d v := by
  unfold L2.atI at h ⊢
  rw [← r.length]
  cases e : ixN ds.length i with
  | none => rw [e] at h; cases h
  | some j => rw [e] at h; exact r.get h
def ixD : D → D → R D
  | .lst xs, .int i => match L2.atI xs i with | some d => .ok d | none => .fail
  | .tup xs, .int i => match L2.atI xs i with | some d => .ok d | none => .fail
  | .scr ns, .int i => match L2.atI ns i with | some d => .ok (.int d) | none => .fail
  | .str x, .int i => if x.length ≤ sizeLine then match L2.atI x.cps.toList i with | some c => .ok (.str ⟨#[c]⟩) | none => .fail else .fail
  | _, _ => .fail
theorem IxR.or {r r' : R2} (h : IxR X r) (h' : IxR X r') : IxR X (fun x y H Q => r x y H Q ∨ r' x y H Q) := fun v sl pins s σ H x y u w Q I rx ry q hs => by
  rcases q with q | q
  · exact h v sl pins s σ H x y u w Q I rx ry q hs
  · exact h' v sl pins s σ H x y u w Q I rx ry q hs
theorem atI_map {α β : Type} (f : α → β) (xs : List α) (i : Int) : L2.atI (xs.map f) i = (L2.atI xs i).map f := by
  unfold L2.atI
  rw [List.length_map]
  cases ixN xs.length i with
  | none => rfl
  | some j => simp
theorem o_ix (hk : k.K = X.K) : Ix2 X k ixD := by
  refine ⟨_, IxR.or ix_list (IxR.or ix_tup ix_str), ?_⟩
  intro G H x y u v d e nx ny hg Q q
  unfold ixD at hg
  split at hg
  · split at hg
    · rename_i d' hd
      cases hg; obtain rfl := ny.int
      obtain ⟨a, vs, rfl, ha, ra⟩ := nx.lst e
      obtain ⟨w, h1, h2⟩ := ra.atI hd
      exact .inl ⟨a, vs, _, w, rfl, rfl, SqL.of ha, h1, q _ G H (Step.refl e) h2⟩
    · cases hg
  · split at hg
    · rename_i d' hd
      cases hg; obtain rfl := ny.int
      obtain ⟨a, vs, rfl, ha, ra⟩ := nx.tup
      obtain ⟨w, h1, h2⟩ := ra.atI hd
      exact .inr (.inl ⟨a, vs, _, w, rfl, rfl, hk ▸ e.sqT ha.t, h1, q _ G H (Step.refl e) h2⟩)
    · cases hg
  · split at hg
    · rename_i d' hd
      cases hg; obtain rfl := ny.int
      obtain ⟨a, rfl, ha⟩ := nx.scr
      exact .inl ⟨a, _, _, .int d', rfl, rfl, hk ▸ e.sqL ha, by rw [atI_map, hd]; rfl, q _ G H (Step.refl e) (.int _)⟩
    · cases hg
  · split at hg
    · rename_i hl
      split at hg
      · rename_i d' hd
        cases hg; obtain rfl := ny.int; obtain rfl := nx.str
        exact .inr (.inr ⟨_, _, d', rfl, rfl, hl, hd, q _ G H (Step.refl e) (.str _)⟩)
      · cases hg
    · cases hg
  · cases hg
end
end M
set_option Elab.async false
set_option linter.all false
set_option maxRecDepth 100000
set_option maxHeartbeats 4000000
namespace M
open PySem L2
section
variable {X : Cx} {c : Cf} {kd k1 k2 k3 : Kd} {a b e : Expr} {f g h : FE} {pos : Pos}
def toB : D → R Bool
  | .bl b => .ok b
  | _ => .fail
def tB' (f : FE) : FT := fun S => f S >>= toB
def truD : D → R Bool
  | .non => .ok false
  | .bl b => .ok b
  | .int i => .ok (i != 0)
  | .str x => if x.length ≤ sizeLine then .ok (x.length != 0) else .fail
  | .tup xs => .ok (!xs.isEmpty)
  | .lst xs => .ok (!xs.isEmpty)
  | .dic ks _ => .ok (!ks.isEmpty)
  | _ => .fail
def tT' (f : FE) : FT := fun S => f S >>= truD
theorem Now.toB {k : Kn} {G H : Hp} {d : D} {v : V} {b : Bool} (n : Now k G H d v) (h : toB d = .ok b) : v = .bl b := by
  cases d <;> simp only [M.toB] at h <;> first | (cases h; done) | (cases h; exact n.bl)
theorem Nows.isEmpty {k : Kn} {G : Hp} {ds : List D} {vs : List V} (r : RDs k G ds vs) : (!ds.isEmpty) = !vs.isEmpty := by
  cases r <;> rfl
theorem Now.tru {k : Kn} {G H : Hp} {d : D} {v : V} {b : Bool} (e : Ex G H) (n : Now k G H d v) (h : truD d = .ok b) : TruV k.K v H b := by
  unfold truD at h
  split at h
  · cases h; obtain rfl := n.non; rfl
  · cases h; obtain rfl := n.bl; rfl
  · cases h; obtain rfl := n.int; rfl
  · split at h
    · rename_i hl
      cases h; obtain rfl := n.str
      exact ⟨hl, by simp [bne, BEq.beq]⟩
    · cases h
  · cases h; obtain ⟨p, vs, rfl, hp, r⟩ := n.tup
    exact .inr (.inl ⟨vs, e.sqT hp.t, Nows.isEmpty r⟩)
  · cases h; obtain ⟨p, vs, rfl, hp, r⟩ := n.lst e
    exact .inl ⟨vs, SqL.of hp, Nows.isEmpty r⟩
  · cases h; obtain ⟨p, vs, rfl, hp, l, r⟩ := n.dic e
    refine .inr (.inr ⟨_, hp, ?_⟩)
    have l2 := r.length
    rename_i ks ds
    cases ks with
    | nil => rfl
    | cons x xs =>
      cases vs with
      | nil => simp at l2; subst l2; simp at l
      | cons y ys => rfl
  · cases h
theorem d_tt {kd : Kd} (hk : c.k.K = X.K) (ha : PE' X c kd a f) (he : ∀ whole, isTrue a X.env whole = (do let v ← whole; standAt a.pos; holding [v] (truthy v)) := by intro _; rfl) : PT' X c a (tT' f) :=
  ptI (pt_truth ha he) fun σ H Q ⟨G, S, rel, p⟩ => by
    refine rdE_go (g := truD) (Post := PostT c G S σ H Q) rel p (fun _ z => z) (fun z => z) fun d v G' H' s q p1 => ?_
    cases e1 : truD d with
    | ok b => rw [e1] at p1; exact ⟨b, hk ▸ q.now.tru s.gh e1, p1 G' H' s⟩
    | exc x => cases d <;> simp only [truD] at e1 <;> first | (cases e1; done) | (split at e1 <;> cases e1)
    | fail => rw [e1] at p1; exact p1.elim
theorem tB_go {t : TE} {σ : St} {H : Hp} {Q : Bool → Hp → Prop} (ht : ∀ σ H Q, RdE c .st f σ H Q → t σ H Q) (q : RdT c (tB' f) σ H Q) : t σ H fun x H' => ∃ k, x = .bl k ∧ Q k H' := by
  obtain ⟨G, S, rel, p⟩ := q
  refine ht σ H _ (rdE_go (g := toB) (Post := PostT c G S σ H Q) rel p (fun _ z => z) (fun z => z) fun d v G' H' s q p1 => ?_)
  cases e1 : toB d with
  | ok b => rw [e1] at p1; exact ⟨b, q.now.toB e1, p1 G' H' s⟩
  | exc x => cases d <;> simp only [toB] at e1 <;> cases e1
  | fail => rw [e1] at p1; exact p1.elim
theorem d_tc {op : CmpOp} {o : D → D → R D} (ho : Op2 X c.k (compareOp op) .st o) (ha : PE' X c k1 a f) (hb : PE' X c k2 b g) (hm : behindInMarks op b = false := by rfl) : PT' X c (.Compare a [op] [b] pos) (tB' (e2 o f g)) := by
  obtain ⟨r, h1, h2⟩ := ho
  exact ptI (pt_cmpR h1 ha hb hm) fun σ H Q q => tB_go (t := tOp r (RdE c k1 f) (RdE c k2 g)) (fun σ H Q q => e2_go h2 q) q
def e3 (o o' : D → D → R D) (f g h : FE) : FE := fun S => do
  let x ← f S
  let y ← g S
  let b ← (o x y).nox
  let b ← toB b
  if b then do
    let z ← h S
    (o' y z).nox
  else .ok (.bl false)
theorem e3_go {o o' : D → D → R D} {r r' : R2} {σ : St} {H : Hp} {Q : VK} (hr : ∀ G H x y u v d, Ex G H → Now c.k G H x u → Now c.k G H y v → o x y = .ok d → ∀ Q : VK, (∀ w G' H', Step G H G' H' → Res c.k H G' H' d w .st → Q w H') → r u v H Q)
    (hr' : ∀ G H x y u v d, Ex G H → Now c.k G H x u → Now c.k G H y v → o' x y = .ok d → ∀ Q : VK, (∀ w G' H', Step G H G' H' → Res c.k H G' H' d w .st → Q w H') → r' u v H Q)
    (q : RdE c .st (e3 o o' f g h) σ H Q) : tChain r r' (RdE c k1 f) (RdE c k2 g) (RdE c k3 h) σ H Q := by
  obtain ⟨G, S, rel, p⟩ := q
  refine rdE_go (g := fun x => do let y ← g S; let b ← (o x y).nox; let b ← toB b; if b then do { let z ← h S; (o' y z).nox } else .ok (.bl false)) (Post := PostE c .st G S σ H Q) rel p (fun _ z => z) (fun z => z) fun d1 v1 G1 H1 s1 q1 p1 => ?_
  refine rdE_go (g := fun y => do let b ← (o d1 y).nox; let b ← toB b; if b then do { let z ← h S; (o' y z).nox } else .ok (.bl false)) (Post := PostE c .st G S σ H Q) (rel.grow s1) p1 (fun _ z => z) (fun z => z) fun d2 v2 G2 H2 s2 q2 p2 => ?_
  cases eo : o d1 d2 with
  | exc x => rw [eo] at p2; exact p2.elim
  | fail => rw [eo] at p2; exact p2.elim
  | ok db =>
    rw [eo] at p2
    refine hr G2 H2 d1 d2 v1 v2 db s2.gh (q1.now.grow s2) q2.now eo _ fun w G3 H3 s3 q3 => ?_
    cases eb : toB db with
    | exc x => cases db <;> simp only [toB] at eb <;> cases eb
    | fail => simp only [R.nox_ok, R.ok_bind, eb, R.fail_bind] at p2; exact p2.elim
    | ok kb =>
      simp only [R.nox_ok, R.ok_bind, eb] at p2
      refine ⟨kb, (Res.now (kd := .st) q3).toB eb, ?_⟩
      cases kb with
      | false =>
        rw [if_neg Bool.false_ne_true] at p2 ⊢
        exact p2 _ G3 H3 ((s1.trans s2).trans s3) (.bl _)
      | true =>
        rw [if_pos rfl] at p2 ⊢
        refine rdE_go (g := fun z => (o' d2 z).nox) (Post := PostE c .st G S σ H Q) (((rel.grow s1).grow s2).grow s3) p2 (fun _ z => z) (fun z => z) fun d4 v4 G4 H4 s4 q4 p4 => ?_
        cases eo' : o' d2 d4 with
        | exc x => rw [eo'] at p4; exact p4.elim
        | fail => rw [eo'] at p4; exact p4.elim
        | ok dr =>
          rw [eo'] at p4
          exact hr' G4 H4 d2 d4 v2 v4 dr s4.gh (q2.now.grow (s3.trans s4)) q4.now eo' Q fun w' G5 H5 s5 q5 => p4 w' G5 H5 ((((s1.trans s2).trans s3).trans s4).trans s5) q5
theorem d_ch {op op' : CmpOp} {cc : Expr} {o o' : D → D → R D} (ho : Op2 X c.k (compareOp op) .st o) (ho' : Op2 X c.k (compareOp op') .st o') (ha : PE' X c k1 a f) (hb : PE' X c k2 b g) (hc : PE' X c k3 cc h)
    (hm : lastMarks [op, op'] [b, cc] = false := by with_unfolding_all rfl) : PE' X c .st (.Compare a [op, op'] [b, cc] pos) (e3 o o' f g h) := by
  obtain ⟨r, h1, h2⟩ := ho
  obtain ⟨r', h1', h2'⟩ := ho'
  exact peI (pe_chain h1 h1' ha hb hc hm) fun σ H Q q => e3_go h2 h2' q
theorem d_tch {op op' : CmpOp} {cc : Expr} {o o' : D → D → R D} (ho : Op2 X c.k (compareOp op) .st o) (ho' : Op2 X c.k (compareOp op') .st o') (ha : PE' X c k1 a f) (hb : PE' X c k2 b g) (hc : PE' X c k3 cc h)
    (hm : lastMarks [op, op'] [b, cc] = false := by with_unfolding_all rfl) : PT' X c (.Compare a [op, op'] [b, cc] pos) (tB' (e3 o o' f g h)) := by
  obtain ⟨r, h1, h2⟩ := ho
  obtain ⟨r', h1', h2'⟩ := ho'
  exact ptI (pt_chain h1 h1' ha hb hc hm) fun σ H Q q => tB_go (t := tChain r r' (RdE c k1 f) (RdE c k2 g) (RdE c k3 h)) (fun σ H Q q => e3_go h2 h2' q) q
def tNo (t : FT) : FT := fun S => t S >>= fun b => .ok (!b)
def tA (t u : FT) : FT := fun S => t S >>= fun b => if b then u S else .ok false
def tO (t u : FT) : FT := fun S => t S >>= fun b => if b then .ok true else u S
variable {t u : FT}
theorem d_not (ha : PT' X c a t) : PT' X c (.UnaryOp .Not a pos) (tNo t) :=
  ptI (pt_not ha) fun σ H Q ⟨G, S, rel, p⟩ => rdT_go (g := fun b => .ok (!b)) (Post := PostT c G S σ H Q) rel p (fun _ z => z) (fun z => z) fun b G' H' s p1 => p1 G' H' s
abbrev PW' (X : Cx) (c : Cf) (e : Expr) (f : FT) : Prop := PW X e (RdT c f)
theorem PostT.grow {G H G' H' : Hp} {S : Env} {σ : St} {Q : Bool → Hp → Prop} {r : R Bool} (s : Step G H G' H') (p : PostT c G S σ H Q r) : PostT c G' S σ H' Q r := by
  cases r with
  | ok b => exact fun G2 H2 s2 => p G2 H2 (s.trans s2)
  | exc x => exact p
  | fail => exact p
theorem PostE.grow {G H G' H' : Hp} {S : Env} {σ : St} {Q : VK} {r : R D} (s : Step G H G' H') (p : PostE c kd G S σ H Q r) : PostE c kd G' S σ H' Q r := by
  cases r with
  | ok b => exact fun v G2 H2 s2 q => p v G2 H2 (s.trans s2) (q.mono s.h)
  | exc x => exact p
  | fail => exact p
theorem d_or1 (ha : PT' X c a t) : PW' X c (.BoolOp .Or [a] pos) t := pw_or1 ha
theorem d_or {rest : List Expr} (ha : PT' X c a t) (hb : PW' X c (.BoolOp .Or (b :: rest) pos) u) : PW' X c (.BoolOp .Or (a :: b :: rest) pos) (tO t u) :=
  pwI (pw_or ha hb) fun σ H Q ⟨G, S, rel, p⟩ => rdT_go (g := fun b => if b then .ok true else u S) (Post := PostT c G S σ H Q) rel p (fun _ z => z) (fun z => z) fun b G' H' s p1 => by
    cases b with
    | true => exact p1 G' H' s
    | false => exact ⟨G', S, rel.grow s, PostT.grow s p1⟩
theorem d_pw (h : PW' X c a t) : PT' X c a t := h.pt
def eAnd (f g : FE) : FE := fun S => f S >>= toB >>= fun b => if b then g S else .ok (.bl false)
def eOr (f g : FE) : FE := fun S => f S >>= toB >>= fun b => if b then .ok (.bl true) else g S
def eNot (f : FE) : FE := fun S => f S >>= toB >>= fun b => .ok (.bl (!b))
def eIf (t : FT) (f g : FE) : FE := fun S => t S >>= fun b => if b then f S else g S
theorem bind_toB {β : Type} (r : R D) (k : Bool → R β) : (r >>= toB >>= k) = r >>= fun d => toB d >>= k := by cases r <;> rfl
theorem d_vone {op} (h : PE' X c .st a f) : PE' X c .st (.BoolOp op [a] pos) f := pe_one h
theorem d_vand {rest : List Expr} (ha : PE' X c .st a f) (hb : PE' X c .st (.BoolOp .And (b :: rest) pos) g) : PE' X c .st (.BoolOp .And (a :: b :: rest) pos) (eAnd f g) :=
  peI (pe_and ha hb) fun σ H Q ⟨G, S, rel, p⟩ => by
    unfold eAnd at p
    rw [bind_toB] at p
    refine rdE_go (Post := PostE c .st G S σ H Q) rel p (fun _ z => z) (fun z => z) fun d v G' H' s q p1 => ?_
    cases d with
    | bl k =>
      refine ⟨k, (Res.now (kd := .st) q).bl, ?_⟩
      cases k with
      | true => exact ⟨G', S, rel.grow s, PostE.grow s p1⟩
      | false => exact p1 _ G' H' s (.bl _)
    | _ => exact p1.elim
theorem d_vnot (ha : PE' X c .st a f) : PE' X c .st (.UnaryOp .Not a pos) (eNot f) :=
  peI (pe_not ha) fun σ H Q ⟨G, S, rel, p⟩ => by
    unfold eNot at p
    rw [bind_toB] at p
    refine rdE_go (Post := PostE c .st G S σ H Q) rel p (fun _ z => z) (fun z => z) fun d v G' H' s q p1 => ?_
    cases d with
    | bl k => exact ⟨k, (Res.now (kd := .st) q).bl, p1 _ G' H' s (.bl _)⟩
    | _ => exact p1.elim
end
end M
set_option Elab.async false
set_option linter.all false
set_option maxRecDepth 100000
set_option maxHeartbeats 4000000
namespace M
open PySem L2
abbrev PS' (X : Cx) (c : Cf) (fr : Bool) (as : List Nat) (st : Stmt) (s : FS) : Prop := PS X st (RdS c fr as s)
abbrev PB' (X : Cx) (c : Cf) (fr : Bool) (as : List Nat) (st : List Stmt) (s : FS) : Prop := PSs X st (RdS c fr as s)
section
variable {X : Cx} {c : Cf} {kd k1 k2 k3 : Kd} {a b e : Expr} {f g h : FE} {t u : FT} {pos : Pos} {fr : Bool} {as bs : List Nat} {s r : FS} {st : Stmt} {sts : List Stmt}
theorem PostS.mv {G G' H H' : Hp} {S S' : Env} {σ σ' : St} {Dn : Ends} {q : R (Fl × Env)} (hg : Ex G G') (fm : Frm as S σ H S' σ' H') (hs : ∀ i, i ∈ as ++ bs → i ∈ as ∨ i ∈ bs) (p : PostS c fr (as ++ bs) G S σ H Dn q) : PostS c fr bs G' S' σ' H' Dn q := by
  cases q with
  | exc x => exact p
  | fail => exact p
  | ok z =>
    obtain ⟨fl, S2⟩ := z
    cases fl with
    | nx => exact fun G2 σ2 H2 e r2 f2 => p G2 σ2 H2 (hg.trans e) r2 (fm.trans f2)
    | bk => exact fun G2 σ2 H2 e r2 f2 => p G2 σ2 H2 (hg.trans e) r2 (fm.trans f2)
    | ct => exact fun G2 σ2 H2 e r2 f2 => p G2 σ2 H2 (hg.trans e) r2 (fm.trans f2)
    | rt d => exact fun v G2 H2 st rv ow => p v G2 H2 st rv (ow.mv fm)
theorem PostS.sub {as' : List Nat} {G H : Hp} {S : Env} {σ : St} {Dn : Ends} {q : R (Fl × Env)} (hs : ∀ i, i ∈ as' → i ∈ as) (p : PostS c fr as G S σ H Dn q) : PostS c fr as' G S σ H Dn q := by
  cases q with
  | exc x => exact p
  | fail => exact p
  | ok z =>
    obtain ⟨fl, S2⟩ := z
    cases fl with
    | nx => exact fun G2 σ2 H2 e r2 f2 => p G2 σ2 H2 e r2 (f2.mono hs)
    | bk => exact fun G2 σ2 H2 e r2 f2 => p G2 σ2 H2 e r2 (f2.mono hs)
    | ct => exact fun G2 σ2 H2 e r2 f2 => p G2 σ2 H2 e r2 (f2.mono hs)
    | rt d => exact fun v G2 H2 st rv ow => p v G2 H2 st rv (ow.sub hs)
theorem PostS.gr {G H G' H' : Hp} {S : Env} {σ : St} {Dn : Ends} {q : R (Fl × Env)} (rel : Rel c G S σ H) (sp : Step G H G' H') (p : PostS c fr as G S σ H Dn q) : PostS c fr as G' S σ H' Dn q :=
  PostS.mv (as := []) (bs := as) sp.g (Frm.step rel sp) (fun i h => .inr (by simpa using h)) p
def sNil : FS := fun S => .ok (.nx, S)
def sSeq (s r : FS) : FS := fun S => s S >>= fun z => match z.1 with | .nx => r z.2 | _ => .ok z
def sSet (i : Nat) (f : FE) : FS := fun S => f S >>= fun d => .ok (.nx, S.set i (some ⟨false, d⟩))
def sOwn (i : Nat) (f : FE) : FS := fun S => f S >>= fun d => .ok (.nx, S.set i (some ⟨true, d⟩))
def sDrop (f : FE) : FS := fun S => f S >>= fun _ => .ok (.nx, S)
def sRet (f : FE) : FS := fun S => f S >>= fun d => .ok (.rt d, S)
def sRetN : FS := fun S => .ok (.rt .non, S)
def eO (i : Nat) : FE := fun S => match S[i]? with
  | some (some ⟨true, d⟩) => .ok d
  | _ => .fail
def sRetO (i : Nat) : FS := fun S => eO i S >>= fun d => .ok (.rt d, S)
def sIf (t : FT) (s r : FS) : FS := fun S => t S >>= fun b => if b then s S else r S
def sNo : FS := fun _ => .fail
def fzS (S : Env) (i : Nat) : Env := match S[i]? with
  | some (some ⟨true, d⟩) => S.set i (some ⟨false, d⟩)
  | _ => S
def sFz (i : Nat) (s : FS) : FS := fun S => s (fzS S i)
theorem b_nil : PB' X c fr [] [] sNil := pssI pss_nil fun Dn σ H ⟨G, S, rel, p⟩ => p G σ H (Ex.refl _) rel (Frm.refl _ _ _ _)
theorem b_cons (h1 : PS' X c fr as st s) (h2 : PB' X c fr bs sts r) : PB' X c fr (as ++ bs) (st :: sts) (sSeq s r) :=
  pssI (pss_cons h1 h2) fun Dn σ H ⟨G, S, rel, p⟩ => ⟨G, S, rel, by
    have p : PostS c fr (as ++ bs) G S σ H Dn (s S >>= fun z => match z.1 with | .nx => r z.2 | _ => .ok z) := p
    cases e1 : s S with
    | exc x => rw [e1] at p; exact p
    | fail => rw [e1] at p; exact p
    | ok z =>
      rw [e1] at p
      obtain ⟨fl, S1⟩ := z
      cases fl with
      | nx => exact fun G1 σ1 H1 ex r1 f1 => ⟨G1, S1, r1, PostS.mv (as := as) (bs := bs) ex f1 (fun i => List.mem_append.mp) p⟩
      | bk => exact PostS.sub (fun i q => List.mem_append_left _ q) p
      | ct => exact PostS.sub (fun i q => List.mem_append_left _ q) p
      | rt d => exact PostS.sub (fun i q => List.mem_append_left _ q) p⟩
theorem b_one (h1 : PS' X c fr as st s) : PB' X c fr as [st] s := pss_one h1
theorem s_fz (i : Nat) (h1 : PS' X c fr as st s) : PS' X c fr (i :: as) st (sFz i s) :=
  psI h1 fun Dn σ H ⟨G, S, rel, p⟩ => by
    have p : PostS c fr (i :: as) G S σ H Dn (s (fzS S i)) := p
    unfold fzS at p
    split at p
    · rename_i d hd
      obtain ⟨G', ex, rel'⟩ := rel.frz hd
      refine ⟨G', _, rel', PostS.mv (as := [i]) (bs := as) ex ⟨rfl, fun _ _ => rfl, fun j hj _ => ?_, fun _ _ _ _ _ => rfl⟩ (fun j q => by simpa using q) p⟩
      rw [List.getElem?_set_ne (fun z => hj (by simp [z]))]
    · exact ⟨G, S, rel, PostS.sub (fun j q => List.mem_cons_of_mem _ q) p⟩
abbrev PG' (X : Cx) (c : Cf) (as : List Nat) (e : Expr) (g : FG) : Prop := PG X e (RdG c as g)
abbrev FGs := List D → Env → R Env
def RdGs (c : Cf) (as : List Nat) (g : FGs) : TGs := fun vs σ H Q => ∃ G S ds, Rel c G S σ H ∧ RDs c.k G ds vs ∧ PostG c as G S σ H Q (g ds S)
abbrev PGs' (X : Cx) (c : Cf) (as : List Nat) (e : List Expr) (g : FGs) : Prop := PGs X e (RdGs c as g)
def gN (i : Nat) : FG := fun d S => .ok (S.set i (some ⟨false, d⟩))
def gsN : FGs := fun ds S => match ds with | [] => .ok S | _ => .fail
def gsC (g : FG) (r : FGs) : FGs := fun ds S => match ds with | d :: ds => g d S >>= r ds | [] => .fail
def gT (n : Nat) (r : FGs) : FG := fun d S => match d with | .tup ds => if ds.length = n then r ds S else .fail | _ => .fail
theorem Frm.set {S : Env} {σ : St} {H : Hp} (i : Nat) (x : Option Sl) (v : Option V) : Frm [i] S σ H (S.set i x) (σ.set i v) H :=
  ⟨by simp, fun j hj => List.getElem?_set_ne (fun z => hj (by simp [z])), fun j hj _ => List.getElem?_set_ne (fun z => hj (by simp [z])), fun _ _ _ _ _ => rfl⟩
theorem g_n (i : Nat) {x : Str} (hN : X.N.Nodup) (hi : X.N[i]? = some x := by rfl) (hx : Loc X.env.scope x := by first | exact Or.inl rfl | exact Or.inr rfl) (hf : X.fn x = true ∨ X.env.scope.names.lookup x = some .local := by first | exact .inl rfl | exact .inr rfl) : PG' X c [i] (.Name x pos) (gN i) :=
  pgI (pg_name hN hi hx hf) fun v σ H Q ⟨G, S, d, rel, q, p⟩ => p G _ H (Step.refl rel.st.gh) (rel.setS i q) (Frm.set i _ _)
theorem gs_n : PGs' X c [] [] gsN :=
  pgsI pgs_nil fun vs σ H Q ⟨G, S, ds, rel, q, p⟩ => by
    cases q with
    | nil => exact ⟨rfl, p G σ H (Step.refl rel.st.gh) rel (Frm.refl _ _ _ _)⟩
    | cons _ _ => exact p.elim
theorem gs_c {e : Expr} {es : List Expr} {ga : FG} {ra : FGs} (h1 : PG' X c as e ga) (h2 : PGs' X c bs es ra) (hs : (assignEach (e :: es) X.env).map (·.2) = assign e X.env :: (assignEach es X.env).map (·.2) := by rfl) : PGs' X c (as ++ bs) (e :: es) (gsC ga ra) :=
  pgsI (pgs_cons h1 h2 hs) fun vs σ H Q ⟨G, S, ds, rel, q, p⟩ => by
    cases q with
    | nil => exact p.elim
    | @cons d ds v vs q1 q2 =>
      refine ⟨v, vs, rfl, G, S, d, rel, q1, ?_⟩
      have p : PostG c (as ++ bs) G S σ H Q (ga d S >>= ra ds) := p
      cases e1 : ga d S with
      | exc x => rw [e1] at p; exact p.elim
      | fail => rw [e1] at p; exact p.elim
      | ok S1 =>
        rw [e1] at p
        refine fun G1 σ1 H1 ex r1 f1 => ⟨G1, S1, ds, r1, q2.mono ex.g, ?_⟩
        have p : PostG c (as ++ bs) G S σ H Q (ra ds S1) := p
        cases e2 : ra ds S1 with
        | exc x => rw [e2] at p; exact p.elim
        | fail => rw [e2] at p; exact p.elim
        | ok S2 => rw [e2] at p; exact fun G2 σ2 H2 ex2 r2 f2 => p G2 σ2 H2 (ex.trans ex2) r2 (f1.trans f2)
theorem g_t {es : List Expr} {k : Nat} {ra : FGs} {n : Nat} (hk : c.k.K = X.K) (hc : X.calm = true) (h : PGs' X c as es ra) (hn : (assignEach es X.env).length = n := by rfl) (hst : (assignEach es X.env).findIdx? (·.1) = none := by rfl) : PG' X c as (.Tuple es k pos) (gT n ra) :=
  pgI (pg_tup hc h hn hst) fun v σ H Q ⟨G, S, d, rel, q, p⟩ => by
    cases q with
    | @tup ds a vs hs hr =>
      have p : PostG c as G S σ H Q (if ds.length = n then ra ds S else .fail) := p
      by_cases hl : ds.length = n
      · rw [if_pos hl] at p
        exact ⟨a, vs, rfl, hk ▸ rel.st.gh.sqT hs.t, by rw [← hr.length]; exact hl, G, S, ds, rel, hr, p⟩
      · rw [if_neg hl] at p; exact p.elim
    | _ => exact p.elim
def sAsg (g : FG) (f : FE) : FS := fun S => f S >>= fun d => (g d S).nox >>= fun S' => .ok (Fl.nx, S')
theorem asg_go {ga : FG} {tg : TG} {Dn : Ends} {σ : St} {H : Hp} (hg : ∀ v σ H Q, RdG c as ga v σ H Q → tg v σ H Q) (q : RdS c fr as (sAsg ga f) Dn σ H) : RdE c .st f σ H fun x H1 => tg x σ H1 Dn.nx := by
  obtain ⟨G, S, rel, p⟩ := q
  refine rdE_go (g := fun d => (ga d S).nox >>= fun S' => .ok (Fl.nx, S')) (Post := PostS c fr as G S σ H Dn) rel p (fun _ z => z _) (fun z => z) fun d v G' H' sp q p1 => ?_
  refine hg v σ H' _ ⟨G', S, d, rel.grow sp, q, ?_⟩
  cases e1 : ga d S with
  | exc x => rw [e1] at p1; exact p1.elim
  | fail => rw [e1] at p1; exact p1.elim
  | ok S1 =>
    rw [e1] at p1
    exact fun G2 σ2 H2 ex r2 f2 => p1 G2 σ2 H2 (sp.g.trans ex.g) r2 ((Frm.step (as := []) rel sp).trans f2)
theorem s_asg {tg : Expr} {ga : FG} (he : PE' X c .st e f) (hg : PG' X c as tg ga) (hs : swapsWithSole [tg] e pos.line X.env = pure false := by rfl) (hw : swappedStores [tg] e X.env = pure none := by rfl) (h1 : (assignEach [tg] X.env).map (·.2) = [assign tg X.env] := by rfl) : PS' X c fr as (.Assign [tg] e pos) (sAsg ga f) :=
  psI (ps_asg he hg hs hw h1) fun Dn σ H q => asg_go (fun _ _ _ _ z => z) q
theorem s_set (i : Nat) {x : Str} {pos' : Pos} (hN : X.N.Nodup) (he : PE' X c .st e f) (hi : X.N[i]? = some x := by rfl) (hx : Loc X.env.scope x := by first | exact Or.inl rfl | exact Or.inr rfl) (hs : swapsWith e (some (.Name x pos')) pos.line X.env = pure false := by rfl)
    (hf : X.fn x = true ∨ X.env.scope.names.lookup x = some .local := by first | exact .inl rfl | exact .inr rfl) : PS' X c fr [i] (.Assign [.Name x pos'] e pos) (sSet i f) :=
  psI (ps_set hN hi hx he hs hf) fun Dn σ H ⟨G, S, rel, p⟩ => by
    refine rdE_go (g := fun d => .ok (Fl.nx, S.set i (some ⟨false, d⟩))) (Post := PostS c fr [i] G S σ H Dn) rel p (fun _ z => z _) (fun z => z) fun d v G' H' sp q p1 => ?_
    exact p1 G' _ H' sp.g ((rel.grow sp).setS i q) ((Frm.step (as := []) rel sp).trans (Frm.set i _ _))
theorem own_go {i : Nat} {Dn : Ends} {σ : St} {H : Hp} (q : RdS c fr [i] (sOwn i f) Dn σ H) : RdE c .fr f σ H fun x H1 => gName i x σ H1 Dn.nx := by
  obtain ⟨G, S, rel, p⟩ := q
  refine rdE_go (g := fun d => .ok (Fl.nx, S.set i (some ⟨true, d⟩))) (Post := PostS c fr [i] G S σ H Dn) rel p (fun _ z => z _) (fun z => z) fun d v G' H' sp q p1 => ?_
  obtain ⟨a, o, rfl, hg, hn, ha, ct⟩ := q
  refine p1 G' _ H' sp.g ((rel.grow sp).setO i ha hg (rel.st.h.free hn) ct (fun j ow => ?_) (fun _ _ => rfl)) ((Frm.step (as := []) rel sp).trans (Frm.set i _ _))
  obtain ⟨_, _, u, _, q, _⟩ := rel.own ow
  rw [hn] at q; cases q
theorem s_own (i : Nat) {x : Str} {pos' : Pos} (hN : X.N.Nodup) (he : PE' X c .fr e f) (hi : X.N[i]? = some x := by rfl) (hx : Loc X.env.scope x := by first | exact Or.inl rfl | exact Or.inr rfl) (hs : swapsWith e (some (.Name x pos')) pos.line X.env = pure false := by rfl)
    (hf : X.fn x = true ∨ X.env.scope.names.lookup x = some .local := by first | exact .inl rfl | exact .inr rfl) : PS' X c fr [i] (.Assign [.Name x pos'] e pos) (sOwn i f) :=
  psI (ps_set hN hi hx he hs hf) fun Dn σ H q => own_go q
theorem s_ret (he : PE' X c .st e f) : PS' X c false [] (.Return (some e) pos) (sRet f) :=
  psI (ps_ret he) fun Dn σ H ⟨G, S, rel, p⟩ => by
    refine rdE_go (g := fun d => .ok (Fl.rt d, S)) (Post := PostS c false [] G S σ H Dn) rel p (fun _ z => z _) (fun z => z) fun d v G' H' sp q p1 => ?_
    exact p1 v G' H' (rel.st.trans sp) q (rel.grow sp).owR
theorem s_retO (i : Nat) {x : Str} {p' : Pos} (hN : X.N[i]? = some x := by rfl) (hv : Vis X.env.scope x := by first | exact Or.inl rfl | exact Or.inr (Or.inl rfl) | exact Or.inr (Or.inr rfl)) (hd : (x == ("__debug__" : Str)) = false := by decide)
    (hcd : (x == ("__classdict__" : Str)) = false := by decide) : PS' X c true [] (.Return (some (.Name x p')) pos) (sRetO i) :=
  psI (ps_ret (pe_var hN hv hd hcd)) fun Dn σ H ⟨G, S, rel, p⟩ => by
    have p : PostS c true [] G S σ H Dn (eO i S >>= fun d => .ok (.rt d, S)) := p
    unfold eO at p
    split at p
    · rename_i d hd
      obtain ⟨a, o, e1, hg, h0, ho, ct⟩ := rel.ow i d hd
      exact ⟨_, e1, p _ G H rel.st ⟨a, o, rfl, hg, h0, ho, ct⟩ rel.owR⟩
    · exact p.elim
theorem s_if {cc : Expr} {aa bb : List Stmt} (hc : PT' X c cc t) (ha : PB' X c fr as aa s) (hb : PB' X c fr bs bb r) : PS' X c fr (as ++ bs) (.If cc aa bb pos) (sIf t s r) :=
  psI (ps_if hc ha hb) fun Dn σ H ⟨G, S, rel, p⟩ => rdT_go (g := fun b => if b then s S else r S) (Post := PostS c fr (as ++ bs) G S σ H Dn) rel p (fun _ z => z _) (fun z => z) fun b G' H' sp p1 => by
    cases b with
    | true => exact ⟨G', S, rel.grow sp, PostS.sub (fun i q => List.mem_append_left _ q) (PostS.gr rel sp p1)⟩
    | false => exact ⟨G', S, rel.grow sp, PostS.sub (fun i q => List.mem_append_right _ q) (PostS.gr rel sp p1)⟩
def Itm (k : Kn) (ki : List Nat) (G1 : Hp) (S : Env) (σ : St) (H1 : Hp) (J : It) (ds : List D) : Prop :=
  ∀ G H, Ex G1 G → Ex G H → (∀ i, i ∈ ki → ∀ a, OwnAt S σ i a → H a = H1 a) → (∀ i : Nat, ds.length ≤ i → J.stop i H) ∧ ∀ (i : Nat) (d : D), ds[i]? = some d → J.go i H ∧ ∀ x H', J.yld i H x H' → ∃ G', Step G H G' H' ∧ RD k G' d x
abbrev FI := Env → R (List D)
def PostI (c : Cf) (ki : List Nat) (G : Hp) (S : Env) (σ : St) (H : Hp) (Q : It → Hp → Prop) : R (List D) → Prop
  | .ok ds => ∀ J G' H', Step G H G' H' → Itm c.k ki G' S σ H' J ds → Q J H'
  | .exc x => PX c σ x
  | .fail => False
def RdI (c : Cf) (ki : List Nat) (f : FI) : TI := fun σ H Q => ∃ G S, Rel c G S σ H ∧ PostI c ki G S σ H Q (f S)
abbrev PI' (X : Cx) (c : Cf) (ki : List Nat) (tg e : Expr) (f : FI) : Prop := PI X tg e (RdI c ki f)
def forF (g : FG) (s : FS) : List D → FS
  | [] => fun S => .ok (.nx, S)
  | d :: ds => fun S => (g d S).nox >>= fun S1 => s S1 >>= fun z => match z.1 with
    | .nx => forF g s ds z.2
    | .ct => forF g s ds z.2
    | .bk => .ok (.nx, z.2)
    | .rt d => .ok (.rt d, z.2)
def sFor (i : FI) (g : FG) (s : FS) : FS := fun S => i S >>= fun ds => forF g s ds S
theorem s_for {tg iter : Expr} {body : List Stmt} {ki gs : List Nat} {fi : FI} {ga : FG} (hp : PassesOwn (model X.prog X.w) X.A X.env X.xe) (hc : X.calm = true) (hi : PI' X c ki tg iter fi) (hg : PG' X c gs tg ga) (hb : PB' X c fr as body s)
    (hki : ∀ i, i ∈ ki → i ∉ gs ++ as ∧ i + 1000 ∉ gs ++ as := by decide) (hs : ∀ x, foldedSetIterable iter X.env x = pure x := by intro _; rfl) : PS' X c fr (gs ++ as) (.For tg iter body [] pos) (sFor fi ga s) :=
  psI (ps_for hp hc hi hg hb hs) fun Dn σ H ⟨G, S, rel, p⟩ => by
    refine ⟨G, S, rel, ?_⟩
    have p : PostS c fr (gs ++ as) G S σ H Dn (fi S >>= fun ds => forF ga s ds S) := p
    cases e0 : fi S with
    | exc x => rw [e0] at p; exact p _
    | fail => rw [e0] at p; exact p
    | ok ds =>
      rw [e0] at p
      have p : PostS c fr (gs ++ as) G S σ H Dn (forF ga s ds S) := p
      intro J G0 H0 sp it
      refine ⟨fun i m σ1 H1 => m = ds.length - i ∧ i ≤ ds.length ∧ ∃ G1 S1, Rel c G1 S1 σ1 H1 ∧ Ex G0 G1 ∧ Frm (gs ++ as) S σ H0 S1 σ1 H1 ∧ PostS c fr (gs ++ as) G S σ H Dn (forF ga s (ds.drop i) S1),
        ⟨_, rfl, Nat.zero_le _, G0, S, rel.grow sp, Ex.refl _, Frm.refl _ _ _ _, by simpa using p⟩, ?_⟩
      rintro i m σ1 H1 ⟨rfl, hle, G1, S1, r1, ex1, f1, p1⟩
      have keep : ∀ j, j ∈ ki → ∀ a, OwnAt S σ j a → H1 a = H0 a := fun j hj a ow => f1.ow j a (hki j hj).1 (hki j hj).2 ow
      have itm := it G1 H1 ex1 r1.st.gh keep
      have fm : Frm (gs ++ as) S σ H S1 σ1 H1 := ((Frm.step (as := []) rel sp).trans f1).mono (fun i q => by simpa using q)
      by_cases hlt : i < ds.length
      · obtain ⟨d, hd⟩ : ∃ d, ds[i]? = some d := ⟨ds[i], List.getElem?_eq_getElem hlt⟩
        have hdrop : ds.drop i = d :: ds.drop (i + 1) := by
          rw [List.drop_eq_getElem_cons hlt]; congr 1; rw [List.getElem?_eq_getElem hlt] at hd; exact Option.some.inj hd
        rw [hdrop] at p1
        obtain ⟨hgo, hy⟩ := itm.2 i d hd
        refine .inr ⟨hgo, fun σ' H' => ∃ G3 S3, Rel c G3 S3 σ' H' ∧ Ex G0 G3 ∧ Frm (gs ++ as) S σ H0 S3 σ' H' ∧ PostS c fr (gs ++ as) G S σ H Dn (forF ga s (ds.drop (i + 1)) S3), fun σ' H' q => ⟨ds.length - (i + 1), by omega, rfl, hlt, q⟩, fun x H2 hx => ?_⟩
        obtain ⟨G2, sp2, hd2⟩ := hy x H2 hx
        refine ⟨G2, S1, d, r1.grow sp2, hd2, ?_⟩
        have p1 : PostS c fr (gs ++ as) G S σ H Dn ((ga d S1).nox >>= fun S1 => s S1 >>= fun z => match z.1 with
          | .nx => forF ga s (ds.drop (i + 1)) z.2
          | .ct => forF ga s (ds.drop (i + 1)) z.2
          | .bk => .ok (.nx, z.2)
          | .rt d => .ok (.rt d, z.2)) := p1
        cases e1 : ga d S1 with
        | exc x => rw [e1] at p1; exact p1.elim
        | fail => rw [e1] at p1; exact p1.elim
        | ok S2 =>
          rw [e1] at p1
          refine fun G3 σ3 H3 e3 r3 f3 => ⟨G3, S2, r3, ?_⟩
          have f03 : Frm (gs ++ as) S σ H0 S2 σ3 H3 := (f1.trans ((Frm.step (as := []) r1 sp2).trans f3)).mono (fun i q => by simp only [List.mem_append, List.not_mem_nil, false_or] at q ⊢; rcases q with q | q; exact q; exact .inl q)
          have p1 : PostS c fr (gs ++ as) G S σ H Dn (s S2 >>= fun z => match z.1 with
            | .nx => forF ga s (ds.drop (i + 1)) z.2
            | .ct => forF ga s (ds.drop (i + 1)) z.2
            | .bk => .ok (.nx, z.2)
            | .rt d => .ok (.rt d, z.2)) := p1
          have g03 : Ex G0 G3 := (ex1.trans sp2.g).trans e3.g
          cases e2 : s S2 with
          | exc x => rw [e2] at p1; exact p1
          | fail => rw [e2] at p1; exact p1
          | ok z =>
            rw [e2] at p1
            obtain ⟨fl, S4⟩ := z
            have fin : ∀ {σ4 : St} {H4 : Hp}, Frm as S2 σ3 H3 S4 σ4 H4 → Frm (gs ++ as) S σ H0 S4 σ4 H4 := fun f4 => (f03.trans f4).mono (fun i q => by simp only [List.mem_append] at q ⊢; rcases q with q | q; exact q; exact .inr q)
            have fin2 : ∀ {σ4 : St} {H4 : Hp}, Frm as S2 σ3 H3 S4 σ4 H4 → Frm (gs ++ as) S σ H S4 σ4 H4 := fun f4 => ((Frm.step (as := []) rel sp).trans (fin f4)).mono (fun i q => by simpa using q)
            cases fl with
            | nx => exact fun G4 σ4 H4 e4 r4 f4 => ⟨G4, S4, r4, g03.trans e4, fin f4, p1⟩
            | ct => exact fun G4 σ4 H4 e4 r4 f4 => ⟨G4, S4, r4, g03.trans e4, fin f4, p1⟩
            | bk => exact fun G4 σ4 H4 e4 r4 f4 => p1 G4 σ4 H4 ((sp.g.trans g03).trans e4) r4 (fin2 f4)
            | rt d => exact fun v G4 H4 st rv ow => p1 v G4 H4 st rv ((ow.mv f03).sub fun i q => by simp only [List.mem_append] at q ⊢; rcases q with q | q; exact q; exact .inr q)
      · have hi : i = ds.length := by omega
        subst hi
        rw [List.drop_length] at p1
        exact .inl ⟨itm.1 _ (Nat.le_refl _), p1 G1 σ1 H1 (sp.g.trans ex1) r1 fm⟩
end
end M
set_option Elab.async false
set_option linter.all false
set_option maxRecDepth 100000
set_option maxHeartbeats 4000000
namespace M
open PySem L2
section
variable {X : Cx} {c : Cf} {kd k1 k2 k3 : Kd} {a b e tg : Expr} {f g h : FE} {t u : FT} {pos : Pos} {fr : Bool} {as bs : List Nat} {s r : FS}
def chrs (x : Str) : List D := x.cps.toList.map fun n => .str ⟨#[n]⟩
def itemsD : D → R (List D)
  | .lst ds => .ok ds
  | .tup ds => .ok ds
  | .scr ns => .ok (ns.map .int)
  | .str x => .ok (chrs x)
  | _ => .fail
theorem itm_list {k : Kn} {ki : List Nat} {G1 H1 : Hp} {S : Env} {σ : St} {K : PySem.W.Frag} {ds : List D} {vs : List V} {p : Addr} (hr : RDs k G1 ds vs) (hs : ∀ G H, Ex G1 G → Ex G H → (∀ i, i ∈ ki → ∀ a, OwnAt S σ i a → H a = H1 a) → SqL K H p vs)
    : Itm k ki G1 S σ H1 (Itl K p) ds := fun G H e1 e2 kp => by
  have q := hs G H e1 e2 kp
  refine ⟨fun i hi => ⟨vs, q, by rw [← hr.length]; exact hi⟩, fun i d hd => ?_⟩
  obtain ⟨v, hv, r⟩ := (hr.mono e1).get hd
  refine ⟨⟨vs, v, q, hv⟩, fun x H' hx => ?_⟩
  obtain ⟨rfl, hy⟩ := hx
  have := hy vs q
  rw [hv] at this; cases this
  exact ⟨G, Step.refl e2, r⟩
theorem itm_tup {k : Kn} {ki : List Nat} {G1 H1 : Hp} {S : Env} {σ : St} {K : PySem.W.Frag} {ds : List D} {vs : List V} {p : Addr} (hr : RDs k G1 ds vs) (hs : SqT K G1 p vs) : Itm k ki G1 S σ H1 (Itt K p) ds := fun G H e1 e2 kp => by
  have q := e2.sqT (e1.sqT hs)
  refine ⟨fun i hi => ⟨vs, q, by rw [← hr.length]; exact hi⟩, fun i d hd => ?_⟩
  obtain ⟨v, hv, r⟩ := (hr.mono e1).get hd
  refine ⟨⟨vs, v, q, hv⟩, fun x H' hx => ?_⟩
  obtain ⟨rfl, hy⟩ := hx
  have := hy vs q
  rw [hv] at this; cases this
  exact ⟨G, Step.refl e2, r⟩
theorem itm_str {k : Kn} {ki : List Nat} {G1 H1 : Hp} {S : Env} {σ : St} (x : Str) : Itm k ki G1 S σ H1 (Its x) (chrs x) := fun G H e1 e2 kp => by
  refine ⟨fun i hi => ?_, fun i d hd => ?_⟩
  · show x.cps.size ≤ i
    simpa [chrs] using hi
  · unfold chrs at hd
    rw [List.getElem?_map] at hd
    cases q : x.cps.toList[i]? with
    | none => rw [q] at hd; cases hd
    | some n =>
      rw [q] at hd; cases hd
      have q' : x.cps[i]? = some n := by simpa using q
      refine ⟨?_, fun y H' hy => ?_⟩
      · have := (Array.getElem?_eq_some_iff.mp q').1
        exact this
      · obtain ⟨e3, n', q2, e4⟩ := hy
        subst e3; subst e4
        rw [q'] at q2; cases q2
        exact ⟨G, Step.refl e2, .str _⟩
theorem i_seq (hk : c.k.K = X.K) (he : PE' X c .st e f) : PI' X c [] tg e (fun S => f S >>= itemsD) := by
  refine ⟨fun pins st σ H Rq I q => ?_⟩
  obtain ⟨G, S, rel, p⟩ := q
  have p : PostI c [] G S σ H Rq (f S >>= itemsD) := p
  cases e1 : f S with
  | exc x => exact (pi_list he).run pins st σ H Rq I ⟨G, S, rel, by rw [e1] at p ⊢; exact p⟩
  | fail => rw [e1] at p; exact p.elim
  | ok d =>
    rw [e1] at p
    cases d with
    | lst ds =>
      refine (pi_list he).run pins st σ H Rq I ⟨G, S, rel, ?_⟩
      rw [e1]
      intro v G' H' sp q
      cases q with
      | lst h r => exact ⟨_, rfl, ⟨_, SqL.of (sp.gh _ _ h)⟩, p _ G' H' sp (itm_list r fun G2 H2 a1 a2 _ => SqL.of (a2 _ _ (a1 _ _ h)))⟩
    | scr ns =>
      refine (pi_list he).run pins st σ H Rq I ⟨G, S, rel, ?_⟩
      rw [e1]
      intro v G' H' sp q
      cases q with
      | scr h => exact ⟨_, rfl, ⟨_, hk ▸ sp.gh.sqL h⟩, p _ G' H' sp (itm_list (RDs.ints ns) fun G2 H2 a1 a2 _ => hk ▸ a2.sqL (a1.sqL h))⟩
    | tup ds =>
      refine (pi_tup he).run pins st σ H Rq I ⟨G, S, rel, ?_⟩
      rw [e1]
      intro v G' H' sp q
      cases q with
      | tup h r => exact ⟨_, rfl, ⟨_, hk ▸ sp.gh.sqT h.t⟩, p _ G' H' sp (itm_tup r (hk ▸ h.t))⟩
    | str x =>
      refine (pi_str he).run pins st σ H Rq I ⟨G, S, rel, ?_⟩
      rw [e1]
      intro v G' H' sp q
      cases q with
      | str => exact ⟨_, rfl, p _ G' H' sp (itm_str x)⟩
    | _ => exact p.elim
def rngL (lo : Int) (n : Nat) : List D := (List.range n).map fun (i : Nat) => .int (lo + i)
def rng1 : List D → R (List D)
  | [.int j] => if -(2 ^ 62) ≤ j ∧ j < 2 ^ 62 then .ok (rngL 0 j.toNat) else .fail
  | _ => .fail
theorem itm_rng {k : Kn} {ki : List Nat} {G1 H1 : Hp} {S : Env} {σ : St} (lo : Int) (n : Nat) : Itm k ki G1 S σ H1 (Itr lo n) (rngL lo n) := fun G H e1 e2 kp => by
  refine ⟨fun i hi => (by simpa [rngL] using hi : n ≤ i), fun i d hd => ?_⟩
  unfold rngL at hd
  rw [List.getElem?_map] at hd
  have hi : i < n := by
    rcases Nat.lt_or_ge i n with z | z
    · exact z
    · rw [List.getElem?_eq_none (by simpa using z)] at hd; cases hd
  rw [List.getElem?_range hi] at hd
  cases hd
  refine ⟨hi, fun x H' hx => ?_⟩
  obtain ⟨rfl, rfl⟩ := hx
  exact ⟨G, Step.refl e2, .int _⟩
theorem i_rng1 {p : Pos} {fa : FA} {ba : Bool} (hm : X.mg "range" = none) (ha : PA' X c ba [a] fa) (hg : Gl X "range" := by rfl) (hs : starEach [a] X.env = [(false, eval a X.env)] := by rfl) : PI' X c [] tg (.Call (.Name "range" p) [a] [] pos) (fun S => fa S >>= rng1) :=
  piI (pi_range1 hg hm ha hs) fun σ H Rq ⟨G, S, rel, p⟩ => by
    refine rdA_go (g := rng1) (Post := PostI c [] G S σ H Rq) rel p (fun _ z => z) (fun z => z) fun ds vs G' H' sp q p1 => ?_
    rcases ds with _ | ⟨d1, _ | ⟨d2, dr⟩⟩
    · exact p1.elim
    · cases d1 with
      | int j =>
        have p1 : PostI c [] G S σ H Rq (if -(2 ^ 62) ≤ j ∧ j < 2 ^ 62 then .ok (rngL 0 j.toNat) else .fail) := p1
        cases q.nows with
        | cons n1 n2 =>
          cases n2
          obtain rfl := n1.int
          by_cases hj : -(2 ^ 62) ≤ j ∧ j < 2 ^ 62
          · rw [if_pos hj] at p1
            exact ⟨j, rfl, hj.1, hj.2, p1 _ G' H' sp (itm_rng 0 _)⟩
          · rw [if_neg hj] at p1; exact p1.elim
      | _ => exact p1.elim
    · cases d1 <;> exact p1.elim
theorem Rel.cw {c : Cf} {W : WX} {G H : Hp} {S : Env} {σ : St} (r : Rel c G S σ H) : Rel { c with W := W } G S σ H := ⟨r.st, r.len, r.fz, r.ow, r.nd⟩
theorem wipe_in {i : Nat} : ∀ {vs : List Nat} {σ : St}, i ∈ vs → i < σ.length → (L2.wipe σ vs)[i]? = some none
  | v :: vs, σ, hm, hi => by
    unfold L2.wipe
    by_cases h : v = i
    · subst h; rw [List.getElem?_set_self (by rw [wipe_length]; exact hi)]
    · rw [List.getElem?_set_ne h]
      exact wipe_in (by rcases List.mem_cons.mp hm with z | z; exact absurd z.symm h; exact z) hi
theorem wipe_eq {vs : List Nat} {σ σ' : St} (hl : σ'.length = σ.length) (h : ∀ (i : Nat), i ∉ vs → σ'[i]? = (L2.wipe σ vs)[i]?) : L2.wipe σ' vs = L2.wipe σ vs := by
  apply List.ext_getElem?
  intro i
  by_cases hm : i ∈ vs
  · by_cases hi : i < σ.length
    · rw [wipe_in hm hi, wipe_in hm (by rw [hl]; exact hi)]
    · rw [List.getElem?_eq_none (by rw [wipe_length, hl]; omega), List.getElem?_eq_none (by rw [wipe_length]; omega)]
  · rw [wipe_out hm, h i hm]
abbrev Cf.nx (c : Cf) : Cf := { c with W := liftX E0 }
abbrev PTs' (X : Cx) (c : Cf) (ifs : List Expr) (t : FT) : Prop := PTs X ifs (RdT c t)
def tY : FT := fun _ => .ok true
theorem ts_n : PTs' X c [] tY := ptsI pts_nil fun σ H Q ⟨G, S, rel, p⟩ => p G H (Step.refl rel.st.gh)
theorem ts_1 (h : PT' X c a t) : PTs' X c [a] t := pts_one h
def lcF (ga : FG) (t : FT) (fe : FE) (S : Env) : List D → R (List D)
  | [] => .ok []
  | d :: ds => (ga d S).nox >>= fun S1 => (t S1).nox >>= fun b => if b then (fe S1).nox >>= fun y => lcF ga t fe S ds >>= fun ys => .ok (y :: ys) else lcF ga t fe S ds
def lcE (fi : FI) (ga : FG) (t : FT) (fe : FE) (vs : List Nat) : FE := fun S => fi S >>= fun ds => if ds.length ≤ sizeLine then lcF ga t fe (wipeS S vs) ds >>= fun ys => .ok (.lst ys) else .fail
theorem lcF_exc {ga : FG} {t : FT} {fe : FE} {S : Env} {x : Exc} : ∀ ds, lcF ga t fe S ds ≠ .exc x
  | [] => by intro h; cases h
  | d :: ds => by
    intro h
    unfold lcF at h
    cases e1 : ga d S <;> rw [e1] at h <;> first | (cases h; done) | skip
    simp only [R.nox_ok, R.ok_bind] at h
    rename_i S1
    cases e2 : t S1 <;> rw [e2] at h <;> first | (cases h; done) | skip
    simp only [R.nox_ok, R.ok_bind] at h
    rename_i b
    cases b with
    | false => exact lcF_exc ds h
    | true =>
      rw [if_pos rfl] at h
      cases e3 : fe S1 <;> rw [e3] at h <;> first | (cases h; done) | skip
      simp only [R.nox_ok, R.ok_bind] at h
      cases e4 : lcF ga t fe S ds with
      | ok ys => rw [e4] at h; cases h
      | exc y => exact lcF_exc ds e4
      | fail => rw [e4] at h; cases h
theorem lc_go {ki gs vs : List Nat} {fi : FI} {ga : FG} {fe : FE} {σ : St} {H : Hp} {Q : VK} {gi : TG} {tt : TT} {te : TE} (hg : ∀ v σ H Q, RdG c.nx gs ga v σ H Q → gi v σ H Q) (ht : ∀ σ H Q, RdT c.nx t σ H Q → tt σ H Q) (he : ∀ σ H Q, RdE c.nx .st fe σ H Q → te σ H Q)
    (hgs : ∀ i, i ∈ gs → i ∈ vs) (q : RdE c .fr (lcE fi ga t fe vs) σ H Q) : tLc (RdI c ki fi) gi tt te vs σ H Q := by
  obtain ⟨G, S, rel, p⟩ := q
  refine ⟨G, S, rel, ?_⟩
  have p : PostE c .fr G S σ H Q (fi S >>= fun ds => if ds.length ≤ sizeLine then lcF ga t fe (wipeS S vs) ds >>= fun ys => .ok (.lst ys) else .fail) := p
  cases e0 : fi S with
  | exc x => rw [e0] at p; exact p
  | fail => rw [e0] at p; exact p
  | ok ds =>
    rw [e0, R.ok_bind] at p
    by_cases hz : ds.length ≤ sizeLine
    · rw [if_pos hz] at p
      intro J G1 H1 sp it Dl hD
      have relb := ((rel.grow sp).wipe vs).cw (W := liftX E0)
      have hD0 : H Dl = none := sp.h.free hD
      refine ⟨fun i m H2 => m = ds.length - i ∧ i ≤ ds.length ∧ ∃ G2 ac av, Step G1 H1 G2 H2 ∧ G2 Dl = none ∧ H2 Dl = some (.lst av) ∧ RDs c.k G2 ac av ∧ ac.length ≤ i ∧
          PostE c .fr G S σ H Q (lcF ga t fe (wipeS S vs) (ds.drop i) >>= fun ys => .ok (.lst (ac ++ ys))),
        ⟨_, rfl, Nat.zero_le _, G1, [], [], Step.new' sp.gh hD, sp.gh.free hD, upd_same, .nil, Nat.zero_le _, by simpa using p⟩, ?_⟩
      rintro i m H2 ⟨rfl, hle, G2, ac, av, sp2, hGD, hHD, hr, hal, p2⟩
      have rel2 : Rel c.nx G2 (wipeS S vs) (L2.wipe σ vs) H2 := relb.grow sp2
      have itm := it G2 H2 sp2.g sp2.gh fun j hj x ow => by
        obtain ⟨_, _, o, _, ho, _⟩ := (rel.grow sp).own ow
        rw [ho, sp2.h _ _ ho]
      by_cases hlt : i < ds.length
      · obtain ⟨d, hd⟩ : ∃ d, ds[i]? = some d := ⟨ds[i], List.getElem?_eq_getElem hlt⟩
        have hdrop : ds.drop i = d :: ds.drop (i + 1) := by
          rw [List.drop_eq_getElem_cons hlt]; congr 1; rw [List.getElem?_eq_getElem hlt] at hd; exact Option.some.inj hd
        rw [hdrop] at p2
        obtain ⟨hgo, hy⟩ := itm.2 i d hd
        refine .inr ⟨hgo, fun H' => ∃ G3 ac av, Step G1 H1 G3 H' ∧ G3 Dl = none ∧ H' Dl = some (.lst av) ∧ RDs c.k G3 ac av ∧ ac.length ≤ i + 1 ∧
          PostE c .fr G S σ H Q (lcF ga t fe (wipeS S vs) (ds.drop (i + 1)) >>= fun ys => .ok (.lst (ac ++ ys))), fun H' ⟨G3, r3⟩ => ⟨_, by omega, rfl, hlt, G3, r3⟩, fun x H3 hx => ?_⟩
        obtain ⟨G3, sp3, hd3⟩ := hy x H3 hx
        refine hg x _ H3 _ ⟨G3, wipeS S vs, d, rel2.grow sp3, hd3, ?_⟩
        unfold lcF at p2
        cases e1 : ga d (wipeS S vs) with
        | exc x => rw [e1] at p2; exact p2.elim
        | fail => rw [e1] at p2; exact p2.elim
        | ok S1 =>
          rw [e1, R.nox_ok, R.ok_bind] at p2
          intro G4 σ4 H4 sp4 rel4 f4
          refine ⟨wipe_eq (by rw [f4.len, wipe_length]) fun j hj => f4.sg j fun z => hj (hgs j z), ht σ4 H4 _ ⟨G4, S1, rel4, ?_⟩⟩
          cases e2 : t S1 with
          | exc x => rw [e2] at p2; exact p2.elim
          | fail => rw [e2] at p2; exact p2.elim
          | ok b =>
            rw [e2, R.nox_ok, R.ok_bind] at p2
            intro G5 H5 sp5
            have spA : Step G2 H2 G5 H5 := (sp3.trans sp4).trans sp5
            have nD : ∀ {G6 H6 : Hp}, Step G2 H2 G6 H6 → G6 Dl = none ∧ H6 Dl = some (.lst av) := fun {G6 H6} z => by
              refine ⟨?_, z.h _ _ hHD⟩
              cases q : G6 Dl with
              | none => rfl
              | some o =>
                rcases z.gr _ _ q with w | w
                · rw [hGD] at w; cases w
                · rw [hHD] at w; cases w
            cases b with
            | false =>
              rw [if_neg Bool.false_ne_true] at p2 ⊢
              exact ⟨G5, ac, av, sp2.trans spA, (nD spA).1, (nD spA).2, hr.mono spA.g, by omega, p2⟩
            | true =>
              rw [if_pos rfl] at p2 ⊢
              refine he σ4 H5 _ ⟨G5, S1, rel4.grow sp5, ?_⟩
              cases e3 : fe S1 with
              | exc x => rw [e3] at p2; exact p2.elim
              | fail => rw [e3] at p2; exact p2.elim
              | ok y =>
                rw [e3, R.nox_ok, R.ok_bind] at p2
                intro v G6 H6 sp6 hv
                have spB := spA.trans sp6
                refine ⟨av, (nD spB).2, by rw [← hr.length]; omega, ?_⟩
                have spC : Step G1 H1 G6 (upd H6 Dl (.lst (av ++ [v]))) := by
                  have z := sp2.trans spB
                  exact ⟨z.g, z.h.upd hD, z.gh.upd (nD spB).1, z.gr⟩
                refine ⟨G6, ac ++ [y], av ++ [v], spC, (nD spB).1, upd_same, (hr.mono spB.g).append (.cons hv .nil), by rw [List.length_append]; simp; omega, ?_⟩
                cases e4 : lcF ga t fe (wipeS S vs) (ds.drop (i + 1)) with
                | exc x => exact absurd e4 (lcF_exc _)
                | fail => rw [e4] at p2; exact p2.elim
                | ok ys => rw [e4] at p2; simpa using p2
      · have hi : i = ds.length := by omega
        subst hi
        rw [List.drop_length] at p2
        refine .inl ⟨itm.1 _ (Nat.le_refl _), ?_⟩
        have p2 : PostE c .fr G S σ H Q (.ok (.lst (ac ++ []))) := p2
        rw [List.append_nil] at p2
        exact p2 _ G2 H2 (sp.trans sp2) ⟨Dl, _, rfl, hGD, hD0, hHD, .lst hr⟩
    · rw [if_neg hz] at p; exact p.elim
theorem d_lc {elt iter : Expr} {ifs : List Expr} {scope : Scope} (own : List (Str × Nat)) {ki gs : List Nat} {fi : FI} {ga : FG} {fe : FE} (hc : X.calm = true) (hN : X.N.Nodup) (hi : PI' X c ki tg iter fi) (ok : BlkOk X.N X.env.scope scope own)
    (hg : ∀ (s : Shared) (H : Hp) (C : Addr) (cl : List (Str × Addr)) (fp : List Addr), PG' (X.blk s H scope (compEnvC scope cl C X.env) fp) c.nx gs tg ga) (ht : ∀ (s : Shared) (H : Hp) (C : Addr) (cl : List (Str × Addr)) (fp : List Addr), PTs' (X.blk s H scope (compEnvC scope cl C X.env) fp) c.nx ifs t)
    (he : ∀ (s : Shared) (H : Hp) (C : Addr) (cl : List (Str × Addr)) (fp : List Addr), PE' (X.blk s H scope (compEnvC scope cl C X.env) fp) c.nx .st elt fe) (hgs : ∀ i, i ∈ gs → i ∈ own.map (·.2) := by decide) (hs : ∀ x, foldedSetIterable iter X.env x = pure x := by intro _; rfl) :
    PE' X c .fr (.ListComp elt [⟨tg, iter, ifs, 0⟩] scope pos) (lcE fi ga t fe (own.map (·.2))) :=
  peI (pe_lc hc hN hi ok hg ht he hs) fun σ H Q q => lc_go (fun _ _ _ _ z => z) (fun _ _ _ z => z) (fun _ _ _ z => z) hgs q
theorem s_lc (i : Nat) {y : Str} {py spos : Pos} {elt iter : Expr} {ifs : List Expr} {scope : Scope} (own : List (Str × Nat)) {ki gs : List Nat} {fi : FI} {ga : FG} {fe : FE} (hc : X.calm = true) (hN : X.N.Nodup) (hi : PI' X c ki tg iter fi) (ok : BlkOk X.N X.env.scope scope own)
    (hg : ∀ (s : Shared) (H : Hp) (C : Addr) (cl : List (Str × Addr)) (fp : List Addr), PG' (X.blk s H scope (compEnvC scope cl C X.env) fp) c.nx gs tg ga) (ht : ∀ (s : Shared) (H : Hp) (C : Addr) (cl : List (Str × Addr)) (fp : List Addr), PTs' (X.blk s H scope (compEnvC scope cl C X.env) fp) c.nx ifs t)
    (he : ∀ (s : Shared) (H : Hp) (C : Addr) (cl : List (Str × Addr)) (fp : List Addr), PE' (X.blk s H scope (compEnvC scope cl C X.env) fp) c.nx .st elt fe) (hy : X.N[i]? = some y := by rfl) (hyl : X.env.scope.names.lookup y = some .local := by rfl)
    (hsw : swapsWith (.ListComp elt [⟨tg, iter, ifs, 0⟩] scope pos) (some (.Name y py)) spos.line X.env = pure true := by exact sw_true rfl rfl rfl (by decide +kernel)) (hgs : ∀ i, i ∈ gs → i ∈ own.map (·.2) := by decide) (hs : ∀ x, foldedSetIterable iter X.env x = pure x := by intro _; rfl) :
    PS' X c fr [i] (.Assign [.Name y py] (.ListComp elt [⟨tg, iter, ifs, 0⟩] scope pos) spos) (sOwn i (lcE fi ga t fe (own.map (·.2)))) :=
  psI (ps_setLc hc hN hy hyl hsw hi ok hg ht he hs) fun Dn σ H q => lc_go (fun _ _ _ _ z => z) (fun _ _ _ z => z) (fun _ _ _ z => z) hgs (own_go q)
end
end M
set_option Elab.async false
set_option linter.all false
set_option maxRecDepth 100000
set_option maxHeartbeats 4000000
namespace M
open PySem L2
abbrev kdOf (fr : Bool) : Kd := if fr then .fr else .st
def PostF (k : Kn) (fr : Bool) (G0 H : Hp) (Q : VK) (E : XK) : R D → Prop
  | .ok d => ∀ v G' H', Step G0 H G' H' → Res k H G' H' d v (kdOf fr) → Q v H'
  | .exc x => PXs ⟨k, H, G0, liftX E⟩ x
  | .fail => False
def SpF (k : Kn) (fr : Bool) (n : Nat) (den : List D → R D) : Sp := fun vs H Q E => vs.length = n ∧ ∃ G0 ds, Ex G0 H ∧ RDs k G0 ds vs ∧ PostF k fr G0 H Q E (den ds)
def startS (n : Nat) (ds : List D) : Env := ds.map (fun d => some ⟨false, d⟩) ++ List.replicate (n - ds.length) none
def endF (fr : Bool) : R (Fl × Env) → R D
  | .ok (.rt d, _) => .ok d
  | .ok (.nx, _) => if fr then .fail else .ok .non
  | .ok _ => .fail
  | .exc x => .exc x
  | .fail => .fail
def runF (fr : Bool) (n : Nat) (s : FS) (ds : List D) : R D := endF fr (s (startS n ds))
theorem rel_start {c : Cf} {N : List Str} {ds : List D} {vs : List V} (e : Ex c.G0 c.H0) (r : RDs c.k c.G0 ds vs) : Rel c c.G0 (startS N.length ds) (L2.start N vs) c.H0 := by
  have own : ∀ (i : Nat) (d : D), (startS N.length ds)[i]? ≠ some (some ⟨true, d⟩) := fun i d q => by
    unfold startS at q
    rw [List.getElem?_append] at q
    split at q
    · rw [List.getElem?_map] at q
      cases h : ds[i]? <;> rw [h] at q <;> cases q
    · rw [List.getElem?_replicate] at q
      split at q <;> cases q
  refine ⟨Step.refl e, by simp [startS, L2.start, r.length], fun i d q => ?_, fun i d q => absurd q (own i d), fun i j a o => ?_⟩
  · unfold startS at q
    rw [List.getElem?_append] at q
    split at q
    · rename_i hlt
      rw [List.getElem?_map] at q
      cases h : ds[i]? with
      | none => rw [h] at q; cases q
      | some d' =>
        rw [h] at q; cases q
        obtain ⟨v, h1, h2⟩ := r.get h
        refine ⟨v, ?_, h2⟩
        unfold L2.start
        rw [List.getElem?_append_left (by rw [List.length_map]; exact (List.getElem?_eq_some_iff.mp h1).1), List.getElem?_map, h1]; rfl
    · rw [List.getElem?_replicate] at q
      split at q <;> cases q
  · obtain ⟨⟨d, q⟩, _⟩ := o
    exact absurd q (own i d)
theorem body_ok {k : Kn} {fr : Bool} {as : List Nat} {N : List Str} {X : Cx} {body : List Stmt} {s : FS} {H : Hp} {vs : List V} {Q : VK} {E : XK} {n : Nat} (hb : ∀ G0, PB' X ⟨k, H, G0, liftX E⟩ fr as body s) (q : SpF k fr n (runF fr N.length s) vs H Q E) :
    ∃ t, PSs X body t ∧ t { nx := fun _ H' => Q .non H', rt := Q } (L2.start N vs) H := by
  obtain ⟨hl, G0, ds, e, r, p⟩ := q
  refine ⟨_, hb G0, G0, _, rel_start (c := ⟨k, H, G0, liftX E⟩) e r, ?_⟩
  unfold runF at p
  cases e1 : s (startS N.length ds) with
  | exc x => rw [e1] at p; exact p
  | fail => rw [e1] at p; exact p.elim
  | ok z =>
    rw [e1] at p
    obtain ⟨fl, S1⟩ := z
    cases fl with
    | nx =>
      cases fr with
      | true => exact p.elim
      | false => exact fun G' σ' H' _ rel _ => p .non G' H' rel.st .non
    | bk => exact p.elim
    | ct => exact p.elim
    | rt d =>
      intro v G' H' st rv _
      refine p v G' H' st ?_
      cases fr with
      | true => exact rv
      | false => exact rv
section
variable {P : Program} {w : World} {K : PySem.W.Frag} {mg : Str → Option Value} {base : Heap}
theorem fn_ok {k : Kn} {fr : Bool} {as : List Nat} {x qual : Str} {params : Arguments} {body : List Stmt} {scope : Scope} {dvs : List V} {kws : List (Str × V)} {f : Addr} {fd : FuncData} {N ps : List Str} {lv : Nat} {s : FS} (F : FunD K x qual params body scope dvs kws f fd) (S : FnScope N ps scope)
    (hb : ∀ (cdv : Value) (A : Around) (outer : List PySem.Env) (sh : Shared) (H G0 : Hp), Room lv (A.deeper (PyProof.Rows.envOfC qual scope sh.heap.objs.size f cdv)) → PB' (cxOf CX0 P w K mg base N qual scope f cdv A outer sh H E0).nox ⟨k, H, G0, liftX E0⟩ fr as body s) :
    FnOk P w K mg base CX0 (lv + 1) f fd ps (SpF k fr ps.length (fun ds => (runF fr N.length s ds).nox)) := by
  refine F.ok S (fun vs H Q E q => q.1) fun cdv A outer sh H vs Q E hr q => ?_
  have q' : SpF k fr ps.length (runF fr N.length s) vs H Q E0 := by
    obtain ⟨hl, G0, ds, e, r, p⟩ := q
    refine ⟨hl, G0, ds, e, r, ?_⟩
    dsimp only at p
    cases e1 : runF fr N.length s ds with
    | ok d => rw [e1] at p; exact p
    | exc x => rw [e1] at p; exact p.elim
    | fail => rw [e1] at p; exact p.elim
  obtain ⟨t, h1, h2⟩ := body_ok (X := (cxOf CX0 P w K mg base N qual scope f cdv A outer sh H E0).nox) (fun G0 => hb cdv A outer sh H G0 hr) q'
  exact ⟨t, h1.nox, h2⟩
end
structure Fn0 (X : Cx) (k : Kn) (x : Str) (n : Nat) (fr : Bool) (den : List D → R D) : Prop where
  ex : ∃ (f : Addr) (fd : FuncData) (lv : Nat) (ps : List Str), ps.length = n ∧ FnOk X.prog X.w X.K X.mg X.base CX0 lv f fd ps (SpF k fr n den) ∧ Room lv X.A ∧ X.mg x = some (.ref f) ∧ PySem.W.keepIn X.K (.ref f) = true ∧ Binds X.K fd ps []
section
variable {X : Cx} {c : Cf} {kd k1 k2 k3 : Kd} {a b e : Expr} {pos : Pos} {fr : Bool} {den : List D → R D}
theorem call_go {n : Nat} {fa : FA} {σ : St} {H : Hp} {Q : VK} (hl : ∀ S ds, fa S = .ok ds → ds.length = n) (q : RdE c (kdOf fr) (eC den fa) σ H Q) : RdA c false fa σ H fun vs H1 => SpF c.k fr n den (vs ++ []) H1 Q E0 := by
  obtain ⟨G, S, rel, p⟩ := q
  have p : PostE c (kdOf fr) G S σ H Q (fa S >>= fun ds => (den ds).nox) := p
  refine ⟨G, S, rel, ?_⟩
  cases e0 : fa S with
  | exc x => rw [e0] at p; exact p
  | fail => rw [e0] at p; exact p
  | ok ds =>
    rw [e0] at p
    intro vs G1 H1 s1 q1
    have q1 : RDs c.k G1 ds vs := q1
    rw [List.append_nil]
    refine ⟨by rw [← q1.length]; exact hl S ds e0, G1, ds, s1.gh, q1, ?_⟩
    have p : PostE c (kdOf fr) G S σ H Q (den ds).nox := p
    cases e1 : den ds with
    | ok d => rw [e1] at p; exact fun v G' H' s2 r2 => p v G' H' (s1.trans s2) (r2.mono s1.h)
    | exc x => rw [e1] at p; exact p.elim
    | fail => rw [e1] at p; exact p.elim
def Len (n : Nat) (fa : FA) : Prop := ∀ S ds, fa S = .ok ds → ds.length = n
theorem len_n : Len 0 aN := fun S ds h => by cases h; rfl
theorem len_c {n : Nat} {f : FE} {fa : FA} (h : Len n fa) : Len (n + 1) (aC f fa) := fun S ds q => by
  unfold aC at q
  cases e1 : f S with
  | exc x => rw [e1] at q; cases q
  | fail => rw [e1] at q; cases q
  | ok d =>
    rw [e1] at q
    have q : (fa S >>= fun xs => R.ok (d :: xs)) = .ok ds := q
    cases e2 : fa S with
    | exc x => rw [e2] at q; cases q
    | fail => rw [e2] at q; cases q
    | ok xs => rw [e2] at q; cases q; simp [h S xs e2]
theorem d_call {x : Str} {n : Nat} {p : Pos} {es : List Expr} {fa : FA} (F : Fn0 X c.k x n fr den) (ha : PA' X c false (e :: es) fa) (hl : Len n fa) (hg : Gl X x := by rfl) (hdb : (x == ("__debug__" : Str)) = false := by decide)
    (hs : starEach (e :: es) X.env = (false, eval e X.env) :: starEach es X.env := by rfl) (hs2 : ((backTo pos (starEach es X.env)).any fun x => x.1) = false := by rfl) : PE' X c (kdOf fr) (.Call (.Name x p) (e :: es) [] pos) (eC den fa) := by
  obtain ⟨f, fd, lv, ps, hn, ok, hr, hm, hk, hb⟩ := F.ex
  exact peI (pe_call ok hr hg hm hk hb .nil pass0 ha hdb hs hs2) fun σ H Q q => call_go hl q
mutual
def D.noMut : D → Bool
  | .lst _ => false
  | .dic _ _ => false
  | .dit _ _ => false
  | .dkf _ _ => false
  | .dig _ _ => false
  | .dgf _ _ => false
  | .tup xs => D.noMuts xs
  | .obj _ _ => false
  | .scr _ => false
  | _ => true
def D.noMuts : List D → Bool
  | [] => true
  | x :: xs => x.noMut && D.noMuts xs
end
noncomputable def cut (S : Env) (σ : St) (H : Hp) : Hp := fun b => open Classical in if ∃ i, OwnAt S σ i b then none else H b
theorem cut_get {S : Env} {σ : St} {H : Hp} {b : Addr} (h : ∀ i, ¬ OwnAt S σ i b) : cut S σ H b = H b := by
  unfold cut; rw [if_neg (fun ⟨i, q⟩ => h i q)]
theorem Cont.notup {k : Kn} {G : Hp} {d : D} {o : HO} (c : Cont k G d o) : (∀ vs, o ≠ .tup vs) ∧ (∀ q vs, o ≠ .frz q vs) := by
  cases c <;> exact ⟨fun _ z => (by cases z), fun _ _ z => (by cases z)⟩
mutual
theorem RD.cut {c : Cf} {G H H' : Hp} {S : Env} {σ : St} (rel : Rel c G S σ H) (e : Ex H H') : ∀ {d : D} {v : V}, RD c.k H' d v → d.noMut = true → RD c.k (M.cut S σ H') d v
  | _, _, .non, _ => .non
  | _, _, .bl b, _ => .bl b
  | _, _, .int b, _ => .int b
  | _, _, .str b, _ => .str b
  | _, _, .ty b, _ => .ty b
  | _, _, .cls b, _ => .cls b
  | _, _, .tup h r, q => by
    simp only [D.noMut] at q
    refine .tup ?_ (RDs.cut rel e r q)
    rcases h with h | h
    · refine .inl ?_
      rw [cut_get]; exact h
      intro i ow
      obtain ⟨_, _, o, d, ho, _, ct⟩ := rel.own ow
      have := e _ _ ho
      rw [h] at this; cases this
      exact ct.notup.1 _ rfl
    · exact .inr h
  | _, _, .scr _, q => by simp [D.noMut] at q
  | _, _, .lst _ _, q => by simp [D.noMut] at q
  | _, _, .dic _ _ _, q => by simp [D.noMut] at q
  | _, _, .dit _ _ _, q => by simp [D.noMut] at q
  | _, _, .dkf _ _ _, q => by simp [D.noMut] at q
  | _, _, .dig _ _ _ _, q => by simp [D.noMut] at q
  | _, _, .dgf _ _ _ _, q => by simp [D.noMut] at q
  | _, _, .obj _ _ _, q => by simp [D.noMut] at q
theorem RDs.cut {c : Cf} {G H H' : Hp} {S : Env} {σ : St} (rel : Rel c G S σ H) (e : Ex H H') : ∀ {ds : List D} {vs : List V}, RDs c.k H' ds vs → D.noMuts ds = true → RDs c.k (M.cut S σ H') ds vs
  | _, _, .nil, _ => .nil
  | _, _, .cons a b, q => by
    simp only [D.noMuts, Bool.and_eq_true] at q
    exact .cons (RD.cut rel e a q.1) (RDs.cut rel e b q.2)
end
end
end M
set_option Elab.async false
set_option linter.all false
set_option maxRecDepth 100000
set_option maxHeartbeats 4000000
namespace M
open PySem L2
section
variable {X : Cx} {k : Kn}
theorem CallR.or {f : Value} {r r' : List V → Hp → VK → Prop} (h : CallR X f r) (h' : CallR X f r') : CallR X f (fun xs H Q => r xs H Q ∨ r' xs H Q) := fun pins s σ H xs us Q I rx q => by
  rcases q with q | q
  · exact h pins s σ H xs us Q I rx q
  · exact h' pins s σ H xs us Q I rx q
theorem cl1 {f : Value} {kd : Kd} {g : D → R D} {r : List V → Hp → VK → Prop} (h : CallR X f r) (q : ∀ G H x v d, Ex G H → Now k G H x v → g x = .ok d → ∀ Q : VK, (∀ w G' H', Step G H G' H' → Res k H G' H' d w kd → Q w H') → r [v] H Q) :
    ClR X k f kd (fun xs => match xs with | [x] => g x | _ => .fail) := by
  refine ⟨r, h, ?_⟩
  intro G H ds vs d e ns hg Q p
  cases ns with
  | nil => cases hg
  | cons n1 n2 =>
    cases n2 with
    | nil => exact q G H _ _ d e n1 hg Q p
    | cons _ _ => cases hg
theorem cl2 {f : Value} {kd : Kd} {g : D → D → R D} {r : List V → Hp → VK → Prop} (h : CallR X f r) (q : ∀ G H x v y u d, Ex G H → Now k G H x v → Now k G H y u → g x y = .ok d → ∀ Q : VK, (∀ w G' H', Step G H G' H' → Res k H G' H' d w kd → Q w H') → r [v, u] H Q) :
    ClR X k f kd (fun xs => match xs with | [x, y] => g x y | _ => .fail) := by
  refine ⟨r, h, ?_⟩
  intro G H ds vs d e ns hg Q p
  cases ns with
  | nil => cases hg
  | cons n1 n2 =>
    cases n2 with
    | nil => cases hg
    | cons n2 n3 =>
      cases n3 with
      | nil => exact q G H _ _ _ _ d e n1 n2 hg Q p
      | cons _ _ => cases hg
def f1 (g : D → R D) : List D → R D := fun xs => match xs with | [x] => g x | _ => .fail
def f2 (g : D → D → R D) : List D → R D := fun xs => match xs with | [x, y] => g x y | _ => .fail
def lenD : D → R D
  | .str x => if x.length ≤ sizeLine then .ok (.int x.length) else .fail
  | .lst xs => .ok (.int xs.length)
  | .tup xs => .ok (.int xs.length)
  | .scr ns => .ok (.int ns.length)
  | .dic ks _ => .ok (.int ks.length)
  | .dkf ks _ => .ok (.int ks.length)
  | _ => .fail
theorem call_lenFz : CallR X (.builtin "len") (fun xs H Q => ∃ a o kvs, xs = [V.ref a] ∧ H a = some (.frz o (.dK kvs)) ∧ Q (.int kvs.length) H) := by
  intro pins s σ H xs us Q I r h
  obtain ⟨a, o, kvs, rfl, ha, q⟩ := h
  obtain ⟨u, rfl, ru⟩ := vals1 r
  cases ru
  exact d_len I (.inr ⟨o, ha⟩) fun t s' I' => ⟨.int kvs.length, H, I', ⟨t, rfl⟩, q⟩
theorem c_len (hk : k.K = X.K) : ClR X k (.builtin "len") .st (f1 lenD) := cl1 ((call_len.or call_lenD).or call_lenFz) fun G H x v d e n hg Q p => by
  unfold lenD at hg
  split at hg
  · split at hg
    · rename_i hl
      cases hg; obtain rfl := n.str
      exact .inl (.inl ⟨_, _, rfl, ⟨hl, rfl⟩, p _ G H (Step.refl e) (.int _)⟩)
    · cases hg
  · cases hg; obtain ⟨a, vs, rfl, ha, r⟩ := n.lst e
    exact .inl (.inl ⟨_, _, rfl, .inl ⟨vs, SqL.of ha, rfl⟩, by rw [← r.length]; exact p _ G H (Step.refl e) (.int _)⟩)
  · cases hg; obtain ⟨a, vs, rfl, ha, r⟩ := n.tup
    exact .inl (.inl ⟨_, _, rfl, .inr ⟨vs, hk ▸ e.sqT ha.t, rfl⟩, by rw [← r.length]; exact p _ G H (Step.refl e) (.int _)⟩)
  · cases hg; obtain ⟨a, rfl, ha⟩ := n.scr
    exact .inl (.inl ⟨_, _, rfl, .inl ⟨_, hk ▸ e.sqL ha, rfl⟩, by rw [List.length_map]; exact p _ G H (Step.refl e) (.int _)⟩)
  · cases hg; obtain ⟨a, vs, rfl, ha, l, r⟩ := n.dic e
    refine .inl (.inr ⟨a, _, rfl, ha, ?_⟩)
    rw [List.length_zip, ← r.length, ← l, Nat.min_self]; exact p _ G H (Step.refl e) (.int _)
  · cases hg; obtain ⟨a, o, vs, rfl, ha, l, r⟩ := n.dkf e
    refine .inr ⟨a, o, _, rfl, ha, ?_⟩
    rw [List.length_zip, ← r.length, ← l, Nat.min_self]; exact p _ G H (Step.refl e) (.int _)
  · cases hg
def absD : D → R D
  | .int i => .ok (.int (if i < 0 then -i else i))
  | _ => .fail
theorem c_abs : ClR X k (.builtin "abs") .st (f1 absD) := cl1 call_abs fun G H x v d e n hg Q p => by
  cases x <;> simp only [absD] at hg <;> first | (cases hg; done) | skip
  cases hg; obtain rfl := n.int
  exact ⟨_, rfl, p _ G H (Step.refl e) (.int _)⟩
def intD : D → R D
  | .int i => .ok (.int i)
  | .bl b => .ok (.int (if b then 1 else 0))
  | _ => .fail
theorem c_int : ClR X k (.type "int") .st (f1 intD) := cl1 call_int1 fun G H x v d e n hg Q p => by
  cases x <;> simp only [intD] at hg <;> first | (cases hg; done) | skip
  · cases hg; obtain rfl := n.bl
    exact .inr ⟨_, rfl, p _ G H (Step.refl e) (.int _)⟩
  · cases hg; obtain rfl := n.int
    exact .inl ⟨_, rfl, p _ G H (Step.refl e) (.int _)⟩
def max2D : D → D → R D
  | .int i, .int j => .ok (.int (if j > i then j else i))
  | _, _ => .fail
theorem c_max2 (hc : X.calm = true) : ClR X k (.builtin "max") .st (f2 max2D) := cl2 (call_max2 hc) fun G H x v y u d e n m hg Q p => by
  unfold max2D at hg
  split at hg
  · cases hg; obtain rfl := n.int; obtain rfl := m.int
    exact ⟨_, _, rfl, p _ G H (Step.refl e) (.int _)⟩
  · cases hg
def asI : List D → Option (List Int)
  | [] => some []
  | .int i :: r => (asI r).map (i :: ·)
  | _ => none
def asB : List D → Option (List Bool)
  | [] => some []
  | .bl i :: r => (asB r).map (i :: ·)
  | _ => none
def asS : List D → Option (List Str)
  | [] => some []
  | .str i :: r => (asS r).map (i :: ·)
  | _ => none
theorem asI_of {G : Hp} : ∀ {ds : List D} {vs : List V} {ns : List Int}, RDs k G ds vs → asI ds = some ns → vs = ns.map V.int
  | _, _, ns, .nil, h => by cases h; rfl
  | _, _, ns, .cons a b, h => by
    cases a with
    | int i =>
      simp only [asI, Option.map_eq_some_iff] at h
      obtain ⟨r, h1, rfl⟩ := h
      rw [asI_of b h1]; rfl
    | _ => simp [asI] at h
theorem asB_of {G : Hp} : ∀ {ds : List D} {vs : List V} {ns : List Bool}, RDs k G ds vs → asB ds = some ns → vs = ns.map V.bl
  | _, _, ns, .nil, h => by cases h; rfl
  | _, _, ns, .cons a b, h => by
    cases a with
    | bl i =>
      simp only [asB, Option.map_eq_some_iff] at h
      obtain ⟨r, h1, rfl⟩ := h
      rw [asB_of b h1]; rfl
    | _ => simp [asB] at h
theorem asS_of {G : Hp} : ∀ {ds : List D} {vs : List V} {ns : List Str}, RDs k G ds vs → asS ds = some ns → vs = ns.map V.str
  | _, _, ns, .nil, h => by cases h; rfl
  | _, _, ns, .cons a b, h => by
    cases a with
    | str i =>
      simp only [asS, Option.map_eq_some_iff] at h
      obtain ⟨r, h1, rfl⟩ := h
      rw [asS_of b h1]; rfl
    | _ => simp [asS] at h
@[simp] theorem asI_map (ns : List Int) : asI (ns.map D.int) = some ns := by
  induction ns with
  | nil => rfl
  | cons n ns ih => simp [asI, ih]
@[simp] theorem asB_map (ns : List Bool) : asB (ns.map D.bl) = some ns := by
  induction ns with
  | nil => rfl
  | cons n ns ih => simp [asB, ih]
@[simp] theorem asS_map (ns : List Str) : asS (ns.map D.str) = some ns := by
  induction ns with
  | nil => rfl
  | cons n ns ih => simp [asS, ih]
def anyD : D → R D
  | .lst ds => match asB ds with | some ns => .ok (.bl (ns.any id)) | none => .fail
  | _ => .fail
theorem c_any (hc : X.calm = true) : ClR X k (.builtin "any") .st (f1 anyD) := cl1 (cr_any hc) fun G H x v d e n hg Q p => by
  cases x <;> simp only [anyD] at hg <;> first | (cases hg; done) | skip
  split at hg
  · rename_i ns hn
    cases hg; obtain ⟨a, vs, rfl, ha, r⟩ := n.lst e
    have := asB_of r hn; subst this
    exact ⟨a, ns, rfl, SqL.of ha, p _ G H (Step.refl e) (.bl _)⟩
  · cases hg
def allD : D → R D
  | .lst ds => match asB ds with | some ns => .ok (.bl (ns.all id)) | none => .fail
  | _ => .fail
theorem c_all (hc : X.calm = true) : ClR X k (.builtin "all") .st (f1 allD) := cl1 (cr_all hc) fun G H x v d e n hg Q p => by
  cases x <;> simp only [allD] at hg <;> first | (cases hg; done) | skip
  split at hg
  · rename_i ns hn
    cases hg; obtain ⟨a, vs, rfl, ha, r⟩ := n.lst e
    have := asB_of r hn; subst this
    exact ⟨a, ns, rfl, SqL.of ha, p _ G H (Step.refl e) (.bl _)⟩
  · cases hg
def tupD : D → R D
  | .lst ds => .ok (.tup ds)
  | .tup ds => .ok (.tup ds)
  | _ => .fail
theorem c_tup (hk : k.K = X.K) : ClR X k (.type "tuple") .st (f1 tupD) := cl1 call_tuple_of fun G H x v d e n hg Q p => by
  cases x <;> simp only [tupD] at hg <;> first | (cases hg; done) | skip
  · cases hg; obtain ⟨a, vs, rfl, ha, r⟩ := n.tup
    exact ⟨a, vs, rfl, .inr ⟨hk ▸ e.sqT ha.t, p _ G H (Step.refl e) (.tup ha r)⟩⟩
  · cases hg; obtain ⟨a, vs, rfl, ha, r⟩ := n.lst e
    exact ⟨a, vs, rfl, .inl ⟨SqL.of ha, fun l hl => p _ _ _ (Step.new e hl) (.tup (SqU.of upd_same) (r.mono (Ex.new (e.free hl))))⟩⟩
def lstD : D → R D
  | .lst ds => .ok (.lst ds)
  | .tup ds => .ok (.lst ds)
  | _ => .fail
theorem c_lst (hk : k.K = X.K) : ClR X k (.type "list") .fr (f1 lstD) := cl1 call_list_of fun G H x v d e n hg Q p => by
  cases x <;> simp only [lstD] at hg <;> first | (cases hg; done) | skip
  · cases hg; obtain ⟨a, vs, rfl, ha, r⟩ := n.tup
    exact ⟨a, vs, rfl, .inr (hk ▸ e.sqT ha.t), fun l hl => p _ _ _ (Step.new' e hl) ⟨l, _, rfl, e.free hl, hl, upd_same, .lst r⟩⟩
  · cases hg; obtain ⟨a, vs, rfl, ha, r⟩ := n.lst e
    exact ⟨a, vs, rfl, .inl (SqL.of ha), fun l hl => p _ _ _ (Step.new' e hl) ⟨l, _, rfl, e.free hl, hl, upd_same, .lst r⟩⟩
def flatD : D → Bool
  | .non => true
  | .bl _ => true
  | .int _ => true
  | .str _ => true
  | _ => false
theorem RD.flat {G : Hp} {d : D} {v : V} (r : RD k G d v) (h : flatD d = true) : flatV v = true := by
  cases r <;> first | rfl | (simp [flatD] at h; done)
theorem RDs.flat {G : Hp} : ∀ {ds : List D} {vs : List V}, RDs k G ds vs → ds.all flatD = true → vs.all flatV = true
  | _, _, .nil, _ => rfl
  | _, _, .cons a b, h => by
    simp only [List.all_cons, Bool.and_eq_true] at h ⊢
    exact ⟨a.flat h.1, RDs.flat b h.2⟩
theorem RD.eqV {G : Hp} {d d' : D} {v v' : V} (r : RD k G d v) (r' : RD k G d' v') (h : flatD d = true) (h' : flatD d' = true) : L2.eqV v v' = deq d d' := by
  cases r <;> first | (simp [flatD] at h; done) | skip
  all_goals (cases r' <;> first | (simp [flatD] at h'; done) | (simp [L2.eqV, deq]; done))
theorem RDs.inV {G : Hp} {x : D} {u : V} (r : RD k G x u) (hx : flatD x = true) : ∀ {ds : List D} {vs : List V}, RDs k G ds vs → ds.all flatD = true → L2.inV u vs = ds.any fun z => deq z x
  | _, _, .nil, _ => rfl
  | _, _, .cons a b, h => by
    simp only [List.all_cons, Bool.and_eq_true] at h
    have ih := RDs.inV r hx b h.2
    simp only [L2.inV, List.any_cons] at ih ⊢
    rw [ih, a.eqV r h.1 hx]
theorem toPs_any (n : Nat) (x : D) (hx : dok n x = true) : ∀ {ds : List D} {m : Nat}, doks m ds = true → ((D.toPs ds).any fun z => PyData.eqv z x.toP) = ds.any fun z => deq z x
  | [], _, _ => by simp [D.toPs]
  | d :: ds, m, h => by
    simp only [doks, Bool.and_eq_true] at h
    simp only [D.toPs, List.any_cons]
    rw [toPs_any n x hx h.2, deq_eqv m n d x h.1 hx]
def signD : D → Str → Option Bool
  | .str a, z => match a.cps.toList with
    | [c] => some (decide (c ∈ z.cps.toList))
    | _ => none
  | _, _ => none
theorem signD_of {x : D} {z : Str} {b : Bool} (h : signD x z = some b) : ∃ c, x = .str ⟨#[c]⟩ ∧ b = decide (c ∈ z.cps.toList) := by
  cases x with
  | str a =>
    simp only [signD] at h
    split at h
    · rename_i c hc
      cases h
      obtain ⟨⟨l⟩⟩ := a
      cases hc
      exact ⟨c, rfl, rfl⟩
    · cases h
  | _ => simp [signD] at h
def inD' (x : D) : D → Option Bool
  | .lst ds => if flatD x && ds.all flatD then some (ds.any fun z => deq z x) else if dok 60 x && doks 59 ds then some (ds.any fun z => deq z x) else none
  | .tup ds => if flatD x && ds.all flatD then some (ds.any fun z => deq z x) else none
  | .str z => signD x z
  | _ => none
def inD (x y : D) : R D := match inD' x y with | some b => .ok (.bl b) | none => .fail
def notInD (x y : D) : R D := match inD' x y with | some b => .ok (.bl (!b)) | none => .fail
def rSign (neg : Bool) : R2 := fun x y H Q => ∃ (c : Nat) (z : Str), x = .str ⟨#[c]⟩ ∧ y = .str z ∧ Q (.bl (if neg = true then !decide (c ∈ z.cps.toList) else decide (c ∈ z.cps.toList))) H
theorem in_go {neg : Bool} (hk : k.K = X.K) {G H : Hp} {x y : D} {u v : V} {b : Bool} {Q : VK} (e : Ex G H) (nx : Now k G H x u) (ny : Now k G H y v) (hg : inD' x y = some b) (q : Q (.bl (if neg = true then !b else b)) H) :
    (rIn X.K neg u v H Q ∨ ∃ d ds, Dp X.K H u d ∧ Dp X.K H v (.list ds) ∧ SeqAt.shaped d = true ∧ SeqAt.shaped (.list ds) = true ∧ Q (.bl (if neg = true then !(ds.any fun z => PyData.eqv z d) else ds.any fun z => PyData.eqv z d)) H) ∨ rSign neg u v H Q := by
  cases y with
  | str z =>
    simp only [inD'] at hg
    obtain ⟨c, rfl, rfl⟩ := signD_of hg
    obtain rfl := nx.str
    obtain rfl := ny.str
    exact .inr ⟨c, z, rfl, rfl, q⟩
  | lst ds =>
    simp only [inD'] at hg
    obtain ⟨a, vs, rfl, ha, r⟩ := ny.lst e
    split at hg
    · rename_i hf
      simp only [Bool.and_eq_true] at hf
      cases hg
      have rx := nx.rd e
      have r' := r.mono e
      exact .inl <| .inl ⟨a, vs, rfl, .inl (SqL.of ha), rx.flat hf.1, r'.flat hf.2, by rw [RDs.inV rx hf.1 r' hf.2]; exact q⟩
    · split at hg
      · rename_i hf
        simp only [Bool.and_eq_true] at hf
        cases hg
        have hl : dok 60 (.lst ds) = true := by simp only [dok]; exact hf.2
        have ds' : SeqAt.shaped (.list (D.toPs ds)) = true := by
          have := dok_shaped hl
          simpa only [D.toP] using this
        exact .inl <| .inr ⟨x.toP, D.toPs ds, hk ▸ (nx.rd e).dp 60 hf.1, hk ▸ .lst (SqL.of ha) ((r.mono e).dp 59 hf.2), dok_shaped hf.1, ds', by rw [toPs_any 60 x hf.1 hf.2]; exact q⟩
      · cases hg
  | tup ds =>
    simp only [inD'] at hg
    obtain ⟨a, vs, rfl, ha, r⟩ := ny.tup
    split at hg
    · rename_i hf
      simp only [Bool.and_eq_true] at hf
      cases hg
      have rx := nx.rd e
      have r' := r.mono e
      exact .inl <| .inl ⟨a, vs, rfl, .inr (hk ▸ e.sqT ha.t), rx.flat hf.1, r'.flat hf.2, by rw [RDs.inV rx hf.1 r' hf.2]; exact q⟩
    · cases hg
  | _ => simp [inD'] at hg
theorem o_notin (hk : k.K = X.K) (hu : X.A.units + 65 < cLine) : Op2 X k (compareOp .NotIn) .st notInD := by
  refine ⟨_, (op_notIn_seq.or (op_notInD hu)).or op_notIn_sign, ?_⟩
  intro G H x y u v d e nx ny hg Q q
  unfold notInD at hg
  split at hg
  · rename_i b hb
    cases hg
    exact in_go (neg := true) hk e nx ny hb (q _ G H (Step.refl e) (.bl _))
  · cases hg
end
end M
set_option Elab.async false
set_option linter.all false
set_option maxRecDepth 100000
set_option maxHeartbeats 4000000
namespace M
open PySem L2
section
variable {X : Cx} {c : Cf} {kd k1 k2 k3 : Kd} {a b e : Expr} {f g h : FE} {pos apos cpos p' : Pos} {fr : Bool} {x : Str}
def ownL (i : Nat) (S : Env) : R (List D) := match S[i]? with
  | some (some ⟨true, .lst ds⟩) => .ok ds
  | _ => .fail
theorem ownL_of {i : Nat} {S : Env} {ds : List D} (h : ownL i S = .ok ds) : S[i]? = some (some ⟨true, .lst ds⟩) := by
  unfold ownL at h
  split at h
  · cases h; assumption
  · cases h
theorem ownL_exc {i : Nat} {S : Env} {x : Exc} : ownL i S ≠ .exc x := by unfold ownL; split <;> intro h <;> cases h
def sApp (i : Nat) (f : FE) : FS := fun S => ownL i S >>= fun ds => f S >>= fun d => if ds.length < sizeLine then .ok (.nx, S.set i (some ⟨true, .lst (ds ++ [d])⟩)) else .fail
theorem s_app (i : Nat) (he : PE' X c .st e f) (hN : X.N[i]? = some x := by rfl) (hv : Vis X.env.scope x := by first | exact Or.inl rfl | exact Or.inr (Or.inl rfl) | exact Or.inr (Or.inr rfl)) (hd : (x == ("__debug__" : Str)) = false := by decide)
    (hcd : (x == ("__classdict__" : Str)) = false := by decide) (h2 : (apos.endLine == cpos.line) = true := by rfl) (h3 : starEach [e] X.env = [(false, eval e X.env)] := by rfl) (hs : swapsWith (.Call (.Attribute (.Name x p') "append" apos) [e] [] cpos) none pos.line X.env = pure false := by rfl) :
    PS' X c fr [i + 1000] (.Expr (.Call (.Attribute (.Name x p') "append" apos) [e] [] cpos) pos) (sApp i f) :=
  psI (ps_expr (pe_bm PySem.F.plainAttrs_list PySem.F.slot_list_append PySem.F.type_list_append mt_append (pe_var hN hv hd hcd) (pa_cons he pa_nil h3) rfl (by rw [h3]; rfl) h2 h3 rfl) hs) fun Dn σ H ⟨G, S, rel, p⟩ => by
    have p : PostS c fr [i + 1000] G S σ H Dn (ownL i S >>= fun ds => f S >>= fun d => if ds.length < sizeLine then .ok (.nx, S.set i (some ⟨true, .lst (ds ++ [d])⟩)) else .fail) := p
    cases e0 : ownL i S with
    | exc x => exact absurd e0 ownL_exc
    | fail => rw [e0] at p; exact p.elim
    | ok ds =>
      rw [e0, R.ok_bind] at p
      have hS := ownL_of e0
      obtain ⟨l, o, es, hg, h0, ho, ct⟩ := rel.ow i _ hS
      cases ct with
      | @lst ds' vs r =>
        refine ⟨_, es, .inl ⟨rfl, vs, SqL.of ho⟩, ?_⟩
        refine rdE_go (g := fun d => if ds.length < sizeLine then .ok (Fl.nx, S.set i (some ⟨true, .lst (ds ++ [d])⟩)) else .fail) (Post := PostS c fr [i + 1000] G S σ H Dn) rel p (fun _ z => z _) (fun z => z) fun d v G' H' sp q p1 => ?_
        by_cases hl : ds.length < sizeLine
        · rw [if_pos hl] at p1
          have rel' := rel.grow sp
          have ow : OwnAt S σ i l := ⟨⟨_, hS⟩, es⟩
          refine ⟨l, vs, v, rfl, rfl, sp.h _ _ ho, by rw [← r.length]; exact hl, p1 G' σ _ sp.g (rel'.mut ow (.lst ((r.mono sp.g).append (.cons q .nil)))) ((Frm.step (as := []) rel sp).trans (Frm.mut rel' ow))⟩
        · rw [if_neg hl] at p1; exact p1.elim
def sExt (i : Nat) (f : FE) : FS := fun S => ownL i S >>= fun ds => f S >>= fun d => match d with
  | .lst es => if ds.length + es.length ≤ sizeLine then .ok (.nx, S.set i (some ⟨true, .lst (ds ++ es)⟩)) else .fail
  | _ => .fail
theorem s_ext (i : Nat) (he : PE' X c k1 e f) (hN : X.N[i]? = some x := by rfl) (hv : Vis X.env.scope x := by first | exact Or.inl rfl | exact Or.inr (Or.inl rfl) | exact Or.inr (Or.inr rfl)) (hd : (x == ("__debug__" : Str)) = false := by decide)
    (hcd : (x == ("__classdict__" : Str)) = false := by decide) (h2 : (apos.endLine == cpos.line) = true := by rfl) (h3 : starEach [e] X.env = [(false, eval e X.env)] := by rfl) (hs : swapsWith (.Call (.Attribute (.Name x p') "extend" apos) [e] [] cpos) none pos.line X.env = pure false := by rfl) :
    PS' X c fr [i + 1000] (.Expr (.Call (.Attribute (.Name x p') "extend" apos) [e] [] cpos) pos) (sExt i f) :=
  psI (ps_expr (pe_bm PySem.F.plainAttrs_list PySem.F.slot_list_extend PySem.F.type_list_extend mt_extend (pe_var hN hv hd hcd) (pa_cons he pa_nil h3) rfl (by rw [h3]; rfl) h2 h3 rfl) hs) fun Dn σ H ⟨G, S, rel, p⟩ => by
    have p : PostS c fr [i + 1000] G S σ H Dn (ownL i S >>= fun ds => f S >>= fun d => match d with
      | .lst es => if ds.length + es.length ≤ sizeLine then .ok (.nx, S.set i (some ⟨true, .lst (ds ++ es)⟩)) else .fail
      | _ => .fail) := p
    cases e0 : ownL i S with
    | exc x => exact absurd e0 ownL_exc
    | fail => rw [e0] at p; exact p.elim
    | ok ds =>
      rw [e0, R.ok_bind] at p
      have hS := ownL_of e0
      obtain ⟨l, o, es, hg, h0, ho, ct⟩ := rel.ow i _ hS
      cases ct with
      | @lst ds' vs r =>
        refine ⟨_, es, .inl ⟨rfl, vs, SqL.of ho⟩, ?_⟩
        refine rdE_go (Post := PostS c fr [i + 1000] G S σ H Dn) rel p (fun _ z => z _) (fun z => z) fun d v G' H' sp q p1 => ?_
        cases d with
        | lst es' =>
          have p1 : PostS c fr [i + 1000] G S σ H Dn (if ds.length + es'.length ≤ sizeLine then .ok (.nx, S.set i (some ⟨true, .lst (ds ++ es')⟩)) else .fail) := p1
          by_cases hl : ds.length + es'.length ≤ sizeLine
          · rw [if_pos hl] at p1
            have rel' := rel.grow sp
            have ow : OwnAt S σ i l := ⟨⟨_, hS⟩, es⟩
            obtain ⟨m, ws, rfl, hm, rm⟩ := q.now.lst sp.gh
            refine ⟨l, m, vs, ws, rfl, rfl, sp.h _ _ ho, hm, by rw [← r.length, ← rm.length]; exact hl, p1 G' σ _ sp.g (rel'.mut ow (.lst ((r.mono sp.g).append rm))) ((Frm.step (as := []) rel sp).trans (Frm.mut rel' ow))⟩
          · rw [if_neg hl] at p1; exact p1.elim
        | _ => exact p1.elim
def sSub (i : Nat) (fj f : FE) : FS := fun S => ownL i S >>= fun ds => f S >>= fun d => fj S >>= fun j => match j with
  | .int n => match ixN ds.length n with
    | some m => .ok (.nx, S.set i (some ⟨true, .lst (ds.set m d)⟩))
    | none => .fail
  | _ => .fail
theorem s_sub (i : Nat) {ix : Expr} {fj : FE} {px ps : Pos} (he : PE' X c .st e f) (hj : PE' X c k1 ix fj) (hN : X.N[i]? = some x := by rfl) (hv : Vis X.env.scope x := by first | exact Or.inl rfl | exact Or.inr (Or.inl rfl) | exact Or.inr (Or.inr rfl)) (hd : (x == ("__debug__" : Str)) = false := by decide)
    (hcd : (x == ("__classdict__" : Str)) = false := by decide) (hsub : ∀ (v : Value), assign (.Subscript (.Name x px) ix ps) X.env v = (do let ov ← holding [v] (eval (.Name x px) X.env); let iv ← holding [v, ov] (eval ix X.env); standAt ps; holding [v, ov, iv] (setItem ov iv v); release [v, ov, iv] []) := by intro _; rfl)
    (hs : swapsWithSole [.Subscript (.Name x px) ix ps] e pos.line X.env = pure false := by rfl) (hw : swappedStores [.Subscript (.Name x px) ix ps] e X.env = pure none := by rfl) (h1 : (assignEach [.Subscript (.Name x px) ix ps] X.env).map (·.2) = [assign (.Subscript (.Name x px) ix ps) X.env] := by rfl) :
    PS' X c fr [i + 1000] (.Assign [.Subscript (.Name x px) ix ps] e pos) (sSub i fj f) :=
  psI (ps_asg he (pg_sub (pe_var hN hv hd hcd) hj set_list hsub) hs hw h1) fun Dn σ H ⟨G, S, rel, p⟩ => by
    have p : PostS c fr [i + 1000] G S σ H Dn (ownL i S >>= fun ds => f S >>= fun d => fj S >>= fun j => match j with
      | .int n => match ixN ds.length n with
        | some m => .ok (.nx, S.set i (some ⟨true, .lst (ds.set m d)⟩))
        | none => .fail
      | _ => .fail) := p
    cases e0 : ownL i S with
    | exc x => exact absurd e0 ownL_exc
    | fail => rw [e0] at p; exact p.elim
    | ok ds =>
      rw [e0, R.ok_bind] at p
      have hS := ownL_of e0
      obtain ⟨l, o, es, hg, h0, ho, ct⟩ := rel.ow i _ hS
      have ow : OwnAt S σ i l := ⟨⟨_, hS⟩, es⟩
      cases ct with
      | @lst ds' vs r =>
        refine rdE_go (Post := PostS c fr [i + 1000] G S σ H Dn) rel p (fun _ z => z _) (fun z => z) fun d v G1 H1 s1 q1 p1 => ?_
        refine ⟨_, es, ?_⟩
        refine rdE_go (Post := PostS c fr [i + 1000] G S σ H Dn) (rel.grow s1) p1 (fun _ z => z _) (fun z => z) fun j u G2 H2 s2 q2 p2 => ?_
        cases j with
        | int n =>
          obtain rfl := q2.now.int
          have p2 : PostS c fr [i + 1000] G S σ H Dn (match ixN ds.length n with
            | some m => .ok (.nx, S.set i (some ⟨true, .lst (ds.set m d)⟩))
            | none => .fail) := p2
          cases em : ixN ds.length n with
          | none => rw [em] at p2; exact p2.elim
          | some m =>
            rw [em] at p2
            have sp := s1.trans s2
            have rel' := rel.grow sp
            refine ⟨l, vs, n, m, rfl, rfl, sp.h _ _ ho, by rw [← r.length]; exact em, p2 G2 σ _ sp.g (rel'.mut ow (.lst ((r.mono sp.g).set m (RD.mono s2.g q1)))) ((Frm.step (as := []) rel sp).trans (Frm.mut rel' ow))⟩
        | _ => exact p2.elim
end
end M
set_option Elab.async false
set_option linter.all false
set_option maxRecDepth 100000
set_option maxHeartbeats 4000000
namespace M
open PySem L2
theorem zip_lookup : ∀ {nm : List Str} {vs : List V} {j : Nat} {f : Str} {v : V}, nm.Nodup → nm[j]? = some f → vs[j]? = some v → (nm.zip vs).lookup f = some v
  | [], _, j, _, _, _, h, _ => by simp at h
  | _ :: _, [], j, _, _, _, _, h => by simp at h
  | n :: nm, u :: vs, 0, f, v, _, h1, h2 => by
    simp at h1 h2; subst h1; subst h2; simp [List.lookup]
  | n :: nm, u :: vs, j + 1, f, v, hn, h1, h2 => by
    simp only [List.getElem?_cons_succ] at h1 h2
    have hne : f ≠ n := fun z => (List.nodup_cons.mp hn).1 (by rw [← z]; exact List.mem_of_getElem? h1)
    rw [List.zip_cons_cons, List.lookup_cons, beq_eq_false_iff_ne.mpr hne]
    exact zip_lookup (List.nodup_cons.mp hn).2 h1 h2
theorem zip_put : ∀ {nm : List Str} {vs : List V} {f : Str} {v : V}, nm.Nodup → nm[vs.length]? = some f → putF f v (nm.zip vs) = nm.zip (vs ++ [v])
  | [], vs, _, _, _, h => by simp at h
  | n :: nm, [], f, v, _, h => by
    simp at h; subst h
    simp [putF]
  | n :: nm, u :: vs, f, v, hn, h => by
    simp only [List.length_cons, List.getElem?_cons_succ] at h
    have hne : ¬ n = f := fun z => (List.nodup_cons.mp hn).1 (by rw [z]; exact List.mem_of_getElem? h)
    rw [List.zip_cons_cons, List.cons_append, List.zip_cons_cons, ← zip_put (List.nodup_cons.mp hn).2 h]
    simp only [putF]
    rw [if_neg hne]
structure ClsI (K : PySem.W.Frag) (k : Kn) (c : Nat) (nm : List Str) : Prop where
  ex : ∃ C, k.cl c = some (C, nm) ∧ Cls K C ∧ ∀ f, f ∈ nm → NoAttr K C f
  nd : nm.Nodup
  few : nm.length < 1000
section
variable {X : Cx} {c : Cf} {kd k1 k2 k3 : Kd} {a b e o : Expr} {f g h : FE} {pos apos cpos p' : Pos} {fr : Bool} {x : Str} {nm : List Str} {ci : Nat}
def fldD (ci j : Nat) : D → R D
  | .obj c ds => if c = ci then match ds[j]? with | some d => .ok d | none => .fail else .fail
  | _ => .fail
theorem d_fld (ci j : Nat) {fn : Str} (C : ClsI X.K c.k ci nm) (hj : nm[j]? = some fn) (he : PE' X c k1 o f) (hb : attributeBase o fn X.env (eval o X.env) = eval o X.env := by rfl) : PE' X c .st (.Attribute o fn pos) (e1 (fldD ci j) f) :=
  peI (pe_fld he hb) fun σ H Q q => e1_go (r := fun x H1 Q => ∃ a C dx fs v, x = .ref a ∧ H1 a = some (.ins C dx fs) ∧ Cls X.K C ∧ NoAttr X.K C fn ∧ fs.lookup fn = some v ∧ Q v H1) (fun G H d u r ex n hg Q p => by
    cases d with
    | obj c' ds =>
      simp only [fldD] at hg
      split at hg
      · rename_i hc
        subst hc
        split at hg
        · rename_i d' hd
          cases hg
          obtain ⟨ad, CA, dx, nm', vs, rfl, hcl, ha, hr⟩ := n.obj ex
          obtain ⟨CA', hcl', cl, na⟩ := C.ex
          rw [hcl] at hcl'; cases hcl'
          obtain ⟨v, hv, rv⟩ := hr.get hd
          exact ⟨ad, CA, dx, _, v, rfl, ha, cl, na _ (List.mem_of_getElem? hj), zip_lookup C.nd hj hv, p v G H (Step.refl ex) rv⟩
        · cases hg
      · cases hg
    | _ => simp [fldD] at hg) q
def ownO (ci i : Nat) (S : Env) : R (List D) := match S[i]? with
  | some (some ⟨true, .obj c ds⟩) => if c = ci then .ok ds else .fail
  | _ => .fail
theorem ownO_of {ci i : Nat} {S : Env} {ds : List D} (h : ownO ci i S = .ok ds) : S[i]? = some (some ⟨true, .obj ci ds⟩) := by
  unfold ownO at h
  split at h
  · split at h
    · rename_i hc; subst hc; cases h; assumption
    · cases h
  · cases h
theorem ownO_exc {ci i : Nat} {S : Env} {x : Exc} : ownO ci i S ≠ .exc x := by unfold ownO; split; split <;> intro h <;> cases h; intro h; cases h
def sFldN (ci i j : Nat) (f : FE) : FS := fun S => ownO ci i S >>= fun ds => f S >>= fun d => if ds.length = j then .ok (.nx, S.set i (some ⟨true, .obj ci (ds ++ [d])⟩)) else .fail
theorem s_fld (ci i j : Nat) {fn : Str} {px : Pos} (C : ClsI X.K c.k ci nm) (hj : nm[j]? = some fn) (he : PE' X c .st e f) (hN : X.N[i]? = some x := by rfl) (hv : Vis X.env.scope x := by first | exact Or.inl rfl | exact Or.inr (Or.inl rfl) | exact Or.inr (Or.inr rfl)) (hd : (x == ("__debug__" : Str)) = false := by decide)
    (hcd : (x == ("__classdict__" : Str)) = false := by decide) (hs : swapsWith e (some (.Attribute (.Name x px) fn p')) pos.line X.env = pure false := by rfl) : PS' X c fr [i + 1000] (.Assign [.Attribute (.Name x px) fn p'] e pos) (sFldN ci i j f) :=
  psI (ps_fld (pe_var hN hv hd hcd) he hs) fun Dn σ H ⟨G, S, rel, p⟩ => by
    have p : PostS c fr [i + 1000] G S σ H Dn (ownO ci i S >>= fun ds => f S >>= fun d => if ds.length = j then .ok (.nx, S.set i (some ⟨true, .obj ci (ds ++ [d])⟩)) else .fail) := p
    cases e0 : ownO ci i S with
    | exc x => exact absurd e0 ownO_exc
    | fail => rw [e0] at p; exact p.elim
    | ok ds =>
      rw [e0, R.ok_bind] at p
      have hS := ownO_of e0
      obtain ⟨l, ob, es, hg, h0, ho, ct⟩ := rel.ow i _ hS
      have ow : OwnAt S σ i l := ⟨⟨_, hS⟩, es⟩
      cases ct with
      | @obj _ _ CA dx nm' vs hcl hr =>
        obtain ⟨CA', hcl', cl, na⟩ := C.ex
        rw [hcl] at hcl'; cases hcl'
        refine rdE_go (g := fun d => if ds.length = j then .ok (Fl.nx, S.set i (some ⟨true, .obj ci (ds ++ [d])⟩)) else .fail) (Post := PostS c fr [i + 1000] G S σ H Dn) rel p (fun _ z => z _) (fun z => z) fun d v G1 H1 s1 q1 p1 => ?_
        by_cases hl : ds.length = j
        · rw [if_pos hl] at p1
          have rel' := rel.grow s1
          have hl2 : vs.length = j := by rw [← hr.length]; exact hl
          refine ⟨_, es, l, CA, dx, _, rfl, s1.h _ _ ho, cl, na _ (List.mem_of_getElem? hj), ?_, ?_⟩
          · rw [List.length_zip]; exact Nat.lt_of_le_of_lt (Nat.min_le_left _ _) C.few
          · rw [zip_put C.nd (by rw [hl2]; exact hj)]
            exact p1 G1 σ _ s1.g (rel'.mut ow (.obj hcl ((hr.mono s1.g).append (.cons q1 .nil)))) ((Frm.step (as := []) rel s1).trans (Frm.mut rel' ow))
        · rw [if_neg hl] at p1; exact p1.elim
end
noncomputable def less (H : Hp) (x : Addr) : Hp := fun b => open Classical in if b = x then none else H b
def PostN (k : Kn) (x : Addr) (G0 H : Hp) (Q : VK) (E : XK) : R D → Prop
  | .ok d => ∀ G' H' o, Ex G0 G' → (∀ b u, b ≠ x → H b = some u → H' b = some u) → Ex G' H' → G' x = none → (∀ b u, G' b = some u → G0 b = some u ∨ H b = none) → H' x = some o → Cont k G' d o → Q .non H'
  | .exc e => PXs ⟨k, less H x, G0, liftX E⟩ e
  | .fail => False
def SpN (k : Kn) (ci n : Nat) (den : List D → R D) : Sp := fun vs H Q E => vs.length = n ∧ ∃ x rest G0 ds C dx nm, vs = .ref x :: rest ∧ k.cl ci = some (C, nm) ∧ H x = some (.ins C dx []) ∧ G0 x = none ∧ Ex G0 H ∧ RDs k G0 ds rest ∧ PostN k x G0 H Q E (den ds)
def startN (n ci : Nat) (ds : List D) : Env := some ⟨true, .obj ci []⟩ :: (ds.map (fun d => some ⟨false, d⟩) ++ List.replicate (n - (ds.length + 1)) none)
def endN : R (Fl × Env) → R D
  | .ok (.nx, S) => match (S[(0 : Nat)]? : Option (Option Sl)) with
    | some (some ⟨true, d⟩) => .ok d
    | _ => .fail
  | .ok _ => .fail
  | .exc x => .exc x
  | .fail => .fail
def runN (n ci : Nat) (s : FS) (ds : List D) : R D := endN (s (startN n ci ds))
theorem less_self {H : Hp} {x : Addr} : less H x x = none := by unfold less; rw [if_pos rfl]
theorem less_ne {H : Hp} {x b : Addr} (h : b ≠ x) : less H x b = H b := by unfold less; rw [if_neg h]
theorem less_ex {H : Hp} {x : Addr} : Ex (less H x) H := fun b o h => by
  by_cases hb : b = x
  · subst hb; rw [less_self] at h; cases h
  · rw [less_ne hb] at h; exact h
theorem rel_startN {k : Kn} {E : XK} {H G0 : Hp} {N : List Str} {x C dx : Addr} {nm : List Str} {ci : Nat} {ds : List D} {rest : List V} (hcl : k.cl ci = some (C, nm)) (hx : H x = some (.ins C dx [])) (hg : G0 x = none) (e : Ex G0 H) (r : RDs k G0 ds rest) :
    Rel ⟨k, less H x, G0, liftX E⟩ G0 (startN N.length ci ds) (L2.start N (.ref x :: rest)) H := by
  have own : ∀ (i : Nat) (d : D), (startN N.length ci ds)[i]? = some (some ⟨true, d⟩) → i = 0 ∧ d = .obj ci [] := fun i d q => by
    unfold startN at q
    cases i with
    | zero => simp at q; exact ⟨rfl, q.symm⟩
    | succ i =>
      rw [List.getElem?_cons_succ, List.getElem?_append] at q
      split at q
      · rw [List.getElem?_map] at q
        cases h : ds[i]? <;> rw [h] at q <;> cases q
      · rw [List.getElem?_replicate] at q
        split at q <;> cases q
  have e0 : Ex G0 (less H x) := fun b o h => by rw [less_ne (ne_of_none h hg)]; exact e b o h
  refine ⟨⟨Ex.refl _, less_ex, e, fun _ _ h => .inl h⟩, by simp [startN, L2.start, r.length], fun i d q => ?_, fun i d q => ?_, fun i j a o1 o2 => ?_⟩
  · unfold startN at q
    cases i with
    | zero => simp at q
    | succ i =>
      rw [List.getElem?_cons_succ, List.getElem?_append] at q
      split at q
      · rw [List.getElem?_map] at q
        cases h : ds[i]? with
        | none => rw [h] at q; cases q
        | some d' =>
          rw [h] at q; cases q
          obtain ⟨v, h1, h2⟩ := r.get h
          refine ⟨v, ?_, h2⟩
          unfold L2.start
          rw [List.map_cons, List.cons_append, List.getElem?_cons_succ, List.getElem?_append_left (by rw [List.length_map]; exact (List.getElem?_eq_some_iff.mp h1).1), List.getElem?_map, h1]; rfl
      · rw [List.getElem?_replicate] at q
        split at q <;> cases q
  · obtain ⟨rfl, rfl⟩ := own i d q
    refine ⟨x, _, by simp [L2.start], hg, less_self, hx, ?_⟩
    have z : Cont k G0 (.obj ci []) (.ins C dx (nm.zip [])) := .obj hcl .nil
    rw [List.zip_nil_right] at z; exact z
  · obtain ⟨⟨d1, q1⟩, _⟩ := o1
    obtain ⟨⟨d2, q2⟩, _⟩ := o2
    rw [(own i d1 q1).1, (own j d2 q2).1]
theorem body_init {k : Kn} {as : List Nat} {N : List Str} {X : Cx} {body : List Stmt} {s : FS} {H : Hp} {vs : List V} {Q : VK} {E : XK} {n ci : Nat} (h0 : 0 ∉ as) (hb : ∀ H0 G0, PB' X ⟨k, H0, G0, liftX E⟩ false as body s) (q : SpN k ci n (runN N.length ci s) vs H Q E) :
    ∃ t, PSs X body t ∧ t { nx := fun _ H' => Q .non H', rt := Q } (L2.start N vs) H := by
  obtain ⟨hl, x, rest, G0, ds, C, dx, nm, rfl, hcl, hx, hg, e, r, p⟩ := q
  refine ⟨_, hb (less H x) G0, G0, _, rel_startN hcl hx hg e r, ?_⟩
  unfold runN at p
  cases e1 : s (startN N.length ci ds) with
  | exc y =>
    rw [e1] at p
    exact p
  | fail => rw [e1] at p; exact p.elim
  | ok z =>
    rw [e1] at p
    obtain ⟨fl, S1⟩ := z
    cases fl with
    | nx =>
      intro G' σ' H' ex rel fm
      have p : PostN k x G0 H Q E (match (S1[(0 : Nat)]? : Option (Option Sl)) with
        | some (some ⟨true, d⟩) => .ok d
        | _ => .fail) := p
      split at p
      · rename_i d hd
        obtain ⟨a, o, es, hg', h0', ho, ct⟩ := rel.ow 0 d hd
        have : σ'[0]? = some (some (.ref x)) := by rw [fm.sg 0 h0]; simp [L2.start]
        rw [this] at es; cases es
        refine p G' H' o ex (fun b u hb q => rel.st.h b u (by show less H x b = some u; rw [less_ne hb]; exact q)) rel.st.gh hg' (fun b u q => ?_) ho ct
        rcases rel.st.gr b u q with z | z
        · exact .inl z
        · by_cases hb : b = x
          · subst hb; rw [hg'] at q; cases q
          · exact .inr (by rw [← less_ne (H := H) hb]; exact z)
      · exact p.elim
    | bk => exact p.elim
    | ct => exact p.elim
    | rt d => exact p.elim
section
variable {P : Program} {w : World} {K : PySem.W.Frag} {mg : Str → Option Value} {base : Heap}
end
structure Mk0 (X : Cx) (k : Kn) (x : Str) (ci n : Nat) (den : List D → R D) : Prop where
  ex : ∃ (C f : Addr) (fd : FuncData) (lv : Nat) (ps : List Str) (nm : List Str), ps.length = n ∧ k.cl ci = some (C, nm) ∧ Mk X.K C f ∧ FnOk X.prog X.w X.K X.mg X.base CX0 lv f fd ps (SpN k ci n den) ∧ Room (lv + 1) X.A ∧ X.mg x = some (.ref C) ∧ Binds X.K fd ps []
section
variable {X : Cx} {c : Cf} {kd k1 k2 k3 : Kd} {a b e : Expr} {pos : Pos} {den : List D → R D} {ci : Nat}
end
end M
set_option Elab.async false
set_option linter.all false
set_option maxRecDepth 100000
set_option maxHeartbeats 4000000
namespace M
open PySem L2
section
variable {X : Cx} {k : Kn} {c : Cf} {kd k1 k2 k3 : Kd} {a b e o : Expr} {f g h : FE} {pos apos cpos p' : Pos} {fr : Bool}
theorem DpAll.zip {K : PySem.W.Frag} {H : Hp} : ∀ {xs : List V} {ds : List PyData}, DpAll K H xs ds → ∀ {us : List Value}, Vals xs us → PySem.W.EachIs (fun (u : Value) (b : V × PyData) => RelV b.1 u ∧ Dp K H b.1 b.2) us (xs.zip ds)
  | _, _, .nil, _, .nil => .nil
  | _, _, .cons a b, _, .cons r t => .cons ⟨r, a⟩ (DpAll.zip b t)
theorem EachIs.imp {α β : Type} {R R' : α → β → Prop} (h : ∀ a b, R a b → R' a b) : ∀ {as : List α} {bs : List β}, PySem.W.EachIs R as bs → PySem.W.EachIs R' as bs
  | _, _, .nil => .nil
  | _, _, .cons a b => .cons (h _ _ a) (EachIs.imp h b)
theorem each_vals : ∀ {us : List Value} {bs : List (V × PyData)}, PySem.W.EachIs (fun u b => RelV b.1 u) us bs → Vals (bs.map (·.1)) us
  | _, _, .nil => .nil
  | _, _, .cons a b => .cons a (each_vals b)
theorem DpAll.length {K : PySem.W.Frag} {H : Hp} : ∀ {xs : List V} {ds : List PyData}, DpAll K H xs ds → xs.length = ds.length
  | _, _, .nil => rfl
  | _, _, .cons _ b => by simp [DpAll.length b]
def rSrt (X : Cx) : List V → Hp → VK → Prop := fun vs H Q => ∃ a xs ds, vs = [V.ref a] ∧ SqL X.K H a xs ∧ DpAll X.K H xs ds ∧ PySem.W.AllAlike ds ∧ PySem.W.Sortable ds ∧ (∀ d, d ∈ ds → d.depth ≤ 60) ∧
  ∀ p, H p = none → Q (.ref p) (upd H p (.lst (((xs.zip ds).mergeSort (PySem.W.dataLe false (·.2))).map (·.1))))
theorem cr_srt (hu : X.A.units + 64 < cLine) : CallR X (.builtin "sorted") (rSrt X) := by
  intro pins s σ H vs us Q I r h
  obtain ⟨a, xs, ds, rfl, hs, hd, hal, hso, hdp, q⟩ := h
  obtain ⟨u, rfl, ru⟩ := vals1 r
  cases ru
  obtain ⟨its, rv, pl, hz⟩ := I.list hs
  have hlen := DpAll.length hd
  have hm : (xs.zip ds).map (·.2) = ds := by rw [List.map_snd_zip]; omega
  have ea := DpAll.zip hd rv
  refine PySem.W.sorted_data (enc := fun (b : V × PyData) => b.2) (R := fun u (b : V × PyData) => RelV b.1 u) (bs := xs.zip ds) pl.isList (EachIs.imp (fun _ _ z => z.1) ea) (EachIs.imp (fun u b z => Dp.reads I b.2 b.1 u z.2 z.1) ea) (by rw [hm]; exact hal) (by rw [hm]; exact hso) (by rw [List.length_zip]; omega) ?_ ?_
  · intro b hb
    have : b.2 ∈ ds := by rw [← hm]; exact List.mem_map.mpr ⟨b, hb, rfl⟩
    have := hdp _ this
    omega
  · intro out ho eo
    obtain ⟨m, F⟩ := I.fr
    obtain ⟨cn, _, N, _, kp⟩ := PySem.W.sorted_news (news := []) F (fun p hp => nomatch hp) its out
    have hobj := (N _ List.mem_cons_self).1
    have hv := each_vals eo
    refine ⟨.ref (s.heap.objs.size + 1), _, I.laid (a := s.heap.objs.size + 1) (t' := s.toks) (o := .lst _) kp (Nat.le_succ _) ⟨?_, out, cn, hv, hobj⟩, rfl, q _ (I.hok.fresh (Nat.le_succ _))⟩
    rw [List.length_map, List.length_mergeSort, List.length_zip]; omega
end
def dlt (x y : D) : Bool := PySem.W.dataLt x.toP y.toP
def dle (x y : D) : Bool := !dlt y x
mutual
def alikeD : D → D → Bool
  | .non, .non => true
  | .bl _, .bl _ => true
  | .int _, .int _ => true
  | .str _, .str _ => true
  | .lst xs, .lst ys => alikeDs xs ys
  | .tup xs, .tup ys => alikeDs xs ys
  | _, _ => false
def alikeDs : List D → List D → Bool
  | x :: xs, y :: ys => alikeD x y && alikeDs xs ys
  | [], _ => true
  | _ :: _, [] => true
end
mutual
theorem alikeD_of : ∀ (x y : D), alikeD x y = true → PySem.W.alike x.toP y.toP = true
  | .non, y, h => by cases y <;> first | (simp [D.toP, PySem.W.alike]; done) | (simp [alikeD] at h; done)
  | .bl _, y, h => by cases y <;> first | (simp [D.toP, PySem.W.alike]; done) | (simp [alikeD] at h; done)
  | .int _, y, h => by cases y <;> first | (simp [D.toP, PySem.W.alike]; done) | (simp [alikeD] at h; done)
  | .str _, y, h => by cases y <;> first | (simp [D.toP, PySem.W.alike]; done) | (simp [alikeD] at h; done)
  | .lst xs, y, h => by
    cases y with
    | lst ys => simp only [alikeD] at h; simp only [D.toP, PySem.W.alike]; exact alikeDs_of xs ys h
    | _ => simp [alikeD] at h
  | .tup xs, y, h => by
    cases y with
    | tup ys => simp only [alikeD] at h; simp only [D.toP, PySem.W.alike]; exact alikeDs_of xs ys h
    | _ => simp [alikeD] at h
  | .ty _, _, h => by simp [alikeD] at h
  | .dic _ _, _, h => by simp [alikeD] at h
  | .dit _ _, _, h => by simp [alikeD] at h
  | .dkf _ _, _, h => by simp [alikeD] at h
  | .dig _ _, _, h => by simp [alikeD] at h
  | .dgf _ _, _, h => by simp [alikeD] at h
  | .obj _ _, _, h => by simp [alikeD] at h
  | .scr _, _, h => by simp [alikeD] at h
  | .cls _, _, h => by simp [alikeD] at h
theorem alikeDs_of : ∀ (xs ys : List D), alikeDs xs ys = true → PySem.W.alikeAll (D.toPs xs) (D.toPs ys) = true
  | [], _, _ => by simp [D.toPs, PySem.W.alikeAll]
  | _ :: _, [], _ => by simp [D.toPs, PySem.W.alikeAll]
  | x :: xs, y :: ys, h => by
    simp only [alikeDs, Bool.and_eq_true] at h
    simp only [D.toPs, PySem.W.alikeAll, Bool.and_eq_true]
    exact ⟨alikeD_of x y h.1, alikeDs_of xs ys h.2⟩
end
def srtItem : D → Bool
  | .non => false
  | .tup [] => false
  | _ => true
def srtOk (ds : List D) : Bool := doks 59 ds && ds.all (fun x => ds.all fun y => alikeD x y) && ds.all srtItem
def srt (ds : List D) : List D := ds.mergeSort dle
theorem toPs_mem : ∀ {ds : List D} {p : PyData}, p ∈ D.toPs ds → ∃ d, d ∈ ds ∧ d.toP = p
  | [], _, h => by simp [D.toPs] at h
  | d :: ds, p, h => by
    simp only [D.toPs, List.mem_cons] at h
    rcases h with h | h
    · exact ⟨d, by simp, h.symm⟩
    · obtain ⟨d', h1, h2⟩ := toPs_mem h; exact ⟨d', by simp [h1], h2⟩
theorem doks_mem {n : Nat} : ∀ {ds : List D} {d : D}, doks n ds = true → d ∈ ds → dok n d = true
  | [], _, _, h => by simp at h
  | x :: ds, d, h, hm => by
    simp only [doks, Bool.and_eq_true] at h
    rcases List.mem_cons.mp hm with rfl | hm
    · exact h.1
    · exact doks_mem h.2 hm
theorem srt_sortable {ds : List D} (h : srtOk ds = true) : PySem.W.Sortable (D.toPs ds) := by
  unfold srtOk at h
  simp only [Bool.and_eq_true, List.all_eq_true] at h
  obtain ⟨⟨h1, h2⟩, h3⟩ := h
  cases ds with
  | nil => exact .inl fun d hd => by simp [D.toPs] at hd
  | cons d0 ds =>
    cases d0 with
    | tup xs =>
      refine .inl fun p hp => ?_
      obtain ⟨d, hd, rfl⟩ := toPs_mem hp
      have ha := h2 _ (List.mem_cons_self) d hd
      cases d with
      | tup ys =>
        have := h3 _ hd
        cases ys with
        | nil => simp [srtItem] at this
        | cons y ys => exact ⟨y.toP, D.toPs ys, by simp [D.toP, D.toPs]⟩
      | _ => simp [alikeD] at ha
    | _ =>
      refine .inr fun p hp => ?_
      obtain ⟨d, hd, rfl⟩ := toPs_mem hp
      have ha := h2 _ (List.mem_cons_self) d hd
      have hi := h3 _ hd
      cases d <;> first | (simp [alikeD] at ha; done) | (simp [srtItem] at hi; done) | (simp [D.toP]; done)
section
variable {X : Cx} {k : Kn}
theorem RDs.srt {G : Hp} {ds : List D} {vs : List V} (r : RDs k G ds vs) : RDs k G (M.srt ds) (((vs.zip (D.toPs ds)).mergeSort (PySem.W.dataLe false (·.2))).map (·.1)) := by
  have key : ∀ (bs : List (D × V)), (∀ b, b ∈ bs → RD k G b.1 b.2) → RDs k G (bs.map (·.1)) (bs.map (·.2)) := fun bs => by
    induction bs with
    | nil => intro _; exact .nil
    | cons b bs ih => intro h; exact .cons (h b (by simp)) (ih fun x hx => h x (by simp [hx]))
  have hl := r.length
  have z1 : (ds.zip vs).map (·.1) = ds := by rw [List.map_fst_zip]; omega
  have z2 : vs.zip (D.toPs ds) = (ds.zip vs).map fun b => (b.2, b.1.toP) := by
    clear r z1
    induction ds generalizing vs with
    | nil => cases vs <;> simp [D.toPs]
    | cons d ds ih =>
      cases vs with
      | nil => simp at hl
      | cons v vs => simp only [D.toPs, List.zip_cons_cons, List.map_cons]; rw [ih (by simpa using hl)]
  have e1 : M.srt ds = ((ds.zip vs).mergeSort fun a b => dle a.1 b.1).map (·.1) := by
    unfold M.srt
    rw [List.map_mergeSort (s := dle) (fun _ _ _ _ => rfl), z1]
  have e2 : ((vs.zip (D.toPs ds)).mergeSort (PySem.W.dataLe false (·.2))).map (·.1) = ((ds.zip vs).mergeSort fun a b => dle a.1 b.1).map (·.2) := by
    rw [z2, ← List.map_mergeSort (r := fun a b => dle a.1 b.1) (f := fun (b : D × V) => (b.2, b.1.toP)) (fun a _ b _ => by rw [PySem.W.dataLe_eq]; rfl), List.map_map]
    rfl
  rw [e1, e2]
  refine key _ fun b hb => ?_
  have hb : b ∈ ds.zip vs := List.mem_mergeSort.mp hb
  have : ∀ {ds : List D} {vs : List V}, RDs k G ds vs → ∀ b, b ∈ ds.zip vs → RD k G b.1 b.2 := fun {ds vs} r => by
    intro b hb
    obtain ⟨i, hi, rfl⟩ := List.mem_iff_getElem.mp hb
    rw [List.getElem_zip]
    have h1 : i < ds.length := by rw [List.length_zip] at hi; omega
    obtain ⟨v, hv, rv⟩ := r.get (List.getElem?_eq_getElem h1)
    have h2 : i < vs.length := by rw [List.length_zip] at hi; omega
    rw [List.getElem?_eq_getElem h2] at hv; cases hv
    exact rv
  exact this r b hb
end
end M
set_option Elab.async false
set_option linter.all false
set_option maxRecDepth 100000
set_option maxHeartbeats 4000000
namespace M
open PySem L2
theorem _root_.L2.Room.units5 {k : Nat} {A : Around} (r : Room k A) : A.units + 65 < cLine := by have := r.un; omega
structure Callee (P : Program) (w : World) (K : PySem.W.Frag) (mg : Str → Option Value) (base : Heap) (k : Kn) (lv : Nat) (x : Str) (n : Nat) (fr : Bool) (den : List D → R D) : Prop where
  ex : ∃ (f : Addr) (fd : FuncData) (ps : List Str), ps.length = n ∧ FnOk P w K mg base CX0 lv f fd ps (SpF k fr n den) ∧ mg x = some (.ref f) ∧ PySem.W.keepIn K (.ref f) = true ∧ Binds K fd ps []
theorem Callee.at {X : Cx} {k : Kn} {lv m : Nat} {x : Str} {n : Nat} {fr : Bool} {den : List D → R D} (h : Callee X.prog X.w X.K X.mg X.base k lv x n fr den) (hr : Room m X.A) (hle : lv ≤ m) : Fn0 X k x n fr den := by
  obtain ⟨f, fd, ps, hn, h1, h2, h3, h4⟩ := h.ex
  exact ⟨f, fd, lv, ps, hn, h1, hr.mono hle, h2, h3, h4⟩
structure Gc (mg : Str → Option Value) (k : Kn) (x : Str) (d : D) : Prop where
  ex : ∃ v u, mg x = some u ∧ RelV v u ∧ ∀ G, RD k G d v
section
variable {X : Cx} {c : Cf} {k : Kn} {kd k1 k2 k3 : Kd} {a b e o : Expr} {f g h : FE} {pos apos cpos p' : Pos} {fr : Bool} {x y : Str}
def eG (d : D) : FE := fun _ => .ok d
theorem d_g {d : D} (h : Gc X.mg c.k x d) (hg : Gl X x := by rfl) (hd : (x == ("__debug__" : Str)) = false := by decide) : PE' X c .st (.Name x pos) (eG d) := by
  obtain ⟨v, u, hm, r, rd⟩ := h.ex
  exact cst_of (pe_glob hg hm r hd) rd
def eY (n : String) : FE := fun _ => .ok (.ty n)
theorem d_ty (n : String) (hm : X.mg x = none) (hv : bootBuiltins x = some (.type n) := by decide +kernel) (hg : Gl X x := by rfl) (hn : x ≠ "__name__" := by decide) (hd : (x == ("__debug__" : Str)) = false := by decide) : PE' X c .st (.Name x pos) (eY n) :=
  cst_of (pe_bltn (v := .ty n) hg hm hv rfl hn hd) fun _ => .ty n
def tyN : D → Option String
  | .non => some "NoneType"
  | .bl _ => some "bool"
  | .int _ => some "int"
  | .str _ => some "str"
  | .tup _ => some "tuple"
  | .lst _ => some "list"
  | .dic _ _ => some "dict"
  | .dit _ _ => some "dict"
  | .dkf _ _ => some "dict"
  | _ => none
theorem Now.tyX (hk : k.K = X.K) {G H : Hp} {d : D} {v : V} {n : String} (e : Ex G H) (w : Now k G H d v) (h : tyN d = some n) : TyX X.K H v (.type n) := by
  cases d <;> simp only [tyN] at h <;> first | (cases h; done) | skip
  · cases h; obtain rfl := w.non; exact .base .non
  · cases h; obtain rfl := w.bl; exact .base (.bl _)
  · cases h; obtain rfl := w.int; exact .base (.int _)
  · cases h; obtain rfl := w.str; exact .base (.str _)
  · cases h; obtain ⟨a, vs, rfl, ha, r⟩ := w.tup
    rcases e.sqU ha with q | ⟨o, its, m, q1, q2, q3⟩
    · exact .base (.tup q)
    · exact .kTuple (hk ▸ q1) q2
  · cases h; obtain ⟨a, vs, rfl, ha, r⟩ := w.lst e; exact .base (.lst ha)
  · cases h; obtain ⟨a, vs, rfl, ha, r⟩ := w.dic e; exact .base (.dK ha)
  · cases h; obtain ⟨a, vs, rfl, ha, r⟩ := w.dit e; exact .base (.dT ha)
  · cases h; obtain ⟨a, o, vs, rfl, ha, l, r⟩ := w.dkf e; exact .fDict ha
def isiD : D → D → R D
  | x, .ty b => (match tyN x with
    | some a => (match kitB a b with
      | some r => .ok (.bl r)
      | none => .fail)
    | none => .fail)
  | _, _ => .fail
theorem c_isi (hk : k.K = X.K) : ClR X k (.builtin "isinstance") .st (f2 isiD) := cl2 call_isi fun G H x v y u d e n m hg Q p => by
  unfold isiD at hg
  split at hg
  · split at hg
    · rename_i ha
      split at hg
      · rename_i hb
        cases hg; obtain rfl := m.ty
        exact ⟨v, _, _, _, _, rfl, .ty _, n.tyX hk e ha, kit_ty hb, p _ G H (Step.refl e) (.bl _)⟩
      · cases hg
    · cases hg
  · cases hg
theorem SlR.or {r r' : V → Option Int → Option Int → Hp → VK → Prop} (h : SlR X r) (h' : SlR X r') : SlR X (fun x l u H Q => r x l u H Q ∨ r' x l u H Q) := fun pins s σ H x v vl vu lo hi sl Q I rx hs h1 h2 q => by
  rcases q with q | q
  · exact h pins s σ H x v vl vu lo hi sl Q I rx hs h1 h2 q
  · exact h' pins s σ H x v vl vu lo hi sl Q I rx hs h1 h2 q
abbrev FO := Env → R (Option Int)
def PostO (c : Cf) (G : Hp) (S : Env) (σ : St) (H : Hp) (Q : Option Int → Hp → Prop) : R (Option Int) → Prop
  | .ok b => ∀ G' H', Step G H G' H' → Q b H'
  | .exc x => PX c σ x
  | .fail => False
def RdO (c : Cf) (f : FO) : TO := fun σ H Q => ∃ G S, Rel c G S σ H ∧ PostO c G S σ H Q (f S)
abbrev PO' (X : Cx) (c : Cf) (e : Option Expr) (f : FO) : Prop := PO X e (RdO c f)
def oN : FO := fun _ => .ok none
def toI : D → R (Option Int)
  | .int i => .ok (some i)
  | _ => .fail
def oS (f : FE) : FO := fun S => f S >>= toI
theorem d_on : PO' X c none oN := poI po_none fun σ H Q ⟨G, S, rel, p⟩ => p G H (Step.refl rel.st.gh)
theorem d_os (he : PE' X c k1 e f) : PO' X c (some e) (oS f) := poI (po_some he) fun σ H Q ⟨G, S, rel, p⟩ => by
  refine rdE_go (g := toI) (Post := PostO c G S σ H Q) rel p (fun _ z => z) (fun z => z) fun d v G' H' s q p1 => ?_
  cases d with
  | int i => exact ⟨i, q.now.int, p1 G' H' s⟩
  | _ => exact p1.elim
def cutL {α : Type} (xs : List α) (lo hi : Option Int) : List α := List.take (HT.sIx xs.length xs.length hi - HT.sIx xs.length 0 lo) (List.drop (HT.sIx xs.length 0 lo) xs)
def slD (x : D) (lo hi : Option Int) : R D := match x with
  | .lst xs => .ok (.lst (cutL xs lo hi))
  | .tup xs => .ok (.tup (cutL xs lo hi))
  | .str z => if z.length ≤ sizeLine then .ok (.str (cutS z lo hi)) else .fail
  | _ => .fail
def eSl (f : FE) (l h : FO) : FE := fun S => f S >>= fun x => l S >>= fun lo => h S >>= fun hi => (slD x lo hi).nox
theorem RDs.cutL {G : Hp} {ds : List D} {vs : List V} (r : RDs k G ds vs) (lo hi : Option Int) : RDs k G (M.cutL ds lo hi) (cutV vs lo hi) := by
  unfold M.cutL cutV
  rw [← r.length]
  exact (r.drop _).take _
theorem rdO_go {f : FO} {G H : Hp} {S : Env} {σ : St} {Q : Option Int → Hp → Prop} {β : Type} {g : Option Int → R β} {Post : R β → Prop} (r : Rel c G S σ H) (p : Post (f S >>= g))
    (hx : ∀ x, Post (.exc x) → PX c σ x) (hf : Post .fail → False) (k : ∀ d G' H', Step G H G' H' → Post (g d) → Q d H') : RdO c f σ H Q := by
  refine ⟨G, S, r, ?_⟩
  cases e : f S with
  | ok d => rw [e] at p; exact fun G' H' s => k d G' H' s p
  | exc x => rw [e] at p; exact hx x p
  | fail => rw [e] at p; exact hf p
theorem d_sl {lo hi : Option Expr} {fl fh : FO} {p2 : Pos} (hk : c.k.K = X.K) (he : PE' X c k1 e f) (hl : PO' X c lo fl) (hh : PO' X c hi fh) : PE' X c .st (.Subscript e (.Slice lo hi none p2) pos) (eSl f fl fh) :=
  peI (pe_slice (SlR.or sl_list (SlR.or sl_tupA sl_str)) he hl hh) fun σ H Q ⟨G, S, rel, p⟩ => by
    refine rdE_go (g := fun x => fl S >>= fun lo => fh S >>= fun hi => (slD x lo hi).nox) (Post := PostE c .st G S σ H Q) rel p (fun _ z => z) (fun z => z) fun d v G1 H1 s1 q1 p1 => ?_
    refine rdO_go (g := fun lo => fh S >>= fun hi => (slD d lo hi).nox) (Post := PostE c .st G S σ H Q) (rel.grow s1) p1 (fun _ z => z) (fun z => z) fun lo G2 H2 s2 p2 => ?_
    refine rdO_go (g := fun hi => (slD d lo hi).nox) (Post := PostE c .st G S σ H Q) ((rel.grow s1).grow s2) p2 (fun _ z => z) (fun z => z) fun hi G3 H3 s3 p3 => ?_
    have n := (q1.now.grow s2).grow s3
    have sp := (s1.trans s2).trans s3
    cases d with
    | lst xs =>
      obtain ⟨a, vs, rfl, ha, r⟩ := n.lst s3.gh
      exact .inl ⟨a, vs, rfl, SqL.of ha, fun p hp => p3 _ _ _ (sp.trans (Step.new s3.gh hp)) (.lst upd_same ((r.cutL lo hi).mono (Ex.new (s3.gh.free hp))))⟩
    | tup xs =>
      obtain ⟨a, vs, rfl, ha, r⟩ := n.tup
      refine .inr (.inl ⟨a, vs, rfl, hk ▸ s3.gh.sqT ha.t, fun z => ?_, fun _ p hp => p3 _ _ _ (sp.trans (Step.new s3.gh hp)) (.tup (SqU.of upd_same) ((r.cutL lo hi).mono (Ex.new (s3.gh.free hp))))⟩)
      have e1 : cutL xs lo hi = xs := by
        unfold cutL
        rw [r.length, z.1, z.2, List.drop_zero, Nat.sub_zero, ← r.length, List.take_length]
      have p3 : PostE c .st G S σ H Q (.ok (.tup (cutL xs lo hi))) := p3
      rw [e1] at p3
      exact p3 _ _ _ sp (.tup ha r)
    | str z =>
      obtain rfl := n.str
      have p3 : PostE c .st G S σ H Q (if z.length ≤ sizeLine then .ok (.str (cutS z lo hi)) else .fail : R D).nox := p3
      by_cases hz : z.length ≤ sizeLine
      · rw [if_pos hz] at p3
        exact .inr (.inr ⟨z, rfl, hz, p3 _ _ _ sp (.str _)⟩)
      · rw [if_neg hz] at p3; exact p3.elim
    | _ => exact p3.elim
theorem setF_go {i : Nat} {Dn : Ends} {σ : St} {H : Hp} (q : RdS c fr [i] (sSet i f) Dn σ H) : RdE c .fr f σ H fun x H1 => gName i x σ H1 Dn.nx := by
  obtain ⟨G, S, rel, p⟩ := q
  refine rdE_go (g := fun d => .ok (Fl.nx, S.set i (some ⟨false, d⟩))) (Post := PostS c fr [i] G S σ H Dn) rel p (fun _ z => z _) (fun z => z) fun d v G' H' sp q p1 => ?_
  obtain ⟨a, o, rfl, hg, hn, ha, ct⟩ := q
  have sp2 : Step G H (upd G' a o) H' := sp.frz ha hn hg
  exact p1 _ _ H' sp2.g ((rel.grow sp2).setS i ((ct.mono (Ex.new hg)).rd upd_same)) ((Frm.step (as := []) rel sp2).trans (Frm.set i _ _))
theorem s_lcZ (i : Nat) {py spos : Pos} {tg elt iter : Expr} {t : FT} {ifs : List Expr} {scope : Scope} (own : List (Str × Nat)) {ki gs : List Nat} {fi : FI} {ga : FG} {fe : FE} (hc : X.calm = true) (hN : X.N.Nodup) (hi : PI' X c ki tg iter fi) (ok : BlkOk X.N X.env.scope scope own)
    (hg : ∀ (s : Shared) (H : Hp) (C : Addr) (cl : List (Str × Addr)) (fp : List Addr), PG' (X.blk s H scope (compEnvC scope cl C X.env) fp) c.nx gs tg ga) (ht : ∀ (s : Shared) (H : Hp) (C : Addr) (cl : List (Str × Addr)) (fp : List Addr), PTs' (X.blk s H scope (compEnvC scope cl C X.env) fp) c.nx ifs t)
    (he : ∀ (s : Shared) (H : Hp) (C : Addr) (cl : List (Str × Addr)) (fp : List Addr), PE' (X.blk s H scope (compEnvC scope cl C X.env) fp) c.nx .st elt fe) (hy : X.N[i]? = some y := by rfl) (hyl : X.env.scope.names.lookup y = some .local := by rfl)
    (hsw : swapsWith (.ListComp elt [⟨tg, iter, ifs, 0⟩] scope pos) (some (.Name y py)) spos.line X.env = pure true := by exact sw_true rfl rfl rfl (by decide +kernel)) (hgs : ∀ i, i ∈ gs → i ∈ own.map (·.2) := by decide) (hs : ∀ x, foldedSetIterable iter X.env x = pure x := by intro _; rfl) :
    PS' X c fr [i] (.Assign [.Name y py] (.ListComp elt [⟨tg, iter, ifs, 0⟩] scope pos) spos) (sSet i (lcE fi ga t fe (own.map (·.2)))) :=
  psI (ps_setLc hc hN hy hyl hsw hi ok hg ht he hs) fun Dn σ H q => lc_go (fun _ _ _ _ z => z) (fun _ _ _ z => z) (fun _ _ _ z => z) hgs (setF_go q)
def bothI : D → D → Bool
  | .int _, .int _ => true
  | _, _ => false
def sAugI (i : Nat) (o : D → D → R D) (f : FE) : FS := fun S => eV i S >>= fun x => f S >>= fun y => if bothI x y then (o x y).nox >>= fun z => .ok (.nx, S.set i (some ⟨false, z⟩)) else .fail
def putS (S : Env) : List Nat → List D → Env
  | i :: is, d :: ds => putS (S.set i (some ⟨false, d⟩)) is ds
  | _, _ => S
def sPar (is : List Nat) (fa : FA) : FS := fun S => fa S >>= fun ds => if ds.length = is.length then .ok (.nx, putS S is ds) else .fail
theorem s_par2 (i j : Nat) {fa : FA} {px py pt pt2 : Pos} {kt kk : Nat} (hN : X.N.Nodup) (ha : PA' X c false [a, b] fa) (hi : X.N[i]? = some x := by rfl) (hj : X.N[j]? = some y := by rfl) (hij : i ≠ j := by decide) (hx : X.env.scope.names.lookup x = some .local := by rfl) (hy : X.env.scope.names.lookup y = some .local := by rfl)
    (hc : X.calm = true := by rfl) (hsw : swappedStores [.Tuple [.Name x px, .Name y py] kt pt] (.Tuple [a, b] kk pt2) X.env = pure (some [x, y]) := by rfl) (hs : swapsWithSole [.Tuple [.Name x px, .Name y py] kt pt] (.Tuple [a, b] kk pt2) pos.line X.env = pure false := by rfl) :
    PS' X c fr [i, j] (.Assign [.Tuple [.Name x px, .Name y py] kt pt] (.Tuple [a, b] kk pt2) pos) (sPar [i, j] fa) :=
  psI (ps_par hc hN hi hj hij hx hy ha hsw hs) fun Dn σ H ⟨G, S, rel, p⟩ => by
    refine rdA_go (g := fun ds => if ds.length = [i, j].length then .ok (Fl.nx, putS S [i, j] ds) else .fail) (Post := PostS c fr [i, j] G S σ H Dn) rel p (fun _ z => z _) (fun z => z) fun ds vs G' H' sp q p1 => ?_
    have q : RDs c.k G' ds vs := q
    rcases q with _ | ⟨r1, _ | ⟨r2, _ | ⟨r3, r4⟩⟩⟩
    · exact p1.elim
    · exact p1.elim
    · exact ⟨_, _, rfl, p1 G' _ H' sp.g (((rel.grow sp).setS i r1).setS j r2) ((Frm.step (as := []) rel sp).trans ((Frm.set i _ _).trans (Frm.set j _ _)))⟩
    · simp only [List.length_cons, List.length_nil] at p1; rw [if_neg (by omega)] at p1; exact p1.elim
theorem s_par3 (i j l : Nat) {z : Str} {cc : Expr} {fa : FA} {px py pz pt pt2 : Pos} {kt kk : Nat} (hN : X.N.Nodup) (ha : PA' X c false [a, b, cc] fa) (hi : X.N[i]? = some x := by rfl) (hj : X.N[j]? = some y := by rfl) (hl : X.N[l]? = some z := by rfl) (hij : i ≠ j := by decide) (hil : i ≠ l := by decide) (hjl : j ≠ l := by decide)
    (hx : X.env.scope.names.lookup x = some .local := by rfl) (hy : X.env.scope.names.lookup y = some .local := by rfl) (hz : X.env.scope.names.lookup z = some .local := by rfl)
    (hc : X.calm = true := by rfl) (hsw : swappedStores [.Tuple [.Name x px, .Name y py, .Name z pz] kt pt] (.Tuple [a, b, cc] kk pt2) X.env = pure (some [x, y, z]) := by rfl) (hs : swapsWithSole [.Tuple [.Name x px, .Name y py, .Name z pz] kt pt] (.Tuple [a, b, cc] kk pt2) pos.line X.env = pure false := by rfl) :
    PS' X c fr [i, j, l] (.Assign [.Tuple [.Name x px, .Name y py, .Name z pz] kt pt] (.Tuple [a, b, cc] kk pt2) pos) (sPar [i, j, l] fa) :=
  psI (ps_par3 hc hN hi hj hl hij hil hjl hx hy hz ha hsw hs) fun Dn σ H ⟨G, S, rel, p⟩ => by
    refine rdA_go (g := fun ds => if ds.length = [i, j, l].length then .ok (Fl.nx, putS S [i, j, l] ds) else .fail) (Post := PostS c fr [i, j, l] G S σ H Dn) rel p (fun _ z => z _) (fun z => z) fun ds vs G' H' sp q p1 => ?_
    have q : RDs c.k G' ds vs := q
    rcases q with _ | ⟨r1, _ | ⟨r2, _ | ⟨r3, _ | ⟨r4, r5⟩⟩⟩⟩
    · exact p1.elim
    · exact p1.elim
    · exact p1.elim
    · exact ⟨_, _, _, rfl, p1 G' _ H' sp.g ((((rel.grow sp).setS i r1).setS j r2).setS l r3) ((Frm.step (as := []) rel sp).trans ((Frm.set i _ _).trans ((Frm.set j _ _).trans (Frm.set l _ _))))⟩
    · simp only [List.length_cons, List.length_nil] at p1; rw [if_neg (by omega)] at p1; exact p1.elim
end
end M
set_option Elab.async false
set_option linter.all false
set_option maxRecDepth 100000
set_option maxHeartbeats 4000000
namespace M
open PySem L2
section
variable {τ κ : Type}
def freshSet (w : World) : Obj := { cls := .type "set", dict := none, data := .set #[] 0 (.fresh 0 0 (!w.params.followText "set-order")) }
structure Fam (P : Program) (w : World) (K : PySem.W.Frag) (τ κ : Type) where
  ob : τ → Addr → HO
  t0 : τ
  pre : τ → V → κ → Hp → Prop
  post : τ → V → κ → τ → Prop
  new : ∀ (H : Hp) (h : Heap) (a : Addr), h.get? a = some (freshSet w) → ObjOk P w H h a (ob t0 a)
  add : ∀ (X : Cx), X.prog = P → X.w = w → X.K = K → X.A.units + 64 < cLine → ∀ (pins : List (Addr × Obj)) (s : Shared) (σ : L2.St) (H : Hp) (S : Addr) (t : τ) (y : V) (kk : κ) (u : Value) (Q : Value → Shared → Prop) (E : Value → Shared → Prop), Inv X pins σ H s → H S = some (ob t S) → RelV y u → pre t y kk H →
    (∀ t' s', post t y kk t' → Inv X pins σ (upd H S (ob t' S)) s' → Q .none s') → wpAny (model P w) X.A (call (.builtin "set.add") [.ref S, u]) Q E s
variable {X : Cx}
end
section
def asT : D → Option (List Int)
  | .tup ds => asI ds
  | _ => none
def asTs : List D → Option (List (List Int))
  | [] => some []
  | d :: ds => match asT d, asTs ds with
    | some k, some ks => some (k :: ks)
    | _, _ => none
theorem RD.asT {k : Kn} {G : Hp} {d : D} {v : V} {ns : List Int} (r : RD k G d v) (h : M.asT d = some ns) : ∃ a, v = .ref a ∧ SqU k.K G a (ns.map V.int) := by
  cases d <;> simp only [M.asT] at h <;> first | (cases h; done) | skip
  cases r with
  | tup hs hr =>
    have := asI_of hr h
    subst this
    exact ⟨_, rfl, hs⟩
end
end M
set_option Elab.async false
set_option linter.all false
set_option maxRecDepth 100000
set_option maxHeartbeats 4000000
namespace M
open PySem L2
open AutoSeq1 (wpAny_loadPart')
end M
set_option Elab.async false
set_option linter.all false
set_option maxRecDepth 100000
set_option maxHeartbeats 4000000
namespace M
open PySem L2
theorem zip_none : ∀ {nm : List Str} {vs : List V} {f : Str}, f ∉ nm → (nm.zip vs).lookup f = none
  | [], _, _, _ => by simp
  | _ :: _, [], _, _ => by simp
  | n :: nm, v :: vs, f, h => by
    simp only [List.mem_cons, not_or] at h
    rw [List.zip_cons_cons, List.lookup_cons, beq_eq_false_iff_ne.mpr h.1]
    exact zip_none h.2
def D.isObj (ci : Nat) : D → Bool
  | .obj c _ => c == ci
  | _ => false
structure Method (P : Program) (w : World) (K : PySem.W.Frag) (mg : Str → Option Value) (base : Heap) (k : Kn) (lv : Nat) (ci : Nat) (m : Str) (n : Nat) (fr : Bool) (den : List D → R D) : Prop where
  ex : ∃ (C f : Addr) (fd : FuncData) (ps nm : List Str), ps.length = n ∧ k.cl ci = some (C, nm) ∧ m ∉ nm ∧ Cls K C ∧ Meth K C m f ∧ FnOk P w K mg base CX0 lv f fd ps (SpF k fr n den) ∧ Binds K fd ps []
structure MakeK (P : Program) (w : World) (K : PySem.W.Frag) (mg : Str → Option Value) (base : Heap) (k : Kn) (lv : Nat) (x : Str) (ci n : Nat) (ks : List Str) (den : List D → R D) : Prop where
  ex : ∃ (C f : Addr) (fd : FuncData) (ps nm : List Str) (g : List Value → List Value → List Value), k.cl ci = some (C, nm) ∧ Mk K C f ∧ FnOk P w K mg base CX0 lv f fd ps (SpN k ci (n + ks.length + 1) den) ∧ mg x = some (.ref C) ∧ KBn K fd ps (n + 1) ks g (fun vs zs => vs ++ zs)
structure Maker (P : Program) (w : World) (K : PySem.W.Frag) (mg : Str → Option Value) (base : Heap) (k : Kn) (lv : Nat) (x : Str) (ci n : Nat) (den : List D → R D) : Prop where
  ex : ∃ (C f : Addr) (fd : FuncData) (ps : List Str) (nm : List Str), ps.length = n + 1 ∧ k.cl ci = some (C, nm) ∧ Mk K C f ∧ FnOk P w K mg base CX0 lv f fd ps (SpN k ci (n + 1) den) ∧ mg x = some (.ref C) ∧ Binds K fd ps []
structure Prope (P : Program) (w : World) (K : PySem.W.Frag) (mg : Str → Option Value) (base : Heap) (k : Kn) (lv : Nat) (ci : Nat) (m : Str) (fr : Bool) (den : List D → R D) : Prop where
  ex : ∃ (C p f : Addr) (fd : FuncData) (ps nm : List Str), ps.length = 1 ∧ k.cl ci = some (C, nm) ∧ Cls K C ∧ PropOf K C m p f ∧ FnOk P w K mg base CX0 lv f fd ps (SpF k fr 1 den) ∧ Binds K fd ps []
section
variable {X : Cx} {c : Cf} {k : Kn} {kd k1 k2 k3 : Kd} {a b e o : Expr} {f g h : FE} {pos apos cpos p' : Pos} {fr : Bool} {x y : Str} {den : List D → R D}
theorem rdE_mono {σ : L2.St} {H : Hp} {Q Q' : VK} (q : RdE c kd f σ H Q) (h : ∀ v H, Q v H → Q' v H) : RdE c kd f σ H Q' := by
  obtain ⟨G, S, rel, p⟩ := q
  refine ⟨G, S, rel, ?_⟩
  cases e : f S with
  | ok d => rw [e] at p; exact fun v G' H' s r => h _ _ (p v G' H' s r)
  | exc x => rw [e] at p; exact p
  | fail => rw [e] at p; exact p
def eM (ci : Nat) (den : List D → R D) (f : FE) (fa : FA) : FE := fun S => f S >>= fun o => if o.isObj ci then fa S >>= fun ds => (den (o :: ds)).nox else .fail
theorem meth_go {ci n : Nat} {C : Addr} {nm : List Str} {m : Str} {fa : FA} {σ : L2.St} {H : Hp} {Q : VK} (hcl : c.k.cl ci = some (C, nm)) (hmn : m ∉ nm) (hl : Len n fa) (q : RdE c (kdOf fr) (eM ci den f fa) σ H Q) :
    RdE c .st f σ H fun x H1 => ∃ a dx fs, x = .ref a ∧ H1 a = some (.ins C dx fs) ∧ fs.lookup m = none ∧ RdA c false fa σ H1 fun vs H2 => SpF c.k fr (n + 1) den (x :: (vs ++ [])) H2 Q E0 := by
  obtain ⟨G, S, rel, p⟩ := q
  refine rdE_go (g := fun o => if o.isObj ci then fa S >>= fun ds => (den (o :: ds)).nox else .fail) (Post := PostE c (kdOf fr) G S σ H Q) rel p (fun _ z => z) (fun z => z) fun d v G1 H1 s1 q1 p1 => ?_
  by_cases ho : d.isObj ci = true
  · rw [if_pos ho] at p1
    cases d with
    | obj c' ds =>
      have hc : c' = ci := by simpa [D.isObj] using ho
      subst hc
      have q1 : RD c.k G1 (.obj c' ds) v := q1
      cases q1 with
      | @obj _ _ ad CA dx nm' vs' hcl' hG hr =>
        rw [hcl] at hcl'; cases hcl'
        refine ⟨ad, dx, _, rfl, s1.gh _ _ hG, zip_none hmn, G1, S, rel.grow s1, ?_⟩
        cases e0 : fa S with
        | exc x => rw [e0] at p1; exact p1
        | fail => rw [e0] at p1; exact p1
        | ok as =>
          rw [e0] at p1
          intro vs G2 H2 s2 q2
          have q2 : RDs c.k G2 as vs := q2
          rw [List.append_nil]
          refine ⟨by simp [← q2.length, hl S as e0], G2, .obj c' ds :: as, s2.gh, .cons (.obj hcl (s2.g _ _ hG) (hr.mono s2.g)) q2, ?_⟩
          have p1 : PostE c (kdOf fr) G S σ H Q (den (.obj c' ds :: as)).nox := p1
          cases e1 : den (.obj c' ds :: as) with
          | ok d => rw [e1] at p1; exact fun v G' H' s3 r3 => p1 v G' H' ((s1.trans s2).trans s3) (r3.mono (s1.h.trans s2.h))
          | exc x => rw [e1] at p1; exact p1.elim
          | fail => rw [e1] at p1; exact p1.elim
    | _ => simp [D.isObj] at ho
  · rw [if_neg ho] at p1; exact p1.elim
theorem d_meth0 {lv m' : Nat} (ci : Nat) {m : Str} {pl : Sem Bool} (F : Method X.prog X.w X.K X.mg X.base c.k lv ci m 1 fr den) (hr : Room m' X.A) (hle : lv ≤ m') (ho : PE' X c .st o f)
    (ht : eval (.Call (.Attribute o m apos) [] [] pos) X.env = (do
      let ov ← eval o X.env
      standAt apos.atName
      let (f, first) ← holding [ov] (getMethod ov m pl)
      callWith pos f first (backTo pos (starEach [] X.env)) (backToKw pos (keywordEach [] X.env))) := by rfl) :
    PE' X c (kdOf fr) (.Call (.Attribute o m apos) [] [] pos) (eM ci den f fun _ => .ok []) := by
  obtain ⟨C, fa', fd, ps, nm, hn, hcl, hmn, cl, mt, ok, bd⟩ := F.ex
  refine peI (pe_meth0 ho cl mt ok (hr.mono hle) bd .nil pass0 ht) fun σ H Q q => ?_
  have z := meth_go (n := 0) (fa := fun _ => .ok []) hcl hmn (fun S ds h => by cases h; rfl) q
  refine rdE_mono z fun x H1 q1 => ?_
  obtain ⟨a, dx, fs, e1, e2, e3, q2⟩ := q1
  refine ⟨a, dx, fs, e1, e2, e3, ?_⟩
  obtain ⟨G, S, rel, p⟩ := q2
  exact p [] G H1 (Step.refl rel.st.gh) .nil
def eP (ci : Nat) (den : List D → R D) (f : FE) : FE := eM ci den f fun _ => .ok []
def fApp (fa fk : FA) : FA := fun S => fa S >>= fun as => fk S >>= fun bs => .ok (as ++ bs)
abbrev PK' (X : Cx) (c : Cf) (ks : List Keyword) (f : FA) : Prop := PK X ks (RdA c false f)
theorem pkI {ks : List Keyword} {t t' : TA} (h : PK X ks t) (i : ∀ σ H Q, t' σ H Q → t σ H Q) : PK X ks t' := ⟨fun pos pins s σ H Q I q => h.run pos pins s σ H Q I (i σ H Q q)⟩
theorem d_kn : PK' X c [] aN := pkI pk_nil fun σ H Q ⟨G, S, rel, p⟩ => p [] G H (Step.refl rel.st.gh) .nil
structure ClsT (K : PySem.W.Frag) (k : Kn) (ci : Nat) : Prop where
  ex : ∃ C nm, k.cl ci = some (C, nm) ∧ Cls K C ∧ PySem.W.findIn K (.ref C) "__class__" = some (some (.builtin "object.__class__")) ∧ PySem.W.specialIn K (.builtin "object.__class__") "__get__" = some (some (.builtin "getset_descriptor.__get__")) ∧
    PySem.W.takesIn K (.builtin "object.__class__") = some true ∧ PySem.W.mroIn K C (.type "object") = some true
def isiC (ci : Nat) : D → D → R D
  | .obj c _, .cls c' => if c = ci ∧ c' = ci then .ok (.bl true) else .fail
  | _, _ => .fail
theorem c_isiC {ci : Nat} (T : ClsT X.K k ci) : ClR X k (.builtin "isinstance") .st (f2 (isiC ci)) := cl2 call_isi fun G H x v y u d e n m hg Q p => by
  unfold isiC at hg
  split at hg
  · split at hg
    · rename_i hc
      obtain ⟨rfl, rfl⟩ := hc
      cases hg
      obtain ⟨C, nm, hcl, cl, t1, t2, t3, t4⟩ := T.ex
      obtain ⟨a, CA, dx, nm', vs, rfl, hcl', ha, r⟩ := n.obj e
      rw [hcl] at hcl'; cases hcl'
      have z : u = .ref C := by
        rcases m with m | ⟨_, _, _, _, ct⟩
        · cases m with
          | cls h1 => rw [hcl] at h1; cases h1; rfl
        · cases ct
      subst z
      exact ⟨_, _, _, _, true, rfl, .own C, .base (.ins ha cl t1 t2 t3 t4), by unfold PySem.W.kitOne; rw [if_pos (by simp)], p _ G H (Step.refl e) (.bl _)⟩
    · cases hg
  · cases hg
theorem d_callS {n : Nat} {p : Pos} {es : List Expr} {fa : FA} (F : Fn0 X c.k x n false den) (ha : PA' X c false (e :: es) fa) (hl : Len n fa) (hg : Gl X x := by rfl) (hdb : (x == ("__debug__" : Str)) = false := by decide)
    (hs : starEach (e :: es) X.env = (false, eval e X.env) :: starEach es X.env := by rfl) (hs2 : ((backTo pos (starEach es X.env)).any fun x => x.1) = false := by rfl) : PE' X c .st (.Call (.Name x p) (e :: es) [] pos) (eC den fa) := d_call F ha hl hg hdb hs hs2
theorem d_meth0S {lv m' : Nat} (ci : Nat) {m : Str} {pl : Sem Bool} (F : Method X.prog X.w X.K X.mg X.base c.k lv ci m 1 false den) (hr : Room m' X.A) (hle : lv ≤ m') (ho : PE' X c .st o f)
    (ht : eval (.Call (.Attribute o m apos) [] [] pos) X.env = (do
      let ov ← eval o X.env
      standAt apos.atName
      let (f, first) ← holding [ov] (getMethod ov m pl)
      callWith pos f first (backTo pos (starEach [] X.env)) (backToKw pos (keywordEach [] X.env))) := by rfl) :
    PE' X c .st (.Call (.Attribute o m apos) [] [] pos) (eM ci den f fun _ => .ok []) := d_meth0 ci F hr hle ho ht
theorem d_callF {n : Nat} {p : Pos} {es : List Expr} {fa : FA} (F : Fn0 X c.k x n true den) (ha : PA' X c false (e :: es) fa) (hl : Len n fa) (hg : Gl X x := by rfl) (hdb : (x == ("__debug__" : Str)) = false := by decide)
    (hs : starEach (e :: es) X.env = (false, eval e X.env) :: starEach es X.env := by rfl) (hs2 : ((backTo pos (starEach es X.env)).any fun x => x.1) = false := by rfl) : PE' X c .fr (.Call (.Name x p) (e :: es) [] pos) (eC den fa) := d_call F ha hl hg hdb hs hs2
end
end M
set_option Elab.async false
set_option linter.all false
set_option maxRecDepth 100000
set_option maxHeartbeats 4000000
namespace M
open PySem L2
def Ok {α : Type} (r : R α) (Q : α → Prop) : Prop := ∃ a, r = .ok a ∧ Q a
section
variable {α β : Type} {Q : α → Prop} {S : Env}
theorem Ok.mono {r : R α} {P : α → Prop} (h : Ok r P) (k : ∀ a, P a → Q a) : Ok r Q := by obtain ⟨a, e, p⟩ := h; exact ⟨a, e, k a p⟩
theorem ok_ok {a : α} : Ok (.ok a) Q ↔ Q a := ⟨fun ⟨_, e, q⟩ => (by cases e; exact q), fun q => ⟨a, rfl, q⟩⟩
theorem ok_bind {r : R β} {f : β → R α} : Ok (r >>= f) Q ↔ Ok r fun b => Ok (f b) Q := by
  cases r with
  | ok b => rw [ok_ok]; exact Iff.rfl
  | exc x => exact ⟨fun ⟨_, e, _⟩ => (nomatch e), fun ⟨_, e, _⟩ => (nomatch e)⟩
  | fail => exact ⟨fun ⟨_, e, _⟩ => (nomatch e), fun ⟨_, e, _⟩ => (nomatch e)⟩
theorem ok_nox {r : R α} : Ok r.nox Q ↔ Ok r Q := by
  cases r with
  | ok b => exact Iff.rfl
  | exc x => exact ⟨fun ⟨_, e, _⟩ => (nomatch e), fun ⟨_, e, _⟩ => (nomatch e)⟩
  | fail => exact Iff.rfl
theorem ok_if {c : Prop} [Decidable c] {a : R α} : Ok (if c then a else .fail) Q ↔ c ∧ Ok a Q := by
  by_cases h : c
  · rw [if_pos h]; exact ⟨fun z => ⟨h, z⟩, fun z => z.2⟩
  · rw [if_neg h]; exact ⟨fun ⟨_, e, _⟩ => (nomatch e), fun z => absurd z.1 h⟩
theorem Ok.eq {r : R α} {a : α} (h : Ok r fun x => x = a) : r = .ok a := by obtain ⟨x, e, rfl⟩ := h; exact e
end
section
variable {Q : D → Prop} {QB : Bool → Prop} {QL : List D → Prop} {QE : Env → Prop} {QS : Fl × Env → Prop} {QO : Option Int → Prop} {S : Env} {f g h : FE} {t u : FT} {fa : FA} {s r : FS} {i j : Nat} {d x y : D}
theorem k_I {i : Int} : Ok (eI i S) Q ↔ Q (.int i) := ok_ok
theorem k_S {i : Str} : Ok (eS i S) Q ↔ Q (.str i) := ok_ok
theorem k_B {i : Bool} : Ok (eB i S) Q ↔ Q (.bl i) := ok_ok
theorem k_N : Ok (eN S) Q ↔ Q .non := ok_ok
theorem k_G : Ok (eG d S) Q ↔ Q d := ok_ok
theorem k_Y {n : String} : Ok (eY n S) Q ↔ Q (.ty n) := ok_ok
def get0 (i : Nat) (S : Env) (Q : D → Prop) : Prop := match S[i]? with | some (some ⟨false, d⟩) => Q d | _ => False
def getA (i : Nat) (S : Env) (Q : D → Prop) : Prop := match S[i]? with | some (some ⟨_, d⟩) => Q d | _ => False
def get1 (i : Nat) (S : Env) (Q : D → Prop) : Prop := match S[i]? with | some (some ⟨true, d⟩) => Q d | _ => False
theorem ok_fail {α : Type} {Q : α → Prop} : Ok (.fail : R α) Q ↔ False := ⟨fun ⟨_, e, _⟩ => (nomatch e), False.elim⟩
theorem k_V : Ok (eV i S) Q ↔ get0 i S Q := by
  unfold eV get0
  cases S[i]? with
  | none => exact ok_fail
  | some o =>
    cases o with
    | none => exact ok_fail
    | some sl => obtain ⟨b, d⟩ := sl; cases b <;> first | exact ok_ok | exact ok_fail
theorem k_W : Ok (eW i S) Q ↔ getA i S Q := by
  unfold eW getA
  cases S[i]? with
  | none => exact ok_fail
  | some o =>
    cases o with
    | none => exact ok_fail
    | some sl => obtain ⟨b, d⟩ := sl; cases b <;> first | exact ok_ok | exact ok_fail
theorem k_O : Ok (eO i S) Q ↔ get1 i S Q := by
  unfold eO get1
  cases S[i]? with
  | none => exact ok_fail
  | some o =>
    cases o with
    | none => exact ok_fail
    | some sl => obtain ⟨b, d⟩ := sl; cases b <;> first | exact ok_ok | exact ok_fail
theorem g0_z {b : List (Option Sl)} {Q : D → Prop} : get0 0 (some ⟨false, d⟩ :: b) Q ↔ Q d := Iff.rfl
theorem g0_s {a : Option Sl} {b : List (Option Sl)} {Q : D → Prop} : get0 (i + 1) (a :: b) Q ↔ get0 i b Q := Iff.rfl
theorem gA_z {o : Bool} {b : List (Option Sl)} {Q : D → Prop} : getA 0 (some ⟨o, d⟩ :: b) Q ↔ Q d := Iff.rfl
theorem gA_s {a : Option Sl} {b : List (Option Sl)} {Q : D → Prop} : getA (i + 1) (a :: b) Q ↔ getA i b Q := Iff.rfl
theorem g1_z {b : List (Option Sl)} {Q : D → Prop} : get1 0 (some ⟨true, d⟩ :: b) Q ↔ Q d := Iff.rfl
theorem g1_s {a : Option Sl} {b : List (Option Sl)} {Q : D → Prop} : get1 (i + 1) (a :: b) Q ↔ get1 i b Q := Iff.rfl
theorem k_1 {o : D → R D} : Ok (e1 o f S) Q ↔ Ok (f S) fun x => Ok (o x) Q := by unfold e1; simp only [ok_bind, ok_nox]
theorem k_2 {o : D → D → R D} : Ok (e2 o f g S) Q ↔ Ok (f S) fun x => Ok (g S) fun y => Ok (o x y) Q := by unfold e2; simp only [ok_bind, ok_nox]
theorem k_n : Ok (aN S) QL ↔ QL [] := ok_ok
theorem k_c : Ok (aC f fa S) QL ↔ Ok (f S) fun x => Ok (fa S) fun xs => QL (x :: xs) := by unfold aC; simp only [ok_bind, ok_ok]
theorem k_T : Ok (eT fa S) Q ↔ Ok (fa S) fun xs => xs.length ≤ sizeLine ∧ Q (.tup xs) := by unfold eT mkT; simp only [ok_bind, ok_if, ok_ok]
theorem k_L : Ok (eL fa S) Q ↔ Ok (fa S) fun xs => xs.length ≤ sizeLine ∧ Q (.lst xs) := by unfold eL mkL; simp only [ok_bind, ok_if, ok_ok]
theorem k_C {o : List D → R D} : Ok (eC o fa S) Q ↔ Ok (fa S) fun xs => Ok (o xs) Q := by unfold eC; simp only [ok_bind, ok_nox]
theorem k_f1 {o : D → R D} : Ok (f1 o [x]) Q ↔ Ok (o x) Q := Iff.rfl
theorem k_f2 {o : D → D → R D} : Ok (f2 o [x, y]) Q ↔ Ok (o x y) Q := Iff.rfl
theorem k_App {fk : FA} : Ok (fApp fa fk S) QL ↔ Ok (fa S) fun xs => Ok (fk S) fun ys => QL (xs ++ ys) := by unfold fApp; simp only [ok_bind, ok_ok]
theorem k_M {ci : Nat} {den : List D → R D} : Ok (eM ci den f fa S) Q ↔ Ok (f S) fun o => o.isObj ci = true ∧ Ok (fa S) fun ds => Ok (den (o :: ds)) Q := by unfold eM; simp only [ok_bind, ok_if, ok_nox]
theorem k_P {ci : Nat} {den : List D → R D} : Ok (eP ci den f S) Q ↔ Ok (f S) fun o => o.isObj ci = true ∧ Ok (den [o]) Q := by unfold eP; rw [k_M]; simp only [ok_ok]
theorem ok_b {α : Type} {Q : α → Prop} {b : Bool} {a c : R α} : Ok (if b = true then a else c) Q ↔ (b = true → Ok a Q) ∧ (b = false → Ok c Q) := by cases b <;> simp
theorem k_3 {o o' : D → D → R D} : Ok (e3 o o' f g h S) Q ↔ Ok (f S) fun x => Ok (g S) fun y => Ok (o x y) fun b => Ok (toB b) fun b => (b = true → Ok (h S) fun z => Ok (o' y z) Q) ∧ (b = false → Q (.bl false)) := by
  unfold e3
  simp only [ok_bind, ok_nox, ok_b, ok_ok]
theorem k_tB : Ok (tB' f S) QB ↔ Ok (f S) fun x => Ok (toB x) QB := by unfold tB'; simp only [ok_bind]
theorem k_tT : Ok (tT' f S) QB ↔ Ok (f S) fun x => Ok (truD x) QB := by unfold tT'; simp only [ok_bind]
theorem k_toB {b : Bool} : Ok (toB (.bl b)) QB ↔ QB b := ok_ok
theorem k_tNo : Ok (tNo t S) QB ↔ Ok (t S) fun b => QB (!b) := by unfold tNo; simp only [ok_bind, ok_ok]
theorem k_tA : Ok (tA t u S) QB ↔ Ok (t S) fun b => (b = true → Ok (u S) QB) ∧ (b = false → QB false) := by unfold tA; simp only [ok_bind, ok_b, ok_ok]
theorem k_tO : Ok (tO t u S) QB ↔ Ok (t S) fun b => (b = true → QB true) ∧ (b = false → Ok (u S) QB) := by unfold tO; simp only [ok_bind, ok_b, ok_ok]
theorem k_tY : Ok (tY S) QB ↔ QB true := ok_ok
theorem k_And : Ok (eAnd f g S) Q ↔ Ok (f S) fun x => Ok (toB x) fun b => (b = true → Ok (g S) Q) ∧ (b = false → Q (.bl false)) := by unfold eAnd; simp only [ok_bind, ok_b, ok_ok]
theorem k_Or : Ok (eOr f g S) Q ↔ Ok (f S) fun x => Ok (toB x) fun b => (b = true → Q (.bl true)) ∧ (b = false → Ok (g S) Q) := by unfold eOr; simp only [ok_bind, ok_b, ok_ok]
theorem k_Not : Ok (eNot f S) Q ↔ Ok (f S) fun x => Ok (toB x) fun b => Q (.bl (!b)) := by unfold eNot; simp only [ok_bind, ok_ok]
theorem k_eIf : Ok (eIf t f g S) Q ↔ Ok (t S) fun b => (b = true → Ok (f S) Q) ∧ (b = false → Ok (g S) Q) := by unfold eIf; simp only [ok_bind, ok_b]
theorem k_nil : Ok (sNil S) QS ↔ QS (.nx, S) := ok_ok
theorem k_seq : Ok (sSeq s r S) QS ↔ Ok (s S) fun z => match z.1 with | .nx => Ok (r z.2) QS | _ => QS z := by
  unfold sSeq
  rw [ok_bind]
  apply iff_of_eq
  congr 1
  funext z
  obtain ⟨fl, S'⟩ := z
  cases fl <;> simp [ok_ok]
theorem k_set : Ok (sSet i f S) QS ↔ Ok (f S) fun d => QS (.nx, S.set i (some ⟨false, d⟩)) := by unfold sSet; simp only [ok_bind, ok_ok]
theorem k_own : Ok (sOwn i f S) QS ↔ Ok (f S) fun d => QS (.nx, S.set i (some ⟨true, d⟩)) := by unfold sOwn; simp only [ok_bind, ok_ok]
theorem k_drop : Ok (sDrop f S) QS ↔ Ok (f S) fun d => QS (.nx, S) := by unfold sDrop; simp only [ok_bind, ok_ok]
theorem k_ret : Ok (sRet f S) QS ↔ Ok (f S) fun d => QS (.rt d, S) := by unfold sRet; simp only [ok_bind, ok_ok]
theorem k_retN : Ok (sRetN S) QS ↔ QS (.rt .non, S) := ok_ok
theorem k_retO : Ok (sRetO i S) QS ↔ get1 i S fun d => QS (.rt d, S) := by unfold sRetO; simp only [ok_bind, ok_ok, k_O]
theorem k_if : Ok (sIf t s r S) QS ↔ Ok (t S) fun b => (b = true → Ok (s S) QS) ∧ (b = false → Ok (r S) QS) := by unfold sIf; simp only [ok_bind, ok_b]
theorem k_fz : Ok (sFz i s S) QS ↔ Ok (s (fzS S i)) QS := Iff.rfl
theorem fz_z {b : Bool} {l : List (Option Sl)} : fzS (some ⟨b, d⟩ :: l) 0 = some ⟨false, d⟩ :: l := by cases b <;> rfl
theorem fz_s {a : Option Sl} {l : List (Option Sl)} : fzS (a :: l) (i + 1) = a :: fzS l i := by
  unfold fzS
  rw [List.getElem?_cons_succ]
  split <;> simp [*]
theorem k_gN : Ok (gN i d S) QE ↔ QE (S.set i (some ⟨false, d⟩)) := ok_ok
theorem k_gsN : Ok (gsN [] S) QE ↔ QE S := ok_ok
theorem k_gsC {ga : FG} {gr : FGs} {ds : List D} : Ok (gsC ga gr (d :: ds) S) QE ↔ Ok (ga d S) fun S1 => Ok (gr ds S1) QE := ok_bind
theorem k_gT {n : Nat} {gr : FGs} {ds : List D} : Ok (gT n gr (.tup ds) S) QE ↔ ds.length = n ∧ Ok (gr ds S) QE := ok_if
theorem k_asg {ga : FG} : Ok (sAsg ga f S) QS ↔ Ok (f S) fun d => Ok (ga d S) fun S1 => QS (.nx, S1) := by unfold sAsg; simp only [ok_bind, ok_nox, ok_ok]
theorem k_for {fi : FI} {ga : FG} : Ok (sFor fi ga s S) QS ↔ Ok (fi S) fun ds => Ok (forF ga s ds S) QS := ok_bind
theorem k_fnil {ga : FG} : Ok (forF ga s [] S) QS ↔ QS (.nx, S) := ok_ok
theorem k_fcons {ga : FG} {ds : List D} : Ok (forF ga s (d :: ds) S) QS ↔ Ok (ga d S) fun S1 => Ok (s S1) fun z => match z.1 with
    | .nx => Ok (forF ga s ds z.2) QS
    | .ct => Ok (forF ga s ds z.2) QS
    | .bk => QS (.nx, z.2)
    | .rt d => QS (.rt d, z.2) := by
  show Ok ((ga d S).nox >>= _) QS ↔ _
  rw [ok_bind, ok_nox]
  apply iff_of_eq
  congr 1
  funext S1
  refine propext ?_
  rw [ok_bind]
  apply iff_of_eq
  congr 1
  funext z
  obtain ⟨fl, S'⟩ := z
  cases fl <;> simp [ok_ok]
theorem for_inv {ga : FG} (P : Nat → Env → Prop) : ∀ (ds : List D) (n : Nat) (S : Env), P n S → (∀ i d S, ds[i]? = some d → P (n + i) S → Ok (ga d S) fun S1 => Ok (s S1) fun z => match z.1 with
    | .nx => P (n + i + 1) z.2
    | .ct => P (n + i + 1) z.2
    | .bk => QS (.nx, z.2)
    | .rt d => QS (.rt d, z.2)) → (∀ S, P (n + ds.length) S → QS (.nx, S)) → Ok (forF ga s ds S) QS
  | [], n, S, h, _, q => ok_ok.mpr (q S h)
  | d :: ds, n, S, h, k, q => by
    rw [k_fcons]
    refine (k 0 d S rfl h).mono fun S1 h1 => h1.mono fun z hz => ?_
    have next : ∀ S', P (n + 0 + 1) S' → Ok (forF ga s ds S') QS := fun S' hp => for_inv P ds (n + 1) S' hp (fun i d' S'' hi hp => by
      have := k (i + 1) d' S'' (by simpa using hi) (by rwa [show n + (i + 1) = n + 1 + i by omega])
      rwa [show n + (i + 1) + 1 = n + 1 + i + 1 by omega] at this) fun S'' h => q S'' (by rwa [List.length_cons, show n + (ds.length + 1) = n + 1 + ds.length by omega])
    obtain ⟨fl, S'⟩ := z
    cases fl with
    | nx => exact next S' hz
    | ct => exact next S' hz
    | bk => exact hz
    | rt d => exact hz
theorem k_app : Ok (sApp i f S) QS ↔ Ok (ownL i S) fun ds => Ok (f S) fun d => ds.length < sizeLine ∧ QS (.nx, S.set i (some ⟨true, .lst (ds ++ [d])⟩)) := by unfold sApp; simp only [ok_bind, ok_if, ok_ok]
theorem oL_z {l : List (Option Sl)} {ds : List D} : Ok (ownL 0 (some ⟨true, .lst ds⟩ :: l)) QL ↔ QL ds := ok_ok
theorem oL_s {a : Option Sl} {l : List (Option Sl)} : Ok (ownL (i + 1) (a :: l)) QL ↔ Ok (ownL i l) QL := Iff.rfl
theorem k_par {is : List Nat} : Ok (sPar is fa S) QS ↔ Ok (fa S) fun ds => ds.length = is.length ∧ QS (.nx, putS S is ds) := by unfold sPar; simp only [ok_bind, ok_if, ok_ok]
theorem k_run {n : Nat} {ds : List D} : Ok (runF false n s ds) Q ↔ Ok (s (startS n ds)) fun z => match z.1 with | .rt d => Q d | .nx => Q .non | _ => False := by
  unfold runF
  cases e : s (startS n ds) with
  | ok z =>
    rw [ok_ok]
    obtain ⟨fl, S'⟩ := z
    cases fl <;> simp [endF, ok_ok, ok_fail]
  | exc x => exact ⟨fun ⟨_, e, _⟩ => (nomatch e), fun ⟨_, e, _⟩ => (nomatch e)⟩
  | fail => exact ⟨fun ⟨_, e, _⟩ => (nomatch e), fun ⟨_, e, _⟩ => (nomatch e)⟩
theorem k_runN {n ci : Nat} {ds : List D} : Ok (runN n ci s ds) Q ↔ Ok (s (startN n ci ds)) fun z => match z.1 with | .nx => get1 0 z.2 Q | _ => False := by
  unfold runN
  cases e : s (startN n ci ds) with
  | ok z =>
    rw [ok_ok]
    obtain ⟨fl, S'⟩ := z
    cases fl with
    | nx =>
      show Ok (endN (.ok (.nx, S'))) Q ↔ get1 0 S' Q
      unfold endN get1
      dsimp only
      cases S'[0]? with
      | none => exact ok_fail
      | some o =>
        cases o with
        | none => exact ok_fail
        | some sl => obtain ⟨b, d⟩ := sl; cases b <;> first | exact ok_ok | exact ok_fail
    | _ => exact ok_fail
  | exc x => exact ⟨fun ⟨_, e, _⟩ => (nomatch e), fun ⟨_, e, _⟩ => (nomatch e)⟩
  | fail => exact ⟨fun ⟨_, e, _⟩ => (nomatch e), fun ⟨_, e, _⟩ => (nomatch e)⟩
theorem k_fld {ci : Nat} : Ok (sFldN ci i j f S) QS ↔ Ok (ownO ci i S) fun ds => Ok (f S) fun d => ds.length = j ∧ QS (.nx, S.set i (some ⟨true, .obj ci (ds ++ [d])⟩)) := by unfold sFldN; simp only [ok_bind, ok_if, ok_ok]
theorem oO_z {ci : Nat} {l : List (Option Sl)} {ds : List D} : Ok (ownO ci 0 (some ⟨true, .obj ci ds⟩ :: l)) QL ↔ QL ds := by
  show Ok (if ci = ci then _ else _) QL ↔ _
  rw [if_pos rfl]; exact ok_ok
theorem k_add {a b : Int} : Ok (addD (.int a) (.int b)) Q ↔ Q (.int (a + b)) := ok_ok
theorem k_addL {a b : List D} : Ok (addD (.lst a) (.lst b)) Q ↔ a.length + b.length ≤ sizeLine ∧ Q (.lst (a ++ b)) := by show Ok (if _ then _ else _) Q ↔ _; rw [ok_if, ok_ok]
theorem k_sub {a b : Int} : Ok (subD (.int a) (.int b)) Q ↔ Q (.int (a - b)) := ok_ok
theorem k_mul {a b : Int} : Ok (mulD (.int a) (.int b)) Q ↔ (CMul a b ∨ CMulX a b) ∧ Q (.int (a * b)) := by show Ok (if _ then _ else _) Q ↔ _; rw [ok_if, ok_ok]
theorem k_div {a b : Int} : Ok (fdivD (.int a) (.int b)) Q ↔ CDiv a b ∧ Q (.int (a / b)) := by show Ok (if _ then _ else _) Q ↔ _; rw [ok_if, ok_ok]
theorem k_mod {a b : Int} : Ok (modD (.int a) (.int b)) Q ↔ 0 < b ∧ Q (.int (a % b)) := by show Ok (if _ then _ else _) Q ↔ _; rw [ok_if, ok_ok]
theorem k_pow {a b : Int} : Ok (powD (.int a) (.int b)) Q ↔ CPow a b ∧ Q (.int (a ^ b.toNat)) := by show Ok (if _ then _ else _) Q ↔ _; rw [ok_if, ok_ok]
theorem k_neg {a : Int} : Ok (negD (.int a)) Q ↔ Q (.int (-a)) := ok_ok
theorem k_lt {a b : Int} : Ok (ltD (.int a) (.int b)) Q ↔ Q (.bl (decide (a < b))) := ok_ok
theorem k_le {a b : Int} : Ok (leD (.int a) (.int b)) Q ↔ Q (.bl (decide (a ≤ b))) := ok_ok
theorem k_gt {a b : Int} : Ok (gtD (.int a) (.int b)) Q ↔ Q (.bl (decide (b < a))) := ok_ok
theorem k_ge {a b : Int} : Ok (geD (.int a) (.int b)) Q ↔ Q (.bl (decide (b ≤ a))) := ok_ok
theorem k_eqI {a b : Int} : Ok (eqD (.int a) (.int b)) Q ↔ Q (.bl (decide (a = b))) := by
  have e : eqD (.int a) (.int b) = .ok (.bl (decide (a = b))) := by
    unfold eqD; simp only [dok, deq, Bool.and_self, if_true]; rfl
  rw [e, ok_ok]
theorem k_neI {a b : Int} : Ok (neD (.int a) (.int b)) Q ↔ Q (.bl (!decide (a = b))) := by
  have e : neD (.int a) (.int b) = .ok (.bl (!decide (a = b))) := by
    unfold neD; simp only [dok, deq, Bool.and_self, if_true]; rfl
  rw [e, ok_ok]
theorem k_int {a : Int} : Ok (intD (.int a)) Q ↔ Q (.int a) := ok_ok
theorem k_intB {b : Bool} : Ok (intD (.bl b)) Q ↔ Q (.int (if b then 1 else 0)) := ok_ok
theorem k_abs {a : Int} : Ok (absD (.int a)) Q ↔ Q (.int (if a < 0 then -a else a)) := ok_ok
theorem k_lenL {a : List D} : Ok (lenD (.lst a)) Q ↔ Q (.int a.length) := ok_ok
theorem k_lenT {a : List D} : Ok (lenD (.tup a)) Q ↔ Q (.int a.length) := ok_ok
theorem k_lenC {a : List Int} : Ok (lenD (.scr a)) Q ↔ Q (.int a.length) := ok_ok
theorem k_tru {b : Bool} : Ok (truD (.bl b)) QB ↔ QB b := ok_ok
theorem k_tupL {a : List D} : Ok (tupD (.lst a)) Q ↔ Q (.tup a) := ok_ok
theorem k_tupT {a : List D} : Ok (tupD (.tup a)) Q ↔ Q (.tup a) := ok_ok
theorem k_fldD {ci j : Nat} {ds : List D} : Ok (fldD ci j (.obj ci ds)) Q ↔ ∃ d, ds[j]? = some d ∧ Q d := by
  show Ok (if ci = ci then _ else _) Q ↔ _
  rw [if_pos rfl]
  cases h : ds[j]? with
  | none => exact ⟨fun ⟨_, e, _⟩ => (nomatch e), fun ⟨_, e, _⟩ => (nomatch e)⟩
  | some d => exact ⟨fun q => ⟨d, rfl, ok_ok.mp q⟩, fun ⟨_, e, q⟩ => by cases e; exact ok_ok.mpr q⟩
theorem k_items_l {ds : List D} : Ok (itemsD (.lst ds)) QL ↔ QL ds := ok_ok
theorem k_items_t {ds : List D} : Ok (itemsD (.tup ds)) QL ↔ QL ds := ok_ok
theorem k_rng1 {j : Int} : Ok (rng1 [.int j]) QL ↔ (-(2 ^ 62) ≤ j ∧ j < 2 ^ 62) ∧ QL (rngL 0 j.toNat) := by show Ok (if _ then _ else _) QL ↔ _; rw [ok_if, ok_ok]
theorem k_ixL {xs : List D} {i : Int} : Ok (ixD (.lst xs) (.int i)) Q ↔ ∃ d, L2.atI xs i = some d ∧ Q d := by
  show Ok (match L2.atI xs i with | some d => .ok d | none => .fail) Q ↔ _
  cases L2.atI xs i with
  | none => exact ⟨fun ⟨_, e, _⟩ => (nomatch e), fun ⟨_, e, _⟩ => (nomatch e)⟩
  | some d => exact ⟨fun q => ⟨d, rfl, ok_ok.mp q⟩, fun ⟨_, e, q⟩ => by cases e; exact ok_ok.mpr q⟩
theorem k_ixT {xs : List D} {i : Int} : Ok (ixD (.tup xs) (.int i)) Q ↔ ∃ d, L2.atI xs i = some d ∧ Q d := by
  show Ok (match L2.atI xs i with | some d => .ok d | none => .fail) Q ↔ _
  cases L2.atI xs i with
  | none => exact ⟨fun ⟨_, e, _⟩ => (nomatch e), fun ⟨_, e, _⟩ => (nomatch e)⟩
  | some d => exact ⟨fun q => ⟨d, rfl, ok_ok.mp q⟩, fun ⟨_, e, q⟩ => by cases e; exact ok_ok.mpr q⟩
theorem k_ixC {xs : List Int} {i : Int} : Ok (ixD (.scr xs) (.int i)) Q ↔ ∃ d, L2.atI xs i = some d ∧ Q (.int d) := by
  show Ok (match L2.atI xs i with | some d => .ok (.int d) | none => .fail) Q ↔ _
  cases L2.atI xs i with
  | none => exact ⟨fun ⟨_, e, _⟩ => (nomatch e), fun ⟨_, e, _⟩ => (nomatch e)⟩
  | some d => exact ⟨fun q => ⟨d, rfl, ok_ok.mp q⟩, fun ⟨_, e, q⟩ => by cases e; exact ok_ok.mpr q⟩
end
theorem k_no {QS : Fl × Env → Prop} {S : Env} : Ok (sNo S) QS ↔ False := ok_fail
theorem k_guard {QS : Fl × Env → Prop} {S : Env} {t : FT} : Ok (sIf t sNo sNil S) QS ↔ Ok (t S) fun b => b = false ∧ QS (.nx, S) := by
  rw [k_if]
  apply iff_of_eq
  congr 1
  funext b
  cases b <;> simp [k_no, k_nil]
theorem seq_cut {QS : Fl × Env → Prop} {S : Env} {s r : FS} (P : Env → Prop) (h : Ok (s S) fun z => z.1 = .nx ∧ P z.2) (k : ∀ S', P S' → Ok (r S') QS) : Ok (sSeq s r S) QS := by
  rw [k_seq]
  refine h.mono fun z hz => ?_
  obtain ⟨fl, S'⟩ := z
  obtain ⟨rfl, hp⟩ := hz
  exact k S' hp
theorem mul_r {i j : Int} (h1 : -(2 ^ 64) < j) (h2 : j < 2 ^ 64) : CMul i j ∨ CMulX i j := .inl (.inr ⟨h1, h2⟩)
theorem div_c {i j : Int} (h1 : 0 < j) (h2 : j < 1073741824) : CDiv i j := ⟨h1, h2⟩
theorem atI_mem {α : Type} {xs : List α} {i : Int} {a : α} (h : L2.atI xs i = some a) : a ∈ xs := by
  unfold L2.atI at h
  cases e : ixN xs.length i with
  | none => rw [e] at h; cases h
  | some n => rw [e] at h; exact List.mem_of_getElem? h
theorem atI_lt {α : Type} {xs : List α} {i : Int} (h0 : 0 ≤ i) (h : i < xs.length) : ∃ a, L2.atI xs i = some a := by
  have hi : i.toNat < xs.length := by omega
  refine ⟨xs[i.toNat], ?_⟩
  unfold L2.atI ixN
  rw [if_pos h0, if_pos h]
  exact List.getElem?_eq_getElem hi
theorem rngL_get {lo : Int} {n i : Nat} {d : D} (h : (rngL lo n)[i]? = some d) : i < n ∧ d = .int (lo + i) := by
  unfold rngL at h
  rw [List.getElem?_map] at h
  by_cases hi : i < n
  · rw [List.getElem?_range hi] at h
    cases h
    exact ⟨hi, rfl⟩
  · rw [List.getElem?_eq_none (by simp; omega)] at h
    cases h
theorem rngL_len {lo : Int} {n : Nat} : (rngL lo n).length = n := by unfold rngL; simp
theorem size_ge : (1048576 : Nat) ≤ sizeLine := by decide
end M
namespace M
open PySem L2
theorem lc_typed {α : Type} {ga : FG} {t : FT} {fe : FE} {S : Env} (f : α → D) (p : α → Bool) (g : α → D) : ∀ (xs : List α), (∀ x ∈ xs, Ok (ga (f x) S) fun S1 => Ok (t S1) fun b => b = p x ∧ (p x = true → Ok (fe S1) fun y => y = g x)) → lcF ga t fe S (xs.map f) = .ok ((xs.filter p).map g)
  | [], _ => rfl
  | x :: xs, h => by
    have ih := lc_typed f p g xs fun y hy => h y (List.mem_cons_of_mem _ hy)
    obtain ⟨S1, e1, b, e2, rfl, k⟩ := h x (List.mem_cons_self ..)
    show ((ga (f x) S).nox >>= fun S1 => (t S1).nox >>= fun b => if b then (fe S1).nox >>= fun y => lcF ga t fe S (xs.map f) >>= fun ys => .ok (y :: ys) else lcF ga t fe S (xs.map f)) = _
    rw [e1, R.nox_ok, R.ok_bind, e2, R.nox_ok, R.ok_bind, ih]
    by_cases hp : p x = true
    · obtain ⟨y, e3, rfl⟩ := k hp
      rw [if_pos hp, e3, R.nox_ok, R.ok_bind, R.ok_bind, List.filter_cons_of_pos hp, List.map_cons]
    · rw [if_neg hp, List.filter_cons_of_neg hp]
theorem k_lc {fi : FI} {ga : FG} {t : FT} {fe : FE} {vs : List Nat} {S : Env} {Q : D → Prop} : Ok (lcE fi ga t fe vs S) Q ↔ Ok (fi S) fun ds => ds.length ≤ sizeLine ∧ Ok (lcF ga t fe (wipeS S vs) ds) fun ys => Q (.lst ys) := by
  unfold lcE; simp only [ok_bind, ok_if, ok_ok]
theorem k_lcT {α : Type} {fi : FI} {ga : FG} {t : FT} {fe : FE} {vs : List Nat} {S : Env} {Q : D → Prop} (f : α → D) (p : α → Bool) (g : α → D) (xs : List α) (hi : Ok (fi S) fun ds => ds = xs.map f) (hl : xs.length ≤ sizeLine)
    (h : ∀ x ∈ xs, Ok (ga (f x) (wipeS S vs)) fun S1 => Ok (t S1) fun b => b = p x ∧ (p x = true → Ok (fe S1) fun y => y = g x)) (q : Q (.lst ((xs.filter p).map g))) : Ok (lcE fi ga t fe vs S) Q := by
  rw [k_lc]
  obtain ⟨ds, e, rfl⟩ := hi
  refine ⟨_, e, by rwa [List.length_map], ?_⟩
  rw [lc_typed f p g xs h, ok_ok]
  exact q
theorem filter_true {α : Type} {p : α → Bool} : ∀ {xs : List α}, (∀ x ∈ xs, p x = true) → xs.filter p = xs
  | [], _ => rfl
  | x :: xs, h => by rw [List.filter_cons_of_pos (h x (List.mem_cons_self ..)), filter_true fun y hy => h y (List.mem_cons_of_mem _ hy)]
theorem k_lcM {α : Type} {fi : FI} {ga : FG} {fe : FE} {vs : List Nat} {S : Env} {Q : D → Prop} (f : α → D) (g : α → D) (xs : List α) (hi : Ok (fi S) fun ds => ds = xs.map f) (hl : xs.length ≤ sizeLine)
    (h : ∀ x ∈ xs, Ok (ga (f x) (wipeS S vs)) fun S1 => Ok (fe S1) fun y => y = g x) (q : Q (.lst (xs.map g))) : Ok (lcE fi ga tY fe vs S) Q := by
  refine k_lcT f (fun _ => true) g xs hi hl (fun x hx => (h x hx).mono fun S1 h1 => ok_ok.mpr ⟨rfl, fun _ => h1⟩) ?_
  rw [filter_true fun _ _ => rfl]
  exact q
theorem asB_mapf {α : Type} (f : α → Bool) : ∀ xs : List α, asB (xs.map fun x => .bl (f x)) = some (xs.map f)
  | [] => rfl
  | x :: xs => by simp only [List.map_cons, asB, asB_mapf f xs, Option.map_some]
theorem k_any {α : Type} (f : α → Bool) (xs : List α) {Q : D → Prop} : Ok (anyD (.lst (xs.map fun x => .bl (f x)))) Q ↔ Q (.bl (xs.any f)) := by
  have e : anyD (.lst (xs.map fun x => .bl (f x))) = .ok (.bl (xs.any f)) := by
    simp only [anyD, asB_mapf]
    rw [List.any_map]; rfl
  rw [e, ok_ok]
theorem k_all {α : Type} (f : α → Bool) (xs : List α) {Q : D → Prop} : Ok (allD (.lst (xs.map fun x => .bl (f x)))) Q ↔ Q (.bl (xs.all f)) := by
  have e : allD (.lst (xs.map fun x => .bl (f x))) = .ok (.bl (xs.all f)) := by
    simp only [allD, asB_mapf]
    rw [List.all_map]; rfl
  rw [e, ok_ok]
theorem for_typed {α : Type} {ga : FG} {s : FS} {QS : Fl × Env → Prop} (f : α → D) (P : List α → Env → Prop) (xs : List α) (S : Env) (h0 : P [] S)
    (h : ∀ (done : List α) (x : α) (rest : List α) (S : Env), xs = done ++ x :: rest → P done S → Ok (ga (f x) S) fun S1 => Ok (s S1) fun z => match z.1 with
      | .nx => P (done ++ [x]) z.2
      | .ct => P (done ++ [x]) z.2
      | .bk => QS (.nx, z.2)
      | .rt d => QS (.rt d, z.2)) (q : ∀ S, P xs S → QS (.nx, S)) : Ok (forF ga s (xs.map f) S) QS := by
  suffices H : ∀ (rest done : List α) (S : Env), xs = done ++ rest → P done S → Ok (forF ga s (rest.map f) S) QS from H xs [] S rfl h0
  intro rest
  induction rest with
  | nil => intro done S e hp; rw [List.append_nil] at e; subst e; exact ok_ok.mpr (q S hp)
  | cons x rest ih =>
    intro done S e hp
    rw [List.map_cons, k_fcons]
    refine (h done x rest S e hp).mono fun S1 h1 => h1.mono fun z hz => ?_
    obtain ⟨fl, S'⟩ := z
    have e' : xs = (done ++ [x]) ++ rest := by rw [e]; simp
    cases fl with
    | nx => exact ih (done ++ [x]) S' e' hz
    | ct => exact ih (done ++ [x]) S' e' hz
    | bk => exact hz
    | rt d => exact hz
end M
set_option Elab.async false
set_option linter.all false
set_option maxRecDepth 100000
set_option maxHeartbeats 4000000
namespace M
open PySem L2
def isStrD : D → Bool
  | .str _ => true
  | _ => false
def okCD (ds : List D) : Bool := decide (ds.length < 2) || (decide (3 < ds.length) || ds.all isStrD)
mutual
def dB (K : PySem.W.Frag) : D → Value → Bool
  | .non, .none => true
  | .bl b, .bool c => b == c
  | .int i, .int j _ => decide (i = j)
  | .str x, .str y _ => decide (x = y)
  | .tup ds, .ref a => (match K.lookup a with
    | some ⟨.type c, _, .seq its _, _⟩ => decide (c = "tuple") && (decide (its.size ≤ sizeLine) && (okCD ds && dsB K ds its.toList))
    | _ => false)
  | _, _ => false
termination_by structural d => d
def dsB (K : PySem.W.Frag) : List D → List Value → Bool
  | [], [] => true
  | d :: ds, u :: us => dB K d u && dsB K ds us
  | _, _ => false
termination_by structural ds => ds
end
theorem okCD_ok {k : Kn} {G : Hp} {ds : List D} {vs : List V} (r : RDs k G ds vs) (h : okCD ds = true) : okC vs = true := by
  have e : ∀ {ds : List D} {vs : List V}, RDs k G ds vs → ds.all isStrD = true → (vs.all fun x => match x with | .str _ => true | _ => false) = true := by
    intro ds vs r h
    induction ds generalizing vs with
    | nil => cases r; rfl
    | cons d ds ih =>
      cases r with
      | cons a b =>
        rw [List.all_cons, Bool.and_eq_true] at h
        rw [List.all_cons, ih b h.2, Bool.and_true]
        have h1 := h.1
        unfold isStrD at h1
        split at h1
        · cases a; rfl
        · cases h1
  unfold okCD at h
  unfold okC
  rw [← r.length]
  simp only [Bool.or_eq_true, decide_eq_true_eq] at h ⊢
  rcases h with h | h | h
  · exact .inl h
  · exact .inr (.inl h)
  · exact .inr (.inr (e r h))
section
variable {K : PySem.W.Frag} {cl : Nat → Option (Addr × List Str)}
mutual
theorem dB_ok : ∀ {d : D} {u : Value}, dB K d u = true → ∃ v, RelV v u ∧ ∀ G, RD ⟨K, cl⟩ G d v
  | .non, .none, _ => ⟨.non, rfl, fun _ => .non⟩
  | .bl b, .bool c, h => by simp only [dB, beq_iff_eq] at h; subst h; exact ⟨.bl b, rfl, fun _ => .bl _⟩
  | .int i, .int j t, h => by simp only [dB, decide_eq_true_eq] at h; subst h; exact ⟨.int i, ⟨t, rfl⟩, fun _ => .int _⟩
  | .str x, .str y t, h => by simp only [dB, decide_eq_true_eq] at h; subst h; exact ⟨.str x, ⟨t, rfl⟩, fun _ => .str _⟩
  | .tup ds, .ref a, h => by
    simp only [dB] at h
    split at h
    · rename_i c od its n sl e
      simp only [Bool.and_eq_true, decide_eq_true_eq] at h
      obtain ⟨h1, h2, h4, h3⟩ := h
      obtain ⟨vs, r1, r2⟩ := dsB_ok h3
      exact ⟨.ref a, rfl, fun G => .tup (.inr ⟨_, its, n, e, congrArg Value.type h1, rfl, h2, r1, okCD_ok (r2 G) h4⟩) (r2 G)⟩
    · cases h
theorem dsB_ok : ∀ {ds : List D} {us : List Value}, dsB K ds us = true → ∃ vs, Vals vs us ∧ ∀ G, RDs ⟨K, cl⟩ G ds vs
  | [], [], _ => ⟨[], .nil, fun _ => .nil⟩
  | d :: ds, u :: us, h => by
    simp only [dsB, Bool.and_eq_true] at h
    obtain ⟨v, r1, r2⟩ := dB_ok h.1
    obtain ⟨vs, q1, q2⟩ := dsB_ok h.2
    exact ⟨v :: vs, .cons r1 q1, fun G => .cons (r2 G) (q2 G)⟩
end
end
def gB (K : PySem.W.Frag) (q : Str × D) : Bool := match PySem.W.nsIn K mainGlobals q.1 with
  | some (some u) => dB K q.2 u
  | _ => false
theorem gB_ok {K : PySem.W.Frag} {h : Heap} {mg : Str → Option Value} {cl : Nat → Option (Addr × List Str)} {x : Str} {d : D} (X : K.In h) (G : h.Ns mainGlobals mg) (c : gB K (x, d) = true) : Gc mg ⟨K, cl⟩ x d := by
  unfold gB at c
  split at c
  · rename_i u e
    obtain ⟨v, r1, r2⟩ := dB_ok (cl := cl) c
    exact ⟨v, u, PySem.W.mg_of X G e, r1, r2⟩
  · cases c
theorem gcls_ok {K : PySem.W.Frag} {mg : Str → Option Value} {cl : Nat → Option (Addr × List Str)} {x : Str} {ci : Nat} {C : Addr} {nm : List Str} (h : mg x = some (.ref C)) (hc : cl ci = some (C, nm)) : Gc mg ⟨K, cl⟩ x (.cls ci) :=
  ⟨.ref C, .ref C, h, rfl, fun _ => .cls hc⟩
def tyB (K : PySem.W.Frag) (x : Str) : Bool := He.eqO (PySem.W.findIn K (.ref (He.ga K x)) "__class__") (some (some (.builtin "object.__class__"))) && (He.eqO (PySem.W.specialIn K (.builtin "object.__class__") "__get__") (some (some (.builtin "getset_descriptor.__get__"))) &&
  (decide (PySem.W.takesIn K (.builtin "object.__class__") = some true) && decide (PySem.W.mroIn K (He.ga K x) (.type "object") = some true)))
theorem tyB_ok {K : PySem.W.Frag} {cl : Nat → Option (Addr × List Str)} {x : Str} {ci : Nat} {nm : List Str} (c : tyB K x = true) (h : Cls K (He.ga K x)) (hc : cl ci = some (He.ga K x, nm)) : ClsT K ⟨K, cl⟩ ci := by
  obtain ⟨h1, h2⟩ := He.ba c
  obtain ⟨h3, h4⟩ := He.ba h2
  obtain ⟨h5, h6⟩ := He.ba h4
  exact ⟨_, nm, hc, h, He.eqO_ok h1, He.eqO_ok h3, of_decide_eq_true h5, of_decide_eq_true h6⟩
structure Fx where
  fa : List He.Fa
  gs : List (Str × D)
  ts : List Str
def Fx.ok (x : Fx) (K : PySem.W.Frag) : Bool := (x.fa.all fun f => f.ok K) && ((x.gs.all fun g => gB K g) && x.ts.all fun t => tyB K t)
def obsX (x : Fx) (fn : List He.DefD) (K : PySem.W.Frag) : He.AlD := (x.ok K && fn.all fun d => d.ok K, fn.map fun d => He.fnW K d.at_)
def SaysX (x : Fx) (fn : List He.DefD) (K : PySem.W.Frag) : Prop := obsX x fn K = He.valD fn
section
variable {x : Fx} {fn : List He.DefD} {K : PySem.W.Frag}
theorem SaysX.ok (c : SaysX x fn K) : x.ok K = true := (He.ba (show (x.ok K && fn.all fun d => d.ok K) = true from congrArg (fun z : He.AlD => z.1) c)).1
theorem SaysX.fact (c : SaysX x fn K) (i : Nat) {f : He.Fa} (h : x.fa[i]? = some f := by rfl) : f.ok K = true := List.all_eq_true.mp (He.ba c.ok).1 f (List.mem_of_getElem? h)
theorem SaysX.gc (c : SaysX x fn K) (i : Nat) {f : Str × D} (h : x.gs[i]? = some f := by rfl) : gB K f = true := List.all_eq_true.mp (He.ba (He.ba c.ok).2).1 f (List.mem_of_getElem? h)
theorem SaysX.ty (c : SaysX x fn K) (i : Nat) {f : Str} (h : x.ts[i]? = some f := by rfl) : tyB K f = true := List.all_eq_true.mp (He.ba (He.ba c.ok).2).2 f (List.mem_of_getElem? h)
theorem SaysX.def_ (c : SaysX x fn K) (i : Nat) {d : He.DefD} (h : fn[i]? = some d := by rfl) : ∃ fd, FunD K d.name d.qual d.params d.body d.scope (d.dvs K) (d.kws K) (He.fAd K d.at_) fd := by
  have c2 := (He.ba (show (x.ok K && fn.all fun d => d.ok K) = true from congrArg (fun z : He.AlD => z.1) c)).2
  have e : fn.map (fun d => He.fnW K d.at_) = fn.map He.DefD.val := congrArg (fun z : He.AlD => z.2) c
  have e2 : (fn.map fun d => He.fnW K d.at_)[i]? = (fn.map He.DefD.val)[i]? := by rw [e]
  rw [List.getElem?_map, List.getElem?_map, h] at e2
  exact He.DefD.funD (Option.some.inj e2) (List.all_eq_true.mp c2 d (List.mem_of_getElem? h))
end
theorem walk_ofX {l : PySem.W.OpenLaw} {n k : Nat} {q : Program} {loose : List Str} {XP : (Str → Option Value) → Heap → Prop} {YP : World → Heap → Prop} {d : DefRec} {x : Str} {den : List D → R D}
    (hn : l.most = some n) (hn2 : n ≤ sizeLine) (hdf : d.params.defaults = []) (hr : Room k callerA)
    (F : ∀ (w : World) (mg : Str → Option Value) (fa : Addr) (h : Heap), YP w h → h.Ns mainGlobals mg → mg d.name = some (.ref fa) →
      ∃ (K : PySem.W.Frag) (fd : FuncData) (cl : Nat → Option (Addr × List Str)), K.In h ∧ (∀ (s : Shared) (u : Value), BindsTo s fd ⟨[u], []⟩ [(x, u)]) ∧
        ∀ base : Heap, K.In base → base.Ns mainGlobals mg → FnOk l.prog w K mg base CX0 k fa fd [x] (SpF ⟨K, cl⟩ false 1 den))
    (pure_ : ∀ ns : List Int, ns.length ≤ n → (∀ z ∈ ns, Builtin.Int.intBits z ≤ 1048576) → den [.scr ns] = .ok (.bl true)) :
    PySem.W.WalkO q loose XP YP l.row.toRowW d [] (fun f vs => PySem.call f vs) := by
  refine Att.attach_callB hn hdf fun w s₀ s₁ mg mb fa o pm cd doc a vs ns G Y ho hd hcd hmg hobj hints hlen hbits hg => ?_
  obtain ⟨K, fd, cl, KX, hb, hF⟩ := F w mg fa _ Y G.T.g hmg
  refine law_call KX G.T.g G.T.b G.T.builtins G.T.nolimit hg hobj hints (Nat.le_trans hlen hn2) hr hF hb (fun H hO hS => ?_) fun H e s' z => z
  refine ⟨rfl, H, [.scr ns], Ex.refl H, .cons (.scr hS) .nil, ?_⟩
  rw [pure_ ns hlen hbits]
  intro v G' H' s r
  have r : RD ⟨K, cl⟩ G' (.bl true) v := r
  cases r
  rfl
end M
set_option Elab.async false
set_option linter.all false
set_option maxRecDepth 100000
set_option maxHeartbeats 4000000
namespace M
open PySem L2
inductive Wh where
  | glo (x : Str) | met (C m : Str) | pro (C m : Str) | cme (C m : Str)
def innA (K : PySem.W.Frag) (T : String) (p : Addr) : Addr := match PySem.W.recIn K p T with
  | some (.ref g :: _) => g
  | _ => 0
def Wh.ad (K : PySem.W.Frag) : Wh → Addr
  | .glo x => He.ga K x
  | .met C m => He.ma K (He.ga K C) m
  | .pro C m => innA K "property" (He.ma K (He.ga K C) m)
  | .cme C m => He5.wf K (He.ga K C) "classmethod" m
structure Dx where
  w : Wh
  d : He.DefD
def seenF : FuncData → He.FnW := fun z => some (z.name, z.qualname, z.params, z.body, z.scope, z.globals, z.closure, z.builtins)
def Dx.look (K : PySem.W.Frag) (x : Dx) : Option FuncData := (K.lookup (x.w.ad K)).bind fun o => match o.data with
  | .func z => some z
  | _ => none
def Dx.seen (K : PySem.W.Frag) (x : Dx) : He.FnW := (x.look K).bind seenF
def Dx.good (K : PySem.W.Frag) (x : Dx) : Bool := PySem.W.keepIn K (.ref (x.w.ad K)) && ((x.look K).map fun z => PySem.W.codeIn K z.code x.d.qual && (He.dflB K z.defaults (x.d.dvs K) && He.kwdB K z.kwdefaults (x.d.kws K))).getD false
theorem Dx.fund {K : PySem.W.Frag} {x : Dx} (e : x.seen K = x.d.val) (c : x.good K = true) : ∃ z, FunD K x.d.name x.d.qual x.d.params x.d.body x.d.scope (x.d.dvs K) (x.d.kws K) (x.w.ad K) z := by
  obtain ⟨kp, c2⟩ := He.ba c
  cases hl : x.look K with
  | none => rw [hl] at c2; cases c2
  | some z =>
    rw [hl] at c2
    have c3 : (PySem.W.codeIn K z.code x.d.qual && (He.dflB K z.defaults (x.d.dvs K) && He.kwdB K z.kwdefaults (x.d.kws K))) = true := c2
    have e2 : seenF z = x.d.val := by
      unfold Dx.seen at e
      rw [hl] at e
      exact e
    obtain ⟨a1, a2⟩ := He.ba c3
    obtain ⟨a3, a4⟩ := He.ba a2
    have hk : ∃ oc od osl, K.lookup (x.w.ad K) = some ⟨oc, od, .func z, osl⟩ := by
      unfold Dx.look at hl
      cases q : K.lookup (x.w.ad K) with
      | none => rw [q] at hl; cases hl
      | some o =>
        rw [q] at hl
        obtain ⟨oc, od, dt, osl⟩ := o
        cases dt with
        | func y => cases hl; exact ⟨oc, od, osl, rfl⟩
        | _ => cases hl
    obtain ⟨oc, od, osl, hk⟩ := hk
    obtain ⟨y1, y2, y3, y4, y5, y6, y7, y8, y9, y10, y11, y12, y13, y14, y15⟩ := z
    simp only [seenF, He.DefD.val, Option.some.injEq, Prod.mk.injEq] at e2
    obtain ⟨b1, b2, b3, b4, b5, b6, b7, b8⟩ := e2
    subst b1 b2 b3 b4 b5 b6 b7 b8
    exact ⟨_, ⟨oc, od, y8, y9, y10, y11, y12, y13, y14, osl, rfl, hk, a1, He.dflB_ok a3, He.kwdB_ok a4⟩, kp⟩
def proB (K : PySem.W.Frag) (q : Str × Str) : Bool :=
  He.eqO (PySem.W.findIn K (.ref (He.ga K q.1)) q.2) (some (some (.ref (He.ma K (He.ga K q.1) q.2)))) && (He.eqO (PySem.W.specialIn K (.ref (He.ma K (He.ga K q.1) q.2)) "__get__") (some (some (.builtin "property.__get__"))) &&
    (decide (PySem.W.takesIn K (.ref (He.ma K (He.ga K q.1) q.2)) = some true) && (match PySem.W.recIn K (He.ma K (He.ga K q.1) q.2) "property" with | some (.ref _ :: _) => true | _ => false)))
structure Fy where
  fa : List He.Fa
  gs : List (Str × D)
  ts : List Str
  ps : List (Str × Str)
def Fy.ok (x : Fy) (K : PySem.W.Frag) : Bool := (x.fa.all fun f => f.ok K) && ((x.gs.all fun g => gB K g) && ((x.ts.all fun t => tyB K t) && x.ps.all fun p => proB K p))
def obsY (x : Fy) (fn : List Dx) (K : PySem.W.Frag) : He.AlD := (x.ok K && fn.all fun d => d.good K, fn.map fun d => d.seen K)
def valY (fn : List Dx) : He.AlD := (true, fn.map fun d => d.d.val)
def SaysY (x : Fy) (fn : List Dx) (K : PySem.W.Frag) : Prop := obsY x fn K = valY fn
section
variable {x : Fy} {fn : List Dx} {K : PySem.W.Frag}
theorem SaysY.both (c : SaysY x fn K) : (x.ok K && fn.all fun d => d.good K) = true := congrArg Prod.fst c
theorem SaysY.ok (c : SaysY x fn K) : x.ok K = true := (He.ba c.both).1
theorem SaysY.fact (c : SaysY x fn K) (i : Nat) {f : He.Fa} (h : x.fa[i]? = some f := by rfl) : f.ok K = true := List.all_eq_true.mp (He.ba c.ok).1 f (List.mem_of_getElem? h)
theorem SaysY.gc (c : SaysY x fn K) (i : Nat) {f : Str × D} (h : x.gs[i]? = some f := by rfl) : gB K f = true := List.all_eq_true.mp (He.ba (He.ba c.ok).2).1 f (List.mem_of_getElem? h)
theorem SaysY.ty (c : SaysY x fn K) (i : Nat) {f : Str} (h : x.ts[i]? = some f := by rfl) : tyB K f = true := List.all_eq_true.mp (He.ba (He.ba (He.ba c.ok).2).2).1 f (List.mem_of_getElem? h)
theorem SaysY.pro (c : SaysY x fn K) (i : Nat) {f : Str × Str} (h : x.ps[i]? = some f := by rfl) : proB K f = true := List.all_eq_true.mp (He.ba (He.ba (He.ba c.ok).2).2).2 f (List.mem_of_getElem? h)
theorem SaysY.def_ (c : SaysY x fn K) (i : Nat) {d : Dx} (h : fn[i]? = some d := by rfl) : ∃ z, FunD K d.d.name d.d.qual d.d.params d.d.body d.d.scope (d.d.dvs K) (d.d.kws K) (d.w.ad K) z := by
  have e : fn.map (fun d => d.seen K) = fn.map fun d => d.d.val := congrArg Prod.snd c
  have e2 := congrArg (fun l : List He.FnW => l[i]?) e
  simp only [List.getElem?_map, h, Option.map_some, Option.some.injEq] at e2
  exact Dx.fund e2 (List.all_eq_true.mp (He.ba c.both).2 d (List.mem_of_getElem? h))
end
end M
set_option Elab.async false
set_option linter.all false
set_option maxRecDepth 100000
set_option maxHeartbeats 4000000
namespace M
open PySem L2
section
variable {X : Cx} {c : Cf} {kd k1 k2 : Kd} {a b e o : Expr} {f g : FE} {pos apos : Pos} {k : Kn}
end
end M
namespace M
open PySem L2
section
variable {X : Cx} {c : Cf} {k1 k2 : Kd} {a b e : Expr} {f g : FE} {pos p p2 pos2 : Pos} {k : Kn}
instance (a b : Int) : Decidable (RgOk a b) := by unfold RgOk; infer_instance
abbrev FRg := Env → R (Int × Int)
def rg1 (f : FE) : FRg := fun S => f S >>= fun x => match x with | .int n => .ok (0, n) | _ => .fail
def PostRg (c : Cf) (G : Hp) (S : Env) (σ : St) (H : Hp) (Q : Int → Int → Hp → Prop) : R (Int × Int) → Prop
  | .ok (i, j) => ∀ G' H', Step G H G' H' → Q i j H'
  | .exc x => PX c σ x
  | .fail => False
def RdRg (c : Cf) (r : FRg) : St → Hp → (Int → Int → Hp → Prop) → Prop := fun σ H Q => ∃ G S, Rel c G S σ H ∧ PostRg c G S σ H Q (r S)
theorem prgI {t t' : St → Hp → (Int → Int → Hp → Prop) → Prop} (h : PRg X e t) (i : ∀ σ H Q, t' σ H Q → t σ H Q) : PRg X e t' := fun pins s σ H Q I q => h pins s σ H Q I (i σ H Q q)
theorem d_rg1 (hm : X.mg "range" = none) (ha : PE' X c k1 a f) (hg : Gl X "range" := by rfl) (na : starEach [a] X.env = (false, eval a X.env) :: starEach [] X.env := by rfl) : PRg X (.Call (.Name "range" p) [a] [] pos) (RdRg c (rg1 f)) :=
  prgI (prg_1 hg hm ha na) fun σ H Q ⟨G, S, rel, q⟩ => by
    refine rdE_go (g := fun x => match x with | .int n => .ok ((0 : Int), n) | _ => .fail) (Post := PostRg c G S σ H Q) rel q (fun _ z => z) (fun z => z) fun d v G' H' s r p1 => ?_
    cases d with
    | int n => exact ⟨n, r.now.int, p1 G' H' s⟩
    | _ => exact p1.elim
def rgD (a b : Int) : List D := (List.range (b - a).toNat).map fun (i : Nat) => .int (a + i)
theorem RDs.rg {G : Hp} (a b : Int) : RDs k G (rgD a b) (rgV a b) := by
  unfold rgD rgV
  induction (List.range (b - a).toNat) with
  | nil => exact .nil
  | cons x xs ih => exact .cons (.int _) ih
def eLstRg (r : FRg) : FE := fun S => r S >>= fun z => if RgOk z.1 z.2 then .ok (.lst (rgD z.1 z.2)) else .fail
theorem d_lstRg {r : FRg} (hc : X.calm = true) (hm : X.mg "list" = none) (he : PRg X e (RdRg c r)) (hg : Gl X "list" := by rfl) (na : starEach [e] X.env = (false, eval e X.env) :: starEach [] X.env := by rfl) : PE' X c .fr (.Call (.Name "list" p) [e] [] pos) (eLstRg r) :=
  peI (pe_listRg hc hg hm he na) fun σ H Q ⟨G, S, rel, q⟩ => by
    refine ⟨G, S, rel, ?_⟩
    have q : PostE c .fr G S σ H Q (r S >>= fun z => if RgOk z.1 z.2 then .ok (.lst (rgD z.1 z.2)) else .fail) := q
    cases e1 : r S with
    | exc x => rw [e1] at q; exact q
    | fail => rw [e1] at q; exact q
    | ok z =>
      rw [e1, R.ok_bind] at q
      intro G' H' s
      by_cases hl : RgOk z.1 z.2
      · rw [if_pos hl] at q
        exact ⟨hl, fun w hw => q _ G' _ (s.trans (Step.new' s.gh hw)) ⟨w, _, rfl, s.gh.free hw, s.h.free hw, upd_same, .lst (RDs.rg _ _)⟩⟩
      · rw [if_neg hl] at q; exact q.elim
end
end M
set_option Elab.async false
set_option linter.all false
set_option maxRecDepth 100000
set_option maxHeartbeats 4000000
namespace M
open PySem L2
def tabGet (tab : List (Str × Int)) (z : Str) : Option Int := (tab.find? fun p => p.1 == z).map (·.2)
structure KTab (K : PySem.W.Frag) (w : World) (mg : Str → Option Value) (x : Str) (tab : List (Str × Int)) : Prop where
  ex : ∃ d es n, mg x = some (.ref d) ∧ KDict K w d es n ∧ ∀ z, ∃ r, PySem.W.nsIn K d z = some r ∧ match tabGet tab z with
    | some i => ∃ t, r = some (.int i t)
    | none => r = none
section
variable {X : Cx} {c : Cf} {kd k1 k2 : Kd} {a b e o : Expr} {f g : FE} {pos apos cpos p : Pos} {k : Kn} {x : Str} {tab : List (Str × Int)}
structure PMc (X : Cx) (cs : List MatchCase) (t : Int → TS) : Prop where
  run : ∀ (pins : List (Addr × Obj)) (s : Shared) (σ : St) (H : Hp) (D : Ends) (n : Int) (tk : Tok) (first : Bool), L2.Inv X pins σ H s → t n D σ H → wpAny (model X.prog X.w) X.A (matchCases cs X.env (.int n tk) first) (SP X pins D) X.xe s
theorem PostS.up {fr : Bool} {as bs : List Nat} {G H : Hp} {S : Env} {σ : St} {Dn : Ends} {r : R (Fl × Env)} (h : ∀ i, i ∈ as → i ∈ bs) (p : PostS c fr bs G S σ H Dn r) : PostS c fr as G S σ H Dn r := by
  cases r with
  | ok z =>
    obtain ⟨fl, S'⟩ := z
    cases fl with
    | nx => exact fun G' σ' H' e rel fm => p G' σ' H' e rel (fm.mono h)
    | bk => exact fun G' σ' H' e rel fm => p G' σ' H' e rel (fm.mono h)
    | ct => exact fun G' σ' H' e rel fm => p G' σ' H' e rel (fm.mono h)
    | rt d => exact fun v G2 H2 st rv ow => p v G2 H2 st rv (ow.sub h)
  | exc x => exact p
  | fail => exact p
end
end M
namespace M
open PySem L2
section
variable {X : Cx} {c : Cf} {k1 : Kd} {e : Expr} {f : FE} {pos p tp q1 q2 : Pos} {k : Kn} {x y z : Str}
end
end M
namespace M
open PySem L2
end M
namespace M
open PySem L2
end M
set_option Elab.async false
set_option linter.all false
set_option maxRecDepth 100000
set_option maxHeartbeats 4000000
namespace M
open PySem L2
abbrev TabI := Str × List (Str × Int)
def valI (K : PySem.W.Frag) (t : TabI) : Bool := t.2.all fun q => match PySem.W.nsIn K (He.ga K t.1) q.1 with
  | some (some (.int i _)) => decide (i = q.2)
  | _ => false
abbrev AlZ : Type := He.AlD × List (Option (List (Option (Str × Int))))
def obsZ (x : Fy) (ts : List TabI) (fn : List Dx) (K : PySem.W.Frag) : AlZ := (((x.ok K && ts.all fun t => valI K t) && fn.all fun d => d.good K, fn.map fun d => d.seen K), ts.map fun t => He.dicW K (He.ga K t.1))
def valZ (ts : List TabI) (fn : List Dx) (w : World) : AlZ := ((true, fn.map fun d => d.d.val), ts.map fun t => some (He.keysIn w.params (t.2.map (·.1))))
def SaysZ (x : Fy) (ts : List TabI) (fn : List Dx) (w : World) (K : PySem.W.Frag) : Prop := obsZ x ts fn K = valZ ts fn w
section
variable {x : Fy} {ts : List TabI} {fn : List Dx} {K : PySem.W.Frag} {w : World}
theorem SaysZ.all (c : SaysZ x ts fn w K) : ((x.ok K && ts.all fun t => valI K t) && fn.all fun d => d.good K) = true := congrArg (fun z : AlZ => z.1.1) c
theorem SaysZ.y (c : SaysZ x ts fn w K) : SaysY x fn K := by
  have h1 := He.ba c.all
  have e : fn.map (fun d => d.seen K) = fn.map fun d => d.d.val := congrArg (fun z : AlZ => z.1.2) c
  show (x.ok K && fn.all fun d => d.good K, fn.map fun d => d.seen K) = (true, _)
  rw [e, (He.ba h1.1).1, h1.2]; rfl
theorem SaysZ.tab (c : SaysZ x ts fn w K) (i : Nat) {t : TabI} (h : ts[i]? = some t := by rfl) : He.dicW K (He.ga K t.1) = some (He.keysIn w.params (t.2.map (·.1))) ∧ valI K t = true := by
  have e : ts.map (fun t => He.dicW K (He.ga K t.1)) = ts.map fun t => some (He.keysIn w.params (t.2.map (·.1))) := congrArg (fun z : AlZ => z.2) c
  have e2 := congrArg (fun l : List (Option (List (Option (Str × Int)))) => l[i]?) e
  simp only [List.getElem?_map, h, Option.map_some, Option.some.injEq] at e2
  exact ⟨e2, List.all_eq_true.mp (He.ba (He.ba c.all).1).2 t (List.mem_of_getElem? h)⟩
end
end M
set_option Elab.async false
set_option linter.all false
set_option maxRecDepth 100000
set_option maxHeartbeats 4000000
namespace M
open PySem L2
def keyD : D → Option Key
  | .int i => some (.inl i)
  | .str x => some (.inr x)
  | _ => none
def keysD : List D → Option (List Key)
  | [] => some []
  | d :: ds => match keyD d, keysD ds with
    | some k, some ks => some (k :: ks)
    | _, _ => none
section
variable {k : Kn} {G H : Hp}
theorem keyD_now {d : D} {v : V} {q : Key} (h : keyD d = some q) (n : Now k G H d v) : v = kV q := by
  cases d <;> simp only [keyD] at h <;> first | (cases h; done) | skip
  · cases h; exact n.int
  · cases h; exact n.str
theorem keyD_rd {d : D} {v : V} {q : Key} (h : keyD d = some q) (n : RD k G d v) : v = kV q := keyD_now (H := G) h (.inl n)
theorem keysD_rd : ∀ {ds : List D} {vs : List V} {qs : List Key}, keysD ds = some qs → RDs k G ds vs → vs = qs.map kV
  | _, _, qs, h, .nil => by cases h; rfl
  | d :: ds, _, qs, h, .cons a b => by
    simp only [keysD] at h
    split at h
    · rename_i q qs' h1 h2
      cases h
      rw [keyD_rd h1 a, keysD_rd h2 b]; rfl
    · cases h
def getL {κ : Type} [DecidableEq κ] : List κ → List D → κ → Option D
  | x :: ks, d :: ds, q => if x = q then some d else getL ks ds q
  | _, _, _ => none
def putL {κ : Type} [DecidableEq κ] (ks : List κ) (ds : List D) (q : κ) (d : D) : List κ × List D := match ks.idxOf? q with
  | some i => (ks, ds.set i d)
  | none => (ks ++ [q], ds ++ [d])
theorem getL_val {κ : Type} [DecidableEq κ] {q : κ} : ∀ {ks : List κ} {ds : List D} {vs : List V}, ks.length = ds.length → RDs k G ds vs → (∀ d, getL ks ds q = some d → ∃ v, valV (ks.zip vs) q = some v ∧ RD k G d v) ∧ (getL ks ds q = none → valV (ks.zip vs) q = none)
  | [], _, _, _, _ => ⟨(fun d h => by simp [getL] at h), fun _ => by simp [valV]⟩
  | x :: ks, [], _, h, _ => by simp at h
  | x :: ks, d :: ds, _, h, .cons a b => by
    have ih := getL_val (q := q) (ks := ks) (by simpa using h) b
    simp only [getL, List.zip_cons_cons]
    by_cases e : x = q
    · rw [if_pos e]
      exact ⟨fun d' h' => ⟨_, valV_pos e, by cases h'; exact a⟩, fun h' => by cases h'⟩
    · rw [if_neg e]
      have e2 : ∀ r : List (κ × V), ∀ v, valV ((x, v) :: r) q = valV r q := fun r v => by
        unfold valV; rw [List.find?_cons]; simp [e]
      rw [e2]; exact ih
end
section
variable {X : Cx} {c : Cf} {kd k1 k2 k3 : Kd} {a b e o : Expr} {f g h : FE} {pos apos cpos : Pos} {fr : Bool} {x : Str}
def isDct : D → Bool
  | .dic _ _ => true
  | .dit _ _ => true
  | _ => false
end
end M
set_option Elab.async false
set_option linter.all false
set_option maxRecDepth 100000
set_option maxHeartbeats 4000000
namespace M
open PySem L2
section
variable {X : Cx} {c : Cf} {kd k1 k2 k3 : Kd} {a b e o : Expr} {f g h : FE} {pos apos cpos : Pos} {fr : Bool} {x : Str}
end
end M
set_option Elab.async false
set_option linter.all false
set_option maxRecDepth 100000
set_option maxHeartbeats 4000000
namespace M
open PySem PySem.Spec PyProof.Rows L2
def MskG (m : Nat) : Prop := m = 7 ∨ m = 31 ∨ m = 127 ∨ m = 511
def orbG (m : Nat) : Nat → Nat → Nat → Nat
  | 0, _, b => b
  | n + 1, x, b => orbG m n ((x * 5 + 1) % (m + 1)) (b ||| 2 ^ x)
theorem orbG_hit (m : Nat) : ∀ (n a b j : Nat), (orbG m n (lcgN m a) b).testBit j = true → b.testBit j = true ∨ ∃ k, k < a + n ∧ lcgN m k = j
  | 0, _, _, _, h => .inl h
  | n + 1, a, b, j, h => by
    rcases orbG_hit m n (a + 1) (b ||| 2 ^ lcgN m a) j h with c | ⟨k, hk, e⟩
    · rw [Nat.testBit_or, Nat.testBit_two_pow, Bool.or_eq_true, decide_eq_true_eq] at c
      exact c.imp id fun e => ⟨a, by omega, e⟩
    · exact .inr ⟨k, by omega, e⟩
theorem MskG.orb {m : Nat} (h : MskG m) : M.orbG m (m + 1) 0 0 = 2 ^ (m + 1) - 1 := by
  rcases h with rfl | rfl | rfl | rfl <;> decide +kernel
theorem MskG.back {m : Nat} (h : MskG m) : lcgN m (m + 1) = 0 := by
  rcases h with rfl | rfl | rfl | rfl <;> decide +kernel
theorem MskG.from0 {m : Nat} (h : MskG m) {j : Nat} (hj : j ≤ m) : ∃ k, k ≤ m ∧ lcgN m k = j := by
  have t : (M.orbG m (m + 1) (lcgN m 0) 0).testBit j = true := by
    show (M.orbG m (m + 1) 0 0).testBit j = true
    rw [h.orb, Nat.testBit_two_pow_sub_one]
    exact decide_eq_true (by omega)
  rcases orbG_hit m (m + 1) 0 0 j t with c | ⟨k, hk, e⟩
  · simp at c
  · exact ⟨k, by omega, e⟩
theorem MskG.again {m : Nat} (h : MskG m) : ∀ k, lcgN m (m + 1 + k) = lcgN m k
  | 0 => h.back
  | k + 1 => congrArg (fun x => (x * 5 + 1) % (m + 1)) (h.again k)
theorem MskG.from {m : Nat} (h : MskG m) {i j : Nat} (hi : i ≤ m) (hj : j ≤ m) : ∃ k, k ≤ m ∧ lcgI m i k = j := by
  obtain ⟨a, a1, rfl⟩ := h.from0 hi
  obtain ⟨b, b1, rfl⟩ := h.from0 hj
  by_cases c : a ≤ b
  · exact ⟨b - a, by omega, by rw [lcgN_add, Nat.add_sub_cancel' c]⟩
  · exact ⟨m + 1 + b - a, by omega, by rw [lcgN_add, show a + (m + 1 + b - a) = m + 1 + b by omega, h.again]⟩
theorem MskG.meets {m : Nat} (h : MskG m) (x : Int) {j : Nat} (hj : j ≤ m) : ∃ n, n ≤ m + 12 ∧ runI m (SetTable.bits x) n = j := by
  obtain ⟨k, hk, e⟩ := h.from (runI_le m (SetTable.bits x) 12) hj
  exact ⟨12 + k, by omega, (runI_tail (bits_lt x) k).trans e⟩
theorem MskG.odd {m : Nat} (h : MskG m) : m % 2 = 1 := by rcases h with rfl | rfl | rfl | rfl <;> rfl
theorem MskG.le {m : Nat} (h : MskG m) : m ≤ 511 := by rcases h with rfl | rfl | rfl | rfl <;> decide
theorem wayG (m : Nat) (x : Int) (k : Nat) : way m x k ≤ m := by
  have b : SetTable.bits x % (m + 1) ≤ m := Nat.le_of_lt_succ (Nat.mod_lt _ (Nat.succ_pos _))
  have r := runEnd_bd b
  have z : (runAt m (SetTable.bits x % (m + 1)) (SetTable.bits x)).j + (runAt m (SetTable.bits x % (m + 1)) (SetTable.bits x)).more ≤ m := by
    show SetTable.bits x % (m + 1) + (SetTable.runEnd m _ - SetTable.bits x % (m + 1)) ≤ m
    omega
  exact Nat.le_trans (Nat.le_add_right _ _) (nth_in k _ z)
theorem MskG.firstOf {m : Nat} (h : MskG m) (x : Int) {p : Nat → Prop} {j : Nat} (hj : j ≤ m) (hp : p j) : ∃ K n, n ≤ m + 12 ∧ K ≤ off m (SetTable.bits x % (m + 1)) (SetTable.bits x) n ∧ p (way m x K) ∧ ∀ k, k < K → ¬ p (way m x k) := by
  obtain ⟨n, hn, e⟩ := h.meets x hj
  have w : way m x (off m (SetTable.bits x % (m + 1)) (SetTable.bits x) n) = j := by
    show (nth m _ (off m _ _ n)).j = j
    rw [nth_off, itL_run]; exact e
  obtain ⟨K, k1, k2, k3⟩ := st_least (p := fun k => p (way m x k)) _ (show p (way m x _) from w ▸ hp)
  exact ⟨K, n, hn, k1, k2, k3⟩
theorem offG_le (m : Nat) : ∀ (n i b : Nat), i ≤ m → off m i b n ≤ 10 * n
  | 0, _, _, _ => Nat.le_refl _
  | n + 1, i, b, hi => by
    have r := runEnd_bd hi
    have := offG_le m n (SetTable.leap m i b).1 (SetTable.leap m i b).2 (leap_le m i b)
    show SetTable.runEnd m i - i + 1 + off m _ _ n ≤ _
    omega
structure TbG (t : SetTable) (hs : List Int) : Prop where
  gm : MskG t.mask
  up : Ris t.place.toList
  nd : t.dummies = #[]
  ln : t.place.toList.length = hs.length
  at_ : ∀ {i : Nat} {x : Int} {j : Nat}, hs[i]? = some x → t.place.toList[i]? = some j → ∃ k, way t.mask x k = j ∧ ∀ c, c < k → way t.mask x c ∈ t.place.toList
variable {t : SetTable} {hs : List Int}
theorem TbG.sz (T : TbG t hs) : t.place.size = hs.length := by rw [← Array.length_toList]; exact T.ln
theorem TbG.end_ (T : TbG t hs) (hl : hs.length ≤ t.mask) (x : Int) : ∃ K, K < 10 * SetTable.turns t.mask ∧ way t.mask x K ∉ t.place.toList ∧ ∀ c, c < K → way t.mask x c ∈ t.place.toList := by
  obtain ⟨j, hj, hn⟩ := st_missing t.place.toList (t.mask + 1) (by rw [T.ln]; omega)
  obtain ⟨K, n, a, b, c, d⟩ := T.gm.firstOf x (p := fun y => y ∉ t.place.toList) (Nat.le_of_lt_succ hj) hn
  have := offG_le t.mask n (SetTable.bits x % (t.mask + 1)) (SetTable.bits x) (Nat.le_of_lt_succ (Nat.mod_lt (SetTable.bits x) (Nat.succ_pos t.mask)))
  exact ⟨K, by unfold SetTable.turns; omega, c, fun k hk => Classical.byContradiction (d k hk)⟩
theorem TbG.met (T : TbG t hs) {x : Int} {K i j : Nat} (hK : way t.mask x K ∉ t.place.toList) (hi : hs[i]? = some x) (hj : t.place.toList[i]? = some j) : ∃ c, c < K ∧ way t.mask x c = j := by
  obtain ⟨k, e, b⟩ := T.at_ hi hj
  refine ⟨k, Classical.byContradiction fun z => ?_, e⟩
  rcases Nat.eq_or_lt_of_le (Nat.le_of_not_lt z) with q | q
  · exact hK (by rw [q, e]; exact List.mem_of_getElem? hj)
  · exact hK (b K q)
theorem TbG.add (T : TbG t hs) {x : Int} {K : Nat} (hK : way t.mask x K ∉ t.place.toList) (hb : ∀ c, c < K → way t.mask x c ∈ t.place.toList) {p : Nat} (ep : p = SetTable.below t.place (way t.mask x K)) :
    p ≤ hs.length ∧ TbG (t.put (way t.mask x K)).1 (hs.take p ++ x :: hs.drop p) ∧ (t.put (way t.mask x K)).1.fill = hs.length + 1 := by
  obtain ⟨le1, _, _⟩ := below_cut T.up (way t.mask x K)
  have pl := put_place t (way t.mask x K)
  have dm := put_dm T.nd (way t.mask x K)
  rw [← ep] at pl le1
  have lp : p ≤ t.place.toList.length := by rw [Array.length_toList]; exact le1
  have lh : p ≤ hs.length := T.ln ▸ lp
  have ris : Ris (t.put (way t.mask x K)).1.place.toList := ris_insert T.up fun e => hK (List.mem_of_getElem? (by rw [Array.getElem?_toList]; exact e))
  have mk : (t.put (way t.mask x K)).1.mask = t.mask := rfl
  generalize (t.put (way t.mask x K)).1 = t1 at pl dm ris mk ⊢
  have ln : t1.place.toList.length = hs.length + 1 := by rw [pl, len_ins _ lp, T.ln]
  refine ⟨lh, ⟨mk ▸ T.gm, ris, dm, by rw [ln, len_ins _ lh], fun {i y j} h1 h2 => ?_⟩, by unfold SetTable.fill; rw [dm, ← Array.length_toList, ln]; rfl⟩
  have inn : ∀ z, z ∈ t.place.toList → z ∈ t1.place.toList := fun z hz => by rw [pl]; exact mem_ins.2 (.inr hz)
  have old : ∀ {i' : Nat}, hs[i']? = some y → t.place.toList[i']? = some j → ∃ k, way t1.mask y k = j ∧ ∀ c, c < k → way t1.mask y c ∈ t1.place.toList := fun a b => by
    obtain ⟨k, e, q⟩ := T.at_ a b
    rw [mk]
    exact ⟨k, e, fun c hc => inn _ (q c hc)⟩
  rw [tins_get hs lh] at h1
  rw [pl, tins_get _ lp] at h2
  split at h1
  · rename_i c; rw [if_pos c] at h2; exact old h1 h2
  · rename_i c
    rw [if_neg c] at h2
    split at h1
    · rename_i d
      rw [if_pos d] at h2
      cases h1; cases h2
      exact ⟨K, by rw [mk], fun c hc => by rw [mk]; exact inn _ (hb c hc)⟩
    · rename_i d; rw [if_neg d] at h2; exact old h1 h2
theorem MskG.seat {m : Nat} (hm : MskG m) {done : List Int} {ow : Array (Option Nat)} (W : Own m done ow) (hl : done.length ≤ m) (x : Int) :
    ∃ j, SetTable.layClean.free m ow (SetTable.turns m) (SetTable.bits x % (m + 1)) (SetTable.bits x) = some j ∧ Own m (done ++ [x]) (ow.setIfInBounds j (some done.length)) := by
  obtain ⟨ps, lps, hps⟩ := W.ps
  obtain ⟨j0, a0, n0⟩ := st_missing ps (m + 1) (by omega)
  have f0 : oAt ow j0 = none := Classical.byContradiction fun z => n0 (hps j0 (Nat.le_of_lt_succ a0) z)
  obtain ⟨K, n, hn, hK, e2, e3⟩ := hm.firstOf x (p := fun j => oAt ow j = none) (Nat.le_of_lt_succ a0) f0
  have fr : SetTable.layClean.free m ow (SetTable.turns m) (SetTable.bits x % (m + 1)) (SetTable.bits x) = some (way m x K) := by
    refine free_spec m ow _ n _ _ K (by unfold SetTable.turns; omega) hK (fun k hk => ?_) (by show (oAt ow (way m x K)).isNone = true; rw [e2]; rfl)
    cases z : oAt ow (way m x k) with
    | none => exact absurd z (e3 k hk)
    | some _ => rfl
  have wl := wayG m x K
  have ws : way m x K < ow.size := by rw [W.sz]; omega
  have here := oAt_set_self (some done.length) ws
  have more : ∀ i, oAt ow i ≠ none → oAt (ow.setIfInBounds (way m x K) (some done.length)) i ≠ none := fun i hi => by
    by_cases c : i = way m x K
    · rw [c, here]; simp
    · rw [oAt_set_ne _ c]; exact hi
  refine ⟨_, fr, ⟨by rw [Array.size_setIfInBounds]; exact W.sz, fun j k hj e => ?_, fun k hk => ?_, way m x K :: ps, by simp [lps], fun j hj e => ?_⟩⟩
  · by_cases c : j = way m x K
    · rw [c, here] at e
      cases e
      exact ⟨x, K, by simp, c.symm, fun k hk => more _ (e3 k hk)⟩
    · rw [oAt_set_ne _ c] at e
      obtain ⟨y, K', a1, a2, a3⟩ := W.at_ j k hj e
      exact ⟨y, K', by rw [List.getElem?_append_left (List.getElem?_eq_some_iff.mp a1).1]; exact a1, a2, fun k hk => more _ (a3 k hk)⟩
  · rw [List.length_append] at hk
    by_cases c : k < done.length
    · obtain ⟨j, hj, e⟩ := W.all k c
      exact ⟨j, hj, by rw [oAt_set_ne _ fun z => by rw [z, e2] at e; cases e]; exact e⟩
    · obtain rfl : k = done.length := by simp at hk; omega
      exact ⟨_, wl, here⟩
  · by_cases c : j = way m x K
    · rw [c]; exact List.mem_cons_self
    · rw [oAt_set_ne _ c] at e; exact List.mem_cons_of_mem _ (hps j hj e)
theorem MskG.seats {m : Nat} (hm : MskG m) : ∀ (rest done : List Int) (ow : Array (Option Nat)), Own m done ow → done.length + rest.length ≤ m →
    ∃ ow', rest.foldl (stepF m) (some (ow, done.length)) = some (ow', (done ++ rest).length) ∧ Own m (done ++ rest) ow'
  | [], done, ow, W, _ => ⟨ow, by simp, by simpa using W⟩
  | x :: rest, done, ow, W, h => by
    simp only [List.length_cons] at h
    obtain ⟨j, e, W1⟩ := hm.seat W (by omega) x
    obtain ⟨o2, f, W2⟩ := hm.seats rest (done ++ [x]) _ W1 (by simp; omega)
    simp only [List.append_assoc, List.singleton_append, List.length_append, List.length_cons, List.length_nil, Nat.zero_add] at f W2
    refine ⟨o2, ?_, W2⟩
    rw [List.foldl_cons, stepF_some e, f, List.length_append, List.length_cons]
theorem MskG.relaid {m wanted : Nat} (hm : MskG m) (hw : SetTable.sizeAbove wanted - 1 = m) (t : SetTable) {ha : Array Int} (hn : ha.size ≤ m) :
    ∃ t' ord, t.relaid ha wanted = some (t', ord) ∧ ord.toList.Perm (List.range ha.size) ∧ TbG t' (ord.toList.map fun i => ha.getD i 0) ∧ t'.mask = m ∧ t'.led = t.led ∧ t'.plain = t.plain := by
  obtain ⟨ow, f, W⟩ := hm.seats ha.toList [] _ (Own.init m) (by simpa using hn)
  rw [List.nil_append] at f W
  have lc : SetTable.layClean m ha = some ow := by rw [layClean_eq]; exact congrArg (Option.map (·.1)) f
  have live : ∀ j k, (j, k) ∈ liveOf m ow ↔ j ≤ m ∧ oAt ow j = some k := fun j k => mem_live W.sz
  have rr := ris_live (fun j => ow.getD j none) (List.range (m + 1)) (by unfold Ris; exact List.pairwise_lt_range)
  have r1 : Ris ((liveOf m ow).map (·.1)) := rr.1
  have nd : ((liveOf m ow).map (·.1)).Nodup := List.Pairwise.imp (fun h => Nat.ne_of_lt h) r1
  have cnt : (liveOf m ow).length = ha.size := by
    obtain ⟨ps, p1, p2⟩ := W.ps
    have le1 := nat_nodup_len ((liveOf m ow).map (·.1)) ps nd fun x hx => by
      obtain ⟨⟨y, k⟩, hq, rfl⟩ := List.mem_map.mp hx
      obtain ⟨b1, b2⟩ := (live y k).1 hq
      exact p2 y b1 (by rw [b2]; simp)
    have le2 := nat_nodup_len (List.range ha.size) ((liveOf m ow).map (·.2)) List.nodup_range fun k hk => by
      obtain ⟨j, b1, b2⟩ := W.all k (by simpa using hk)
      exact List.mem_map.mpr ⟨(j, k), (live j k).2 ⟨b1, b2⟩, rfl⟩
    simp at le1 le2 p1
    omega
  refine ⟨tabOf t m ow, ((liveOf m ow).map (·.2)).toArray, by rw [relaid_eq, hw, lc]; rfl, ?_, ⟨hm, r1, rfl, by simp [tabOf], fun {i x j} h1 h2 => ?_⟩, rfl, rfl, rfl⟩
  · refine perm_range _ _ (by simpa using cnt) fun k hk => ?_
    obtain ⟨j, b1, b2⟩ := W.all k (by simpa using hk)
    exact List.mem_map.mpr ⟨(j, k), (live j k).2 ⟨b1, b2⟩, rfl⟩
  · have h1' : (((liveOf m ow).map (·.2)).map fun i => ha.getD i 0)[i]? = some x := h1
    have h2' : ((liveOf m ow).map (·.1))[i]? = some j := h2
    simp only [List.getElem?_map] at h1' h2'
    cases hq : (liveOf m ow)[i]? with
    | none => simp [hq] at h2'
    | some q =>
      obtain ⟨y, k⟩ := q
      simp only [hq, Option.map_some, Option.some.injEq] at h1' h2'
      subst h2'
      obtain ⟨b1, b2⟩ := (live y k).1 (List.mem_of_getElem? hq)
      obtain ⟨x0, K, a1, a2, a3⟩ := W.at_ y k b1 b2
      have e0 : x0 = x := by
        rw [← h1', Array.getD_eq_getD_getElem?, ← Array.getElem?_toList, a1]; rfl
      subst e0
      refine ⟨K, a2, fun c hc => ?_⟩
      show way m x0 c ∈ (liveOf m ow).map (·.1)
      cases z : oAt ow (way m x0 c) with
      | none => exact absurd z (a3 c hc)
      | some k2 => exact List.mem_map.mpr ⟨(_, k2), (live _ _).2 ⟨wayG m x0 c, z⟩, rfl⟩
section
variable {P : Program} {w : World} {A : Around} {E : Value → Shared → Prop} {s : Shared} {a : Addr} {L : List (Addr × List Int)} {es : Array (Int × Value)} {ep : Nat}
structure StG (P : Program) (w : World) (h : Heap) (a : Addr) (L : List (Addr × List Int)) (es : Array (Int × Value)) (ep : Nat) (t : SetTable) : Prop where
  ob : ∃ o, h.get? a = some o ∧ o.ExactSet ∧ o.data = .set es ep t
  rw_ : es.toList = rowsOf P w L
  tb : TbG t (L.map fun p => thash P w p.2)
  un : (L.map (·.2)).Nodup
  tu : ∀ p ∈ L, IsT P w h p.2 p.1
  pl : t.plain = true
  room : L.length * 5 < t.mask * 3
theorem rowsG_sz (h : es.toList = rowsOf P w L) : es.size = L.length := by rw [← Array.length_toList, h, rowsOf, List.length_map]
theorem rowsG_at (h : es.toList = rowsOf P w L) {i : Nat} {p : Addr × List Int} (e : L[i]? = some p) : es[i]? = some (thash P w p.2, Value.ref p.1) := by
  rw [← Array.getElem?_toList, h, rowsOf, List.getElem?_map, e]; rfl
theorem fitsG {t : SetTable} {n : Nat} (e : t.place.size = n) (d : t.dummies = #[]) (l : n ≤ t.mask) : t.fits n = true := by
  simp [SetTable.fits, SetTable.fill, d, e, l]
theorem StG.fit {t : SetTable} (R : StG P w s.heap a L es ep t) : t.fits es.size = true := by
  have := R.room
  exact fitsG (by rw [R.tb.sz, rowsG_sz R.rw_, List.length_map]) R.tb.nd (by rw [rowsG_sz R.rw_]; omega)
theorem nthG_dm (m : Nat) : ∀ (n : Nat) (p : SetTable.Probe), p.dummy = none → (nth m p n).dummy = none
  | 0, _, h => h
  | n + 1, p, h => nthG_dm m n (adv m p) (by unfold adv; split <;> exact h)
abbrev prG (m : Nat) (x : Int) (c : Nat) : SetTable.Probe := nth m (runAt m (SetTable.bits x % (m + 1)) (SetTable.bits x)) c
theorem prG_add (m : Nat) (x : Int) (c q : Nat) : nth m (prG m x c) q = prG m x (c + q) := (nth_add m c _ q).symm
theorem StG.from {t : SetTable} (R : StG P w s.heap a L es ep t) {x : Addr} {k : List Int} (hx : IsT P w s.heap k x) (hu : A.units < cLine) {N : Nat} (hNf : N < 10 * SetTable.turns t.mask)
    (hN : way t.mask (thash P w k) N ∉ t.place.toList) (hb : ∀ c, c < N → way t.mask (thash P w k) c ∈ t.place.toList) {Q : SetFound → Shared → Prop}
    (hin : k ∈ L.map (·.2) → Q (.there none) s) (hout : k ∉ L.map (·.2) → Q (.free (way t.mask (thash P w k) N) false) s) :
    ∀ (f c : Nat) (st : Option SetTable.Probe), st.getD (t.probeStart (thash P w k)) = prG t.mask (thash P w k) c → c ≤ N → N - c < f →
      (∀ (i : Nat) p c', L[i]? = some p → p.2 = k → c' < c → t.place.toList[i]? ≠ some (way t.mask (thash P w k) c')) →
      wpAny (model P w) A (setSearchFrom a (.ref x) (thash P w k) true f st) Q E s
  | 0, _, _, _, _, hf, _ => absurd hf (Nat.not_lt_zero _)
  | f + 1, c, st, hst, hc, hf, hnp => by
    obtain ⟨o, ho, _, hd⟩ := R.ob
    have lnp : ∀ {i : Nat}, i < L.length ↔ i < t.place.toList.length := by rw [R.tb.ln, List.length_map]; first | done | exact Iff.rfl
    rw [setSearchFrom_succ]
    refine wpAny_bind (wpAny_setState_of ho hd R.fit ?_)
    dsimp only
    refine wp_if_neg (by simp [SetTable.gaveWay, R.tb.gm.odd]) ?_
    try refine wpAny_bind (wpAny_pure ?_)
    have hh : ∀ {i : Nat} {p}, L[i]? = some p → ((es[i]?.map (·.1)).getD 0 : Int) = thash P w p.2 := fun e => by rw [rowsG_at R.rw_ e]; rfl
    have ahead : ∀ {i : Nat} {p}, L[i]? = some p → p.2 = k → ∃ c', c ≤ c' ∧ c' < N ∧ t.place.toList[i]? = some (way t.mask (thash P w k) c') := fun {i p} e ek => by
      have il := lnp.mp (List.getElem?_eq_some_iff.mp e).1
      obtain ⟨c', a1, a2⟩ := R.tb.met hN (i := i) (by rw [List.getElem?_map, e, ← ek]; rfl) (List.getElem?_eq_getElem il)
      have a3 : t.place.toList[i]? = some (way t.mask (thash P w k) c') := by rw [a2]; exact List.getElem?_eq_getElem il
      exact ⟨c', Nat.le_of_not_lt fun z => hnp i p c' e ek z a3, a1, a3⟩
    have spec := go_spec t R.tb.up R.tb.nd (fun i => (es[i]?.map (·.1)).getD 0) (thash P w k) (10 * SetTable.turns t.mask) (N - c) (prG t.mask (thash P w k) c) (nthG_dm _ _ _ rfl) (by omega)
      (fun q hq => by rw [prG_add]; exact hb (c + q) (by omega)) (by rw [prG_add, Nat.add_sub_cancel' hc]; exact hN)
    simp only [prG_add] at spec
    rcases spec with ⟨q, i, hq, hi, hhi, hno, hpr⟩ | ⟨hno, hpr⟩
    · have hp0 : t.probe (fun i => (es[i]?.map (·.1)).getD 0) (thash P w k) (st.getD (t.probeStart (thash P w k))) = some (.candidate (prG t.mask (thash P w k) (c + q)).j i (prG t.mask (thash P w k) (c + (q + 1)))) := by rw [hst]; exact hpr
      rw [hp0]
      dsimp only
      have il : i < L.length := lnp.mpr (List.getElem?_eq_some_iff.mp hi).1
      obtain ⟨p, hp⟩ : ∃ p, L[i]? = some p := ⟨_, List.getElem?_eq_getElem il⟩
      have pm := List.mem_of_getElem? hp
      have go : wpAny (model P w) A (searchRest a (.ref x) (thash P w k) true f es t (prG t.mask (thash P w k) (c + q)).j i (prG t.mask (thash P w k) (c + (q + 1)))) Q E s := by
        unfold searchRest
        rw [rowsG_at R.rw_ hp]
        dsimp only
        refine wpAny_bind (wpAny_holding (wpAny_eqBool_tuple hu (R.tu p pm) hx ?_))
        refine wpAny_bind (wpAny_setState_of ho hd R.fit ?_)
        dsimp only
        by_cases ek : p.2 = k
        · exact wp_if_pos (by simp [ek]) (wpAny_pure (hin (List.mem_map.mpr ⟨p, pm, ek⟩)))
        · refine wp_if_neg (by simp [ek]) ?_
          try refine wpAny_bind (wpAny_pure ?_)
          rw [sameMem]
          dsimp only
          simp only [if_true, slot_live R.tb.up hi, rowsG_at R.rw_ hp]
          refine wpAny_bind (wpAny_isSame_ref_self (wpAny_bind (wpAny_pure ?_)))
          simp only [if_true]
          refine wp_if_neg (by simp [ek]) ?_
          refine R.from hx hu hNf hN hb hin hout f (c + (q + 1)) _ rfl (by omega) (by omega) fun i0 p0 c' h0 k0 hc' h3 => ?_
          rcases Nat.lt_or_ge c' c with z | z
          · exact hnp i0 p0 c' h0 k0 z h3
          · rcases Nat.lt_or_ge c' (c + q) with y | y
            · refine hno (c' - c) i0 (by omega) (by rw [Nat.add_sub_cancel' z]; exact h3) ?_
              exact (hh h0).trans (by rw [k0])
            · obtain rfl : c' = c + q := by omega
              have s1 := slot_live R.tb.up h3
              rw [slot_live R.tb.up hi] at s1
              injection s1 with s1
              rw [← s1, hp] at h0
              exact ek (by rw [Option.some.inj h0]; exact k0)
      by_cases hl : t.led = true
      · refine wp_if_neg (by simp [hl]) ?_
        try refine wpAny_bind (wpAny_pure ?_)
        exact go
      · refine wp_if_pos (by simp [hl]) ?_
        refine wpAny_bind (seen_tup hx (fun y hy => ?_) ?_)
        · obtain ⟨e, he, rfl⟩ := List.mem_map.mp hy
          have he2 : e ∈ es.toList := by simpa using (Array.mem_filter.mp (Array.mem_toList_iff.mp he)).1
          rw [R.rw_] at he2
          obtain ⟨p2, q1, rfl⟩ := List.mem_map.mp he2
          exact ⟨p2.2, p2.1, rfl, R.tu p2 q1⟩
        · refine wp_if_neg (by decide) ?_
          try refine wpAny_bind (wpAny_pure ?_)
          exact go
    · have hp0 : t.probe (fun i => (es[i]?.map (·.1)).getD 0) (thash P w k) (st.getD (t.probeStart (thash P w k))) = some (.empty (prG t.mask (thash P w k) N).j none) := by
        rw [Nat.add_sub_cancel' hc] at hpr
        rw [hst]; exact hpr
      rw [hp0]
      dsimp only
      refine wpAny_pure (hout fun hm => ?_)
      obtain ⟨p0, h0, k0⟩ := List.mem_map.mp hm
      obtain ⟨i0, hi0, rfl⟩ := List.getElem_of_mem h0
      obtain ⟨c', b1, b2, b3⟩ := ahead (List.getElem?_eq_getElem hi0) k0
      exact hno (c' - c) i0 (by omega) (by rw [Nat.add_sub_cancel' b1]; exact b3) ((hh (List.getElem?_eq_getElem hi0)).trans (by rw [k0]))
theorem StG.look {t : SetTable} (R : StG P w s.heap a L es ep t) {x : Addr} {k : List Int} (hx : IsT P w s.heap k x) (hu : A.units < cLine) {Q : SetFound → Shared → Prop} (hin : k ∈ L.map (·.2) → Q (.there none) s)
    (hout : ∀ N, k ∉ L.map (·.2) → way t.mask (thash P w k) N ∉ t.place.toList → (∀ c, c < N → way t.mask (thash P w k) c ∈ t.place.toList) → Q (.free (way t.mask (thash P w k) N) false) s) :
    wpAny (model P w) A (setSearch a (.ref x) (thash P w k) true) Q E s := by
  have := R.room
  have m5 := R.tb.gm.le
  obtain ⟨N, n1, n2, n3⟩ := R.tb.end_ (by rw [List.length_map]; omega) (thash P w k)
  have : N < 100000 := by unfold SetTable.turns at n1; omega
  exact R.from hx hu n1 n2 n3 hin (fun z => hout N z n2 n3) 100000 0 none rfl (Nat.zero_le _) (by omega) fun _ _ _ _ _ z => absurd z (Nat.not_lt_zero _)
theorem StG.relay {t : SetTable} {o : Obj} (ho : s.heap.get? a = some o) (hex : o.ExactSet) (hd : o.data = .set es ep t) (hr : es.toList = rowsOf P w L) (hT : TbG t (L.map fun p => thash P w p.2)) (un : (L.map (·.2)).Nodup) (tu : ∀ p ∈ L, IsT P w s.heap p.2 p.1)
    (hp : t.plain = true) (hl : L.length ≤ t.mask) {wanted m : Nat} (hm : MskG m) (hw : SetTable.sizeAbove wanted - 1 = m) (hn : L.length * 5 < m * 3) {Q : Unit → Shared → Prop}
    (hQ : ∀ h' L' es' ep' t', Heap.SameBut a s.heap h' → StG P w h' a L' es' ep' t' → L'.Perm L → Q () { s with heap := h' }) : wpAny (model P w) A (setRelay a wanted) Q E s := by
  have sz := rowsG_sz hr
  have m5 := hm.le
  obtain ⟨t', ord, e, pm, T', em, _, ep2⟩ := hm.relaid (wanted := wanted) hw t (ha := es.map (·.1)) (by rw [Array.size_map, sz]; omega)
  rw [Array.size_map, sz] at pm
  obtain ⟨L2, r1, r2, r3⟩ := order_rows L es ord hr pm
  rw [← r3] at T'
  have s2 : (ord.filterMap (es[·]?)).size = es.size := by rw [rowsG_sz r1, r2.length_eq, sz]
  rw [setRelay_eq]
  refine wpAny_bind (wpAny_setState_of ho hd (fitsG (by rw [hT.sz, List.length_map, sz]) hT.nd (by rw [sz]; exact hl)) ?_)
  dsimp only
  refine wp_if_neg (by rw [sizeLine_eq]; omega) ?_
  try refine wpAny_bind (wpAny_pure ?_)
  rw [e]
  dsimp only
  refine wpAny_bind ?_
  refine wp_if_neg (by rw [s2]; simp) ?_
  try refine wpAny_bind (wpAny_pure ?_)
  refine wpAny_pure ?_
  dsimp only
  refine wpAny_storeSet_of ho hd ?_ (by rw [s2, sz, sizeLine_eq]; omega)
  have sb : Heap.SameBut a s.heap (s.heap.update a (Obj.putSet (ord.filterMap (es[·]?)) t')) := Heap.SameBut.update ..
  exact hQ _ L2 _ _ t' sb ⟨⟨_, store_at ho hd, ⟨hex.1, hex.2.1, hex.2.2⟩, rfl⟩, r1, T', (r2.map (·.2)).nodup_iff.mpr un, fun p hpm => isT_same (tu p (r2.mem_iff.mp hpm)) ho hd sb, by rw [ep2]; exact hp, by rw [r2.length_eq, em]; exact hn⟩ r2
theorem grow5 : SetTable.sizeAbove (SetTable.grown 5) = 32 := by decide +kernel
theorem grow19 : SetTable.sizeAbove (SetTable.grown 19) = 128 := by decide +kernel
theorem grow77 : SetTable.sizeAbove (SetTable.grown 77) = 512 := by decide +kernel
theorem StG.add {t : SetTable} (R : StG P w s.heap a L es ep t) {x : Addr} {k : List Int} (hx : IsT P w s.heap k x) (hu : A.units < cLine) (hfew : L.length + 1 ≤ 300) {Q : Bool → Shared → Prop}
    (hQ : ∀ b h' L' es' ep' t', Heap.SameBut a s.heap h' → StG P w h' a L' es' ep' t' → (k ∈ L.map (·.2) → L' = L) → (k ∉ L.map (·.2) → L'.Perm ((x, k) :: L)) → Q b { s with heap := h' }) :
    wpAny (model P w) A (setAddHashed a (.ref x) (thash P w k)) Q E s := by
  obtain ⟨o, ho, hex, hd⟩ := R.ob
  have sz := rowsG_sz R.rw_
  have room := R.room
  unfold setAddHashed
  refine wpAny_holding ?_
  rw [show (100000 : Nat) = 99999 + 1 from rfl, setAddHashedIn_succ]
  refine wpAny_bind (wpAny_setState_of ho hd R.fit ?_)
  dsimp only
  refine wp_if_neg (by simp [byScan, Value.scannable]) ?_
  try refine wpAny_bind (wpAny_pure ?_)
  refine wpAny_bind (R.look hx hu (fun hm => ?_) fun N hm hN hb => ?_)
  · dsimp only
    exact wpAny_pure (hQ false s.heap L es ep t (Heap.SameBut.refl a s.heap) R (fun _ => rfl) fun z => absurd hm z)
  · dsimp only
    refine wpAny_bind (wpAny_setState_of ho hd R.fit ?_)
    dsimp only
    obtain ⟨q1, q2, q3⟩ := R.tb.add hN hb rfl
    have e2 : (t.put (way t.mask (thash P w k) N)).2 = SetTable.below t.place (way t.mask (thash P w k) N) := rfl
    have mk : (t.put (way t.mask (thash P w k) N)).1.mask = t.mask := rfl
    have pl : (t.put (way t.mask (thash P w k) N)).1.plain = true := R.pl
    generalize t.put (way t.mask (thash P w k) N) = pt at q2 q3 e2 mk pl ⊢
    obtain ⟨t1, p⟩ := pt
    dsimp only at q2 q3 e2 mk pl ⊢
    rw [← e2] at q1 q2
    first
      | (refine wpAny_bind ?_; refine wp_if_pos pl ?_; refine hashBy_tup hx ?_)
      | refine wp_if_pos pl (wpAny_bind (hashBy_tup hx ?_))
    simp only [if_true]
    have hr1 : (SetTable.insertAt es p (thash P w k, Value.ref x)).toList = rowsOf P w (L.take p ++ (x, k) :: L.drop p) := by rw [SetTable.toList_insertAt, rows_put, R.rw_]
    have hp1 := put_perm L p (x, k)
    have ht1 : TbG t1 ((L.take p ++ (x, k) :: L.drop p).map fun p => thash P w p.2) := by rw [List.map_append, List.map_cons, List.map_take, List.map_drop]; exact q2
    generalize SetTable.insertAt es p (thash P w k, Value.ref x) = es1 at hr1 ⊢
    generalize L.take p ++ (x, k) :: L.drop p = L1 at hr1 hp1 ht1
    have len : L1.length = L.length + 1 := hp1.length_eq
    have un1 : (L1.map (·.2)).Nodup := (hp1.map (·.2)).nodup_iff.mpr (List.nodup_cons.mpr ⟨hm, R.un⟩)
    have sz1 := rowsG_sz hr1
    refine wpAny_bind (wpAny_storeSet_of ho hd ?_ (by rw [sz1, len, sizeLine_eq]; omega))
    have sb : Heap.SameBut a s.heap (s.heap.update a (Obj.putSet es1 t1)) := Heap.SameBut.update ..
    have ho1 := store_at (es' := es1) (t' := t1) ho hd
    generalize s.heap.update a (Obj.putSet es1 t1) = h1 at sb ho1 ⊢
    have tu1 : ∀ p ∈ L1, IsT P w h1 p.2 p.1 := fun p hp => by
      rcases List.mem_cons.mp (hp1.mem_iff.mp hp) with e | hp
      · rw [e]; exact isT_same hx ho hd sb
      · exact isT_same (R.tu p hp) ho hd sb
    have full : t1.tooFull = decide (t.mask * 3 ≤ L1.length * 5) := by
      unfold SetTable.tooFull
      rw [q3, mk, List.length_map, ← len]
    by_cases hf : t.mask * 3 ≤ L1.length * 5
    · have hf' : t1.tooFull = true := full.trans (decide_eq_true hf)
      first
        | (refine wpAny_bind ?_; refine wp_if_pos (by simp [hf']) ?_)
        | (refine wp_if_pos (by simp [hf']) ?_; refine wpAny_bind ?_)
      have go : ∀ m, MskG m → SetTable.sizeAbove (SetTable.grown (es.size + 1)) - 1 = m → L1.length * 5 < m * 3 →
          wpAny (model P w) A (setRelay a (SetTable.grown (es.size + 1))) (fun _ s' => wpAny (model P w) A (pure true) Q E s') E { s with heap := h1 } := fun m a1 a2 a3 =>
        StG.relay (s := { s with heap := h1 }) ho1 ⟨hex.1, hex.2.1, hex.2.2⟩ rfl hr1 ht1 un1 tu1 pl (by rw [mk, len]; have := R.tb.gm.odd; omega) a1 a2 a3 fun h2 L2 es2 ep2 t2 sb2 R2 pm2 =>
          wpAny_pure (hQ true h2 L2 es2 ep2 t2 (sb.trans sb2) R2 (fun z => absurd z hm) fun _ => pm2.trans hp1)
      rw [sz] at go ⊢
      rcases R.tb.gm with e | e | e | e
      · have : L.length = 4 := by omega
        exact go 31 (.inr (.inl rfl)) (by rw [this, grow5]) (by omega)
      · have : L.length = 18 := by omega
        exact go 127 (.inr (.inr (.inl rfl))) (by rw [this, grow19]) (by omega)
      · have : L.length = 76 := by omega
        exact go 511 (.inr (.inr (.inr rfl))) (by rw [this, grow77]) (by omega)
      · omega
    · have hf' : t1.tooFull = false := full.trans (decide_eq_false hf)
      first
        | refine wp_if_neg (by simp [hf']) ?_
        | (refine wpAny_bind ?_; refine wp_if_neg (by simp [hf']) ?_; refine wpAny_pure ?_)
      exact wpAny_pure (hQ true h1 L1 es1 (ep + 1) t1 sb ⟨⟨_, ho1, ⟨hex.1, hex.2.1, hex.2.2⟩, rfl⟩, hr1, ht1, un1, tu1, pl, by rw [mk]; omega⟩ (fun z => absurd z hm) fun _ => hp1)
theorem StG.stay {h h' : Heap} {t : SetTable} (R : StG P w h a L es ep t) (ha : ∀ o, h.get? a = some o → h'.get? a = some o) (ht : ∀ p ∈ L, IsT P w h' p.2 p.1) : StG P w h' a L es ep t := by
  obtain ⟨o, ho, r⟩ := R.ob
  exact ⟨⟨o, ha o ho, r⟩, R.rw_, R.tb, R.un, ht, R.pl, R.room⟩
theorem StG.none {h : Heap} {b : Bool} (ho : h.get? a = some { cls := .type "set", dict := none, data := .set #[] 0 (.fresh 0 0 b) }) : StG P w h a [] #[] 0 (.fresh 0 0 b) :=
  ⟨⟨_, ho, ⟨rfl, rfl, rfl⟩, rfl⟩, rfl, ⟨.inl rfl, List.Pairwise.nil, rfl, rfl, (fun h _ => (by simp at h))⟩, List.nodup_nil, (fun _ h => (by cases h)), rfl, by show 0 * 5 < 7 * 3; decide⟩
theorem loopTB {I : Addr} {fp wr : List Addr} {G : Array GenState → Array GenState → Prop} {n : Nat} {Pv : Nat → Value → Prop} {Sx : Nat → Shared → Prop} {R : Result → Shared → Prop}
    (W : WalksS P w A.in1 I fp wr G n Pv Sx) (S : Addr) (hSf : S ∉ fp) (ks : List (Addr × List Int)) (hn : n = ks.length) (hfew : ks.length ≤ 300) (hval : ∀ i v, Pv i v → ∃ p, ks[i]? = some p ∧ v = .ref p.1)
    (g : Heap) (hk : ∀ p ∈ ks, IsT P w g p.2 p.1) (hS0 : g.get? S = none) (hw0 : ∀ b ∈ wr, g.get? b = none) (hu : A.in1.units < cLine) :
    ∀ (k i : Nat) (s : Shared), n - i = k → i ≤ n → Sx i s → (∀ b o, g.get? b = some o → s.heap.get? b = some o) → (∃ L es ep t, StG P w s.heap S L es ep t ∧ Got ks i L) →
      (∀ z L es ep t, Moved (S :: wr) G s z → StG P w z.heap S L es ep t → Got ks n L → R (.ok (.ret .none)) z) → codeAny (model P w) A (.builtin "set.update.loop" ⟨[.ref S, .ref I], []⟩) R s := by
  have nw : S ∉ wr := fun h => hSf (W.sub _ h)
  have up : ∀ b ∈ wr, b ∈ S :: wr := fun b hb => List.mem_cons_of_mem _ hb
  have keep : ∀ {s z : Shared}, Moved wr G s z → (∀ b o, g.get? b = some o → s.heap.get? b = some o) → ∀ b o, g.get? b = some o → z.heap.get? b = some o := fun m q b o e => m.heap b o (fun hb => by rw [hw0 b hb] at e; cases e) (q b o e)
  intro k
  induction k with
  | zero =>
    intro i s hk' hi hst hkp ⟨L, es, ep, t, hS, gt⟩ hR
    obtain rfl : i = n := by omega
    refine codeAny_builtin F.entry_set_update_loop ?_
    rw [Around.under_plainId F.plain_set_update_loop _]
    refine (wpAny_bind (W.done s _ _ hst fun z hm => ?_) : wpAny _ A.in1 (pyNext (.ref I) >>= _) _ _ s)
    show wpAny _ A.in1 (ret Value.none) _ _ z
    exact wpAny_pure (hR z L es ep t (hm.mono up) (hS.stay (fun o e => hm.heap S o nw e) fun p hp => isT_keep (hk p (List.mem_of_mem_take (gt.sub p hp))) (keep hm hkp)) gt)
  | succ k ih =>
    intro i s hk' hi hst hkp ⟨L, es, ep, t, hS, gt⟩ hR
    have hlt : i < n := by omega
    refine codeAny_builtin F.entry_set_update_loop ?_
    rw [Around.under_plainId F.plain_set_update_loop _]
    refine (wpAny_bind (W.item i s _ _ hlt hst fun v z hP hst' hm => ?_) : wpAny _ A.in1 (pyNext (.ref I) >>= _) _ _ s)
    obtain ⟨p, hp, rfl⟩ := hval i v hP
    have kz := keep hm hkp
    have hS' : StG P w z.heap S L es ep t := hS.stay (fun o e => hm.heap S o nw e) fun q hq => isT_keep (hk q (List.mem_of_mem_take (gt.sub q hq))) kz
    have hx : IsT P w z.heap p.2 p.1 := isT_keep (hk p (List.mem_of_getElem? hp)) kz
    have le := gt.len
    refine (wpAny_bind (wpAny_holding ?_) : wpAny _ A.in1 (holding [Value.ref p.1] (setAdd S (.ref p.1)) >>= _) _ _ z)
    unfold setAdd
    refine wpAny_holding (wpAny_bind (wpAny_pyHash_tuple hu hx ?_))
    refine StG.add (s := { z with toks := z.toks + (p.2.length + 1) }) hS' hx hu (by omega) fun b h' L' es' ep' t' hsb hS2 c1 c2 => ?_
    have g' : Got ks (i + 1) L' := by
      by_cases c : p.2 ∈ L.map (·.2)
      · rw [c1 c]; exact gt.same hp c
      · exact gt.more hp (c2 c)
    refine wpAny_pure ⟨plainId_quiet F.plain_set_update_loop _, ih (i + 1) _ (by omega) hlt (W.frame _ z _ _ hst' (Nat.le_add_right _ _) fun b hb o e => ?_) (fun b o e => ?_) ⟨L', es', ep', t', hS2, g'⟩ fun y L2 es2 ep2 t2 hy h2 g2 => ?_⟩
    · rw [hsb.2 b (fun q : b = S => hSf (by rw [← q]; exact hb))]; exact e
    · rw [hsb.2 b (fun q : b = S => by rw [q, hS0] at e; cases e)]; exact kz b o e
    · refine hR y L2 es2 ep2 t2 (Moved.trans W.gtrans ((hm.mono up).then_heap (Nat.le_add_right _ _) fun b o hb e => ?_) hy) h2 g2
      rw [hsb.2 b (fun q : b = S => hb (by rw [q]; exact List.mem_cons_self))]; exact e
end
end M
set_option Elab.async false
set_option linter.all false
set_option maxRecDepth 100000
set_option maxHeartbeats 4000000
namespace M
open PySem PySem.Spec PyProof.Rows L2
def titer (l : Addr) : Obj := { cls := .type "tuple_iterator", data := .fields #[.ref l, .int 0 0] }
def preSet (s : Shared) (w : World) : Shared := { s with heap := s.heap.push (freshSet w) }
def midSet (s : Shared) (w : World) (l : Addr) : Shared := { s with heap := (s.heap.push (freshSet w)).push (titer l) }
section
variable {P : Program} {w : World} {A : Around} {E : Value → Shared → Prop} {s : Shared}
theorem call_setT {l : Addr} {items : Array Value} {Q : Value → Shared → Prop} {Good : Heap → Prop} (hl : s.heap.IsTuple l items)
    (loop : ∀ R : Result → Shared → Prop, (∀ h' tk, Good h' → (∀ b o, s.heap.get? b = some o → h'.get? b = some o) → R (.ok (.ret .none)) { s with heap := h', toks := tk }) →
      codeAny (model P w) A.in1.in1 (.builtin "set.update.loop" ⟨[.ref s.heap.objs.size, .ref (s.heap.push (freshSet w)).objs.size], []⟩) R (midSet s w l))
    (fin : ∀ h' tk, Good h' → (∀ b o, s.heap.get? b = some o → h'.get? b = some o) → Q (.ref s.heap.objs.size) { s with heap := h', toks := tk }) :
    wpAny (model P w) A (call (.type "set") [.ref l]) Q E s := by
  obtain ⟨cq, tq, m1⟩ := F.called_set.mro
  have m2 := F.called_set.made
  have m3 := F.called_set.sub
  refine wpAny_call (codeAny_of_tree (?_ : wpAny _ _ (callAny (.type "set") _) _ _ _))
  refine wpAny_pure ⟨Code.quiet_builtin _ (by decide +kernel), codeAny_builtin F.entry_type_call ?_⟩
  rw [Around.under_plain (weight_type_call_type "set" [.ref l] []) rfl]
  have m4 := F.called_set.notType
  have m5 := F.called_set.canCreate
  have m6 := F.typeCall_set_1 (.ref l)
  repeat (any_goals (first | assumption | wp_step))
  refine codeAny_mono (code_set_led1 (.ref l) (E := E) (Q₁ := fun ob z => ob = .ref s.heap.objs.size ∧ z = preSet s w) ⟨rfl, rfl⟩) fun r z hr => ?_
  cases r with
  | error e => exact hr
  | ok fl =>
    cases fl with
    | ret ob =>
      obtain ⟨rfl, rfl⟩ := hr
      have g1 : (preSet s w).heap.get? s.heap.objs.size = some (freshSet w) := Heap.get?_push_size _ rfl
      have g2 : Shared.TypeIs (preSet s w) (.ref s.heap.objs.size) "set" := ⟨_, g1, rfl⟩
      have g3 := F.called_set.init.lookup
      have g4 := F.called_set.init.bind (.ref s.heap.objs.size)
      repeat (any_goals (first | assumption | wp_step))
      refine codeAny_mono (codeAny_call_builtin (R := wants (fun r y => r = .none ∧ ∃ h' tk, y = { s with heap := h', toks := tk } ∧ Good h' ∧ ∀ b o, s.heap.get? b = some o → h'.get? b = some o) E) F.called_set.init.plain F.entry_set_init (check_set_init_1 g2 ?_)) fun r2 y hr2 => ?_
      · obtain ⟨ol, e1, e2, nl, e3⟩ := hl
        obtain ⟨o1, o2, o3, o4⟩ := ol
        simp only at e2 e3
        subst e2; subst e3
        have e4 : (preSet s w).heap.get? l = some { cls := .type "tuple", dict := o2, data := .seq items nl, slots := o4 } := Heap.get?_push_of_some _ e1
        have q1 := F.sub_tuple_set
        have q2 := F.sub_tuple_frozenset
        have q3 : (Value.type "tuple" == Value.type "dict") = false := by decide
        have q4 : (preSet s w).heap.IsTuple l items := ⟨_, e4, rfl, nl, rfl⟩
        unfold Builtin.«set.__init__» noKeywords Builtin.Frozenset.updateFrom
        generalize hPI : pyIter = PI
        wp_walk
        subst hPI
        refine wpAny_pyIter_tuple q4 (wpAny_bind (wpAny_runValue ?_))
        refine loop _ fun h' tk hg hk => ?_
        show wpAny _ _ _ _ _ _
        refine wpAny_pure ?_
        show wpAny _ _ (ret Value.none) _ _ _
        exact wpAny_pure ⟨rfl, h', tk, rfl, hg, hk⟩
      · cases r2 with
        | error e => exact hr2
        | ok f2 =>
          cases f2 with
          | ret r =>
            obtain ⟨rfl, h', tk, rfl, hg, hk⟩ := hr2
            repeat (any_goals (first | assumption | wp_step))
            exact fin _ _ hg hk
          | _ => exact hr2.elim
    | _ => exact hr.elim
def SetN (S : Addr) (n : Nat) (h : Heap) : Prop := ∃ o es ep t, h.get? S = some o ∧ o.ExactSet ∧ o.data = .set es ep t ∧ t.fits es.size = true ∧ es.size = n
def nubG {κ : Type} [DecidableEq κ] (ks : List κ) : List κ := ks.foldl (fun acc k => if k ∈ acc then acc else k :: acc) []
theorem nubG_fold {κ : Type} [DecidableEq κ] : ∀ (ks acc : List κ), acc.Nodup → (ks.foldl (fun acc k => if k ∈ acc then acc else k :: acc) acc).Nodup ∧ ∀ x, x ∈ ks.foldl (fun acc k => if k ∈ acc then acc else k :: acc) acc ↔ x ∈ acc ∨ x ∈ ks
  | [], acc, h => ⟨h, fun x => by simp⟩
  | k :: ks, acc, h => by
    rw [List.foldl_cons]
    by_cases hk : k ∈ acc
    · rw [if_pos hk]
      obtain ⟨h1, h2⟩ := nubG_fold ks acc h
      refine ⟨h1, fun x => ?_⟩
      rw [h2, List.mem_cons]
      constructor
      · rintro (a | a)
        · exact .inl a
        · exact .inr (.inr a)
      · rintro (a | a | a)
        · exact .inl a
        · subst a; exact .inl hk
        · exact .inr a
    · rw [if_neg hk]
      obtain ⟨h1, h2⟩ := nubG_fold ks (k :: acc) (List.nodup_cons.mpr ⟨hk, h⟩)
      refine ⟨h1, fun x => ?_⟩
      rw [h2, List.mem_cons, List.mem_cons]
      constructor
      · rintro ((a | a) | a)
        · exact .inr (.inl a)
        · exact .inl a
        · exact .inr (.inr a)
      · rintro (a | a | a)
        · exact .inl (.inr a)
        · exact .inl (.inl a)
        · exact .inr a
theorem nubG_nd {κ : Type} [DecidableEq κ] (ks : List κ) : (nubG ks).Nodup := (nubG_fold ks [] List.nodup_nil).1
theorem nubG_mem {κ : Type} [DecidableEq κ] (ks : List κ) (x : κ) : x ∈ nubG ks ↔ x ∈ ks := by
  have := (nubG_fold ks [] List.nodup_nil).2 x
  unfold nubG
  rw [this]; simp
theorem nd_len_le {κ : Type} [DecidableEq κ] : ∀ {a b : List κ}, a.Nodup → (∀ x ∈ a, x ∈ b) → a.length ≤ b.length
  | [], b, _, _ => by simp
  | x :: a, b, h, hs => by
    obtain ⟨h1, h2⟩ := List.nodup_cons.mp h
    have hx := hs x (by simp)
    have := nd_len_le (a := a) (b := b.erase x) h2 (fun y hy => (List.mem_erase_of_ne (fun e => h1 (by rw [← e]; exact hy))).mpr (hs y (by simp [hy])))
    rw [List.length_erase_of_mem hx] at this
    have hp : 0 < b.length := List.length_pos_of_mem hx
    rw [List.length_cons]; omega
theorem nub_len {κ : Type} [DecidableEq κ] {a ks : List κ} (h : a.Nodup) (hm : ∀ x, x ∈ a ↔ x ∈ ks) : a.length = (nubG ks).length :=
  Nat.le_antisymm (nd_len_le h fun x hx => (nubG_mem ks x).mpr ((hm x).mp hx)) (nd_len_le (nubG_nd ks) fun x hx => (hm x).mpr ((nubG_mem ks x).mp hx))
theorem apart {l : Addr} (hlt : l < s.heap.objs.size) : l ≠ (s.heap.push (freshSet w)).objs.size ∧ s.heap.objs.size ∉ [(s.heap.push (freshSet w)).objs.size, l] := by
  rw [Heap.size_push]
  refine ⟨Nat.ne_of_lt (Nat.lt_succ_of_lt hlt), ?_⟩
  simp only [List.mem_cons, List.not_mem_nil, or_false, not_or]
  exact ⟨Nat.ne_of_lt (Nat.lt_succ_self _), Nat.ne_of_gt hlt⟩
theorem kept_of {G : Array GenState → Array GenState → Prop} {s' : Shared} {l : Addr} (hm : Moved (s.heap.objs.size :: [(s.heap.push (freshSet w)).objs.size]) G (midSet s w l) s') : ∀ b o, s.heap.get? b = some o → s'.heap.get? b = some o := fun b o e => by
  have hb := Heap.lt_size e
  refine hm.heap b o ?_ (Heap.get?_push_of_some _ (Heap.get?_push_of_some _ e))
  rw [Heap.size_push]
  simp only [List.mem_cons, List.not_mem_nil, or_false, not_or]
  exact ⟨Nat.ne_of_lt hb, Nat.ne_of_lt (Nat.lt_succ_of_lt hb)⟩
theorem back_of {s' : Shared} {wr : List Addr} {l : Addr} (hm : Moved wr (fun a b => b = a) (midSet s w l) s') : s' = { s with heap := s'.heap, toks := s'.toks } := by
  obtain ⟨h', g', d', t', o'⟩ := s'
  have h1 : g' = s.gens := hm.gens
  have h2 : d' = s.drawn := hm.drawn
  have h3 : o' = s.os := hm.os
  subst h1; subst h2; subst h3; rfl
theorem call_setTI {l : Addr} {items : Array Value} (ns : List Int) {Q : Value → Shared → Prop} (hh : A.handled = none) (hl : s.heap.IsTuple l items) (hit : IntsAre items.toList ns) (hb : ns.length + 1 < scanBound)
    (fin : ∀ h' tk, SetN s.heap.objs.size (nubG ns).length h' → (∀ b o, s.heap.get? b = some o → h'.get? b = some o) → Q (.ref s.heap.objs.size) { s with heap := h', toks := tk }) : wpAny (model P w) A (call (.type "set") [.ref l]) Q E s := by
  have hlt : l < s.heap.objs.size := by obtain ⟨o, ho, _⟩ := hl; exact Heap.lt_size ho
  obtain ⟨n1, n2⟩ := apart (w := w) hlt
  have hz : items.size = ns.length := by have := IntsAre.length hit; rwa [Array.length_toList] at this
  have g1 : (midSet s w l).heap.get? s.heap.objs.size = some (freshSet w) := Heap.get?_push_of_some _ (Heap.get?_push_size _ rfl)
  refine call_setT (Good := SetN s.heap.objs.size (nubG ns).length) hl (fun R hR => ?_) fin
  refine set_update_ints ((Walks.tuple (by simp [hh]) _ l n1 items).toS) s.heap.objs.size n2 ns hz hb (fun i v hv => ?_) items.size 0 _ (by omega) (Nat.zero_le _) ⟨⟨_, Heap.get?_push_size _ rfl, rfl, rfl⟩, ((hl.push _).push _)⟩ ⟨0, Nat.le_refl 0, setR_new_at g1⟩ fun s' c hm hc hS => ?_
  · have hi : i < ns.length := by rw [← hz]; exact (Array.getElem?_eq_some_iff.mp hv).1
    obtain ⟨t, e⟩ := IntsAre.int_at hit i v (by rw [Array.getElem?_toList]; exact hv)
    refine ⟨ns[i], t, List.getElem?_eq_getElem hi, ?_⟩
    rw [e, List.getD_eq_getElem?_getD, List.getElem?_eq_getElem hi]; rfl
  · rw [back_of hm]
    refine hR _ _ ?_ (kept_of hm)
    obtain ⟨o, es, ep, t, ho, hx, hd, _, hn, hmem, _, hf, hsz, _⟩ := hS
    refine ⟨o, es, ep, t, ho, hx, hd, hf, ?_⟩
    have := nub_len (a := es.toList.map L2.keyOf) (ks := ns) hn (fun x => by rw [← hmem x]; simp)
    rw [← this, List.length_map, Array.length_toList]
theorem call_setTT {l : Addr} {items : Array Value} (ks : List (Addr × List Int)) {Q : Value → Shared → Prop} (hh : A.handled = none) (hl : s.heap.IsTuple l items) (hit : items.toList = ks.map fun p => Value.ref p.1) (hk : ∀ p ∈ ks, IsT P w s.heap p.2 p.1) (hf : ks.length ≤ 300) (hu : A.units + 3 < cLine)
    (fin : ∀ h' tk, SetN s.heap.objs.size (nubG (ks.map (·.2))).length h' → (∀ b o, s.heap.get? b = some o → h'.get? b = some o) → Q (.ref s.heap.objs.size) { s with heap := h', toks := tk }) : wpAny (model P w) A (call (.type "set") [.ref l]) Q E s := by
  have hlt : l < s.heap.objs.size := by obtain ⟨o, ho, _⟩ := hl; exact Heap.lt_size ho
  obtain ⟨n1, n2⟩ := apart (w := w) hlt
  have hz : items.size = ks.length := by have := congrArg List.length hit; rwa [Array.length_toList, List.length_map] at this
  have g1 : (midSet s w l).heap.get? s.heap.objs.size = some (freshSet w) := Heap.get?_push_of_some _ (Heap.get?_push_size _ rfl)
  have free : ∀ b, s.heap.objs.size ≤ b → s.heap.get? b = none := fun b hb => by
    cases q : s.heap.get? b with
    | none => rfl
    | some o => exact absurd (Nat.lt_of_lt_of_le (Heap.lt_size q) hb) (Nat.lt_irrefl _)
  refine call_setT (Good := SetN s.heap.objs.size (nubG (ks.map (·.2))).length) hl (fun R hR => ?_) fin
  refine loopTB ((Walks.tuple (by simp [hh]) _ l n1 items).toS) s.heap.objs.size n2 ks hz hf (fun i v hv => ?_) s.heap hk (free _ (Nat.le_refl _)) (fun b hb => free b (by rw [List.mem_singleton.mp hb, Heap.size_push]; exact Nat.le_succ _)) (by simp only [Around.in1]; first | omega | exact (by omega)) items.size 0 _ (by omega) (Nat.zero_le _) ⟨⟨_, Heap.get?_push_size _ rfl, rfl, rfl⟩, ((hl.push _).push _)⟩ (fun b o e => Heap.get?_push_of_some _ (Heap.get?_push_of_some _ e)) ⟨[], _, _, _, StG.none g1, Got.zero ks⟩ fun s' L es ep t hm hS hg => ?_
  · have q : items.toList[i]? = some v := by rw [Array.getElem?_toList]; exact hv
    rw [hit, List.getElem?_map] at q
    obtain ⟨p, hp, e⟩ := Option.map_eq_some_iff.mp q
    exact ⟨p, hp, e.symm⟩
  · rw [back_of hm]
    refine hR _ _ ?_ (kept_of hm)
    obtain ⟨o, ho, hx, hd⟩ := hS.ob
    refine ⟨o, es, ep, t, ho, hx, hd, hS.fit, ?_⟩
    rw [rowsG_sz hS.rw_]
    have := nub_len (a := L.map (·.2)) (ks := ks.map (·.2)) hS.un (fun x => ?_)
    · rw [← this, List.length_map]
    · constructor
      · intro h
        obtain ⟨p, hp, rfl⟩ := List.mem_map.mp h
        exact List.mem_map.mpr ⟨p, List.mem_of_mem_take (hg.sub p hp), rfl⟩
      · intro h
        obtain ⟨p, hp, rfl⟩ := List.mem_map.mp h
        exact hg.all p (by rw [hz, List.take_length]; exact hp)
theorem nubG_snoc {κ : Type} [DecidableEq κ] (l : List κ) (x : κ) : (nubG (l ++ [x])).length = if x ∈ l then (nubG l).length else (nubG l).length + 1 := by
  have e : nubG (l ++ [x]) = if x ∈ nubG l then nubG l else x :: nubG l := by unfold nubG; rw [List.foldl_append]; rfl
  rw [e]
  by_cases h : x ∈ l
  · rw [if_pos ((nubG_mem l x).mpr h), if_pos h]
  · rw [if_neg (fun q => h ((nubG_mem l x).mp q)), if_neg h]; rfl
theorem loopTx {I : Addr} {fp wr : List Addr} {G : Array GenState → Array GenState → Prop} {n : Nat} {Pv : Nat → Value → Prop} {St : Nat → Shared → Prop} {R : Result → Shared → Prop}
    (W : WalksS P w A.in1 I fp wr G n Pv St) (S : Addr) (hSf : S ∉ fp) (xs : List Str) (hn : n = xs.length) (hb : xs.length + 1 < scanBound) (hval : ∀ i v, Pv i v → ∃ x t, xs[i]? = some x ∧ v = .str x t) :
    ∀ (k i : Nat) (s : Shared), n - i = k → i ≤ n → St i s → s.heap.SetOf (PySem.strKind P w) S (fun q => decide (q ∈ xs.take i)) (nubG (xs.take i)).length →
      (∀ z, Moved (S :: wr) G s z → z.heap.SetOf (PySem.strKind P w) S (fun q => decide (q ∈ xs)) (nubG xs).length → R (.ok (.ret .none)) z) → codeAny (model P w) A (.builtin "set.update.loop" ⟨[.ref S, .ref I], []⟩) R s := by
  have o1 : S ∉ wr := fun h => hSf (W.sub _ h)
  have o2 : ∀ b ∈ wr, b ∈ S :: wr := fun b hb => List.mem_cons_of_mem _ hb
  have stay : ∀ {s s' : Shared} {f : Str → Bool} {c : Nat}, Moved wr G s s' → s.heap.SetOf (PySem.strKind P w) S f c → s'.heap.SetOf (PySem.strKind P w) S f c := fun hm hS => by
    obtain ⟨o, es, ep, t, ho, rest⟩ := hS
    exact ⟨o, es, ep, t, hm.heap S _ o1 ho, rest⟩
  intro k
  induction k with
  | zero =>
    intro i s hk hi hst hS hR
    obtain rfl : i = n := by omega
    refine codeAny_builtin PyProof.Rows.F.entry_set_update_loop ?_
    rw [Around.under_plainId PyProof.Rows.F.plain_set_update_loop _]
    refine (wpAny_bind (W.done s _ _ hst fun z hm => ?_) : wpAny _ A.in1 (pyNext (.ref I) >>= _) _ _ s)
    rw [hn, List.take_length] at hS
    show wpAny _ A.in1 (ret .none) _ _ z
    exact wpAny_pure (hR z (hm.mono o2) (stay hm hS))
  | succ k ih =>
    intro i s hk hi hst hS hR
    have hlt : i < n := by omega
    refine codeAny_builtin PyProof.Rows.F.entry_set_update_loop ?_
    rw [Around.under_plainId PyProof.Rows.F.plain_set_update_loop _]
    refine (wpAny_bind (W.item i s _ _ hlt hst fun v z hP hst' hm => ?_) : wpAny _ A.in1 (pyNext (.ref I) >>= _) _ _ s)
    obtain ⟨x, t, hx, rfl⟩ := hval i v hP
    have hS' := stay hm hS
    have tk : xs.take (i + 1) = xs.take i ++ [x] := by rw [List.take_add_one, hx]; rfl
    have cnt : (nubG (xs.take i)).length ≤ i := by
      have := nd_len_le (nubG_nd (xs.take i)) (fun y hy => (nubG_mem _ y).mp hy)
      rw [List.length_take] at this
      omega
    refine (wpAny_bind (wpAny_holding ?_) : wpAny _ A.in1 (holding [Value.str x t] (setAdd S (.str x t)) >>= _) _ _ z)
    unfold setAdd
    refine wpAny_holding (wpAny_bind ((PySem.strKind P w).pyHash (k := x) (strKind_is _ _ _ _) ?_))
    refine wpAny_setAddHashed_of (knd := PySem.strKind P w) (s := { z with toks := z.toks + 1 }) (strKind_is _ _ _ _) rfl hS' (by omega) fun h' hsb hS2 => ?_
    have hS3 : h'.SetOf (PySem.strKind P w) S (fun q => decide (q ∈ xs.take (i + 1))) (nubG (xs.take (i + 1))).length := by
      refine SetOf_congr hS2 (fun q => ?_) ?_
      · rw [tk]
        simp only [List.mem_append, List.mem_singleton]
        by_cases q1 : q ∈ xs.take i <;> by_cases q2 : q = x <;> simp [q1, q2]
      · rw [tk, nubG_snoc]
        by_cases q1 : x ∈ xs.take i <;> simp [q1]
    refine wpAny_pure ⟨plainId_quiet PyProof.Rows.F.plain_set_update_loop _, ih (i + 1) _ (by omega) hlt (W.frame _ z _ _ hst' (Nat.le_succ _) fun b hb o e => ?_) hS3 fun y hy hq => ?_⟩
    · rw [hsb.2 b (fun q : b = S => hSf (by rw [← q]; exact hb))]; exact e
    · refine hR y (Moved.trans W.gtrans ((hm.mono o2).then_heap (Nat.le_succ _) fun b o hb e => ?_) hy) hq
      rw [hsb.2 b (fun q : b = S => hb (by rw [q]; exact List.mem_cons_self))]; exact e
theorem call_setTS {l : Addr} {items : Array Value} (xs : List Str) {Q : Value → Shared → Prop} (hh : A.handled = none) (hl : s.heap.IsTuple l items) (hit : Vals (xs.map V.str) items.toList) (hb : xs.length + 1 < scanBound)
    (fin : ∀ h' tk, SetN s.heap.objs.size (nubG xs).length h' → (∀ b o, s.heap.get? b = some o → h'.get? b = some o) → Q (.ref s.heap.objs.size) { s with heap := h', toks := tk }) : wpAny (model P w) A (call (.type "set") [.ref l]) Q E s := by
  have hlt : l < s.heap.objs.size := by obtain ⟨o, ho, _⟩ := hl; exact Heap.lt_size ho
  obtain ⟨n1, n2⟩ := apart (w := w) hlt
  have hz : items.size = xs.length := by have := hit.length; rw [List.length_map, Array.length_toList] at this; exact this.symm
  have g1 : (midSet s w l).heap.get? s.heap.objs.size = some (freshSet w) := Heap.get?_push_of_some _ (Heap.get?_push_size _ rfl)
  have at_ : ∀ {xs : List Str} {us : List Value}, Vals (xs.map V.str) us → ∀ (i : Nat) (v : Value), us[i]? = some v → ∃ x t, xs[i]? = some x ∧ v = .str x t := by
    intro xs
    induction xs with
    | nil => intro us h i v hv; cases h; simp at hv
    | cons x xs ih =>
      intro us h i v hv
      cases h with
      | cons r rs =>
        obtain ⟨t, rfl⟩ := r
        cases i with
        | zero => simp at hv; subst hv; exact ⟨x, t, rfl, rfl⟩
        | succ i => exact ih rs i v (by simpa using hv)
  refine call_setT (Good := SetN s.heap.objs.size (nubG xs).length) hl (fun R hR => ?_) fin
  refine loopTx ((Walks.tuple (by simp [hh]) _ l n1 items).toS) s.heap.objs.size n2 xs hz hb (fun i v hv => at_ hit i v (by rw [Array.getElem?_toList]; exact hv)) items.size 0 _ (by omega) (Nat.zero_le _) ⟨⟨_, Heap.get?_push_size _ rfl, rfl, rfl⟩, ((hl.push _).push _)⟩ ⟨freshSet w, #[], 0, _, g1, ⟨rfl, rfl, rfl⟩, rfl, (fun e he => by simp at he), by simp, by decide, rfl, rfl⟩ fun s' hm hS => ?_
  rw [back_of hm]
  refine hR _ _ ?_ (kept_of hm)
  obtain ⟨o, es, ep, t, ho, hx, hd, _, _, _, hf, hsz⟩ := hS
  exact ⟨o, es, ep, t, ho, hx, hd, hf, hsz⟩
end
section
variable {X : Cx} {c : Cf} {k1 : Kd} {e : Expr} {f : FE} {pos p p2 q : Pos} {k : Kn}
def SetLen (K : PySem.W.Frag) (H : Hp) (l : Addr) (n : Nat) : Prop :=
  (∃ ns : List Int, SqT K H l (ns.map V.int) ∧ ns.length ≤ 1000 ∧ n = (nubG ns).length) ∨ (∃ ks : List (Addr × List Int), SqT K H l (ks.map fun p => V.ref p.1) ∧ (∀ p ∈ ks, SqT K H p.1 (p.2.map V.int)) ∧ ks.length ≤ 300 ∧ n = (nubG (ks.map (·.2))).length) ∨
  ∃ xs : List Str, SqT K H l (xs.map V.str) ∧ xs.length ≤ 1000 ∧ n = (nubG xs).length
theorem refs_vals : ∀ {as : List Addr} {us : List Value}, Vals (as.map V.ref) us → us = as.map Value.ref
  | [], _, .nil => rfl
  | a :: as, _, .cons r rs => by rw [refs_vals rs]; cases r; rfl
theorem pe_lenSetG {a : Expr} {ta : TE} (hc : X.calm = true) (hu : X.A.units + 64 < cLine) (hm : X.mg "len" = none) (hm2 : X.mg "set" = none) (ha : PE X a ta) (hg : Gl X "len") (hg2 : Gl X "set") (na : starEach [a] X.env = (false, eval a X.env) :: starEach [] X.env) :
    PE X (.Call (.Name "len" p) [.Call (.Name "set" p2) [a] [] q] [] pos) (fun σ H Q => ta σ H fun x H1 => ∃ l n, x = .ref l ∧ SetLen X.K H1 l n ∧ Q (.int n) H1) := by
  refine ⟨fun pins s σ H Q I h => ?_⟩
  refine Call_ (ld_blt I hg hm PySem.boot_len (PyProof.Rows.callWith_builtin1 (PyProof.Rows.args_cons (Call_ (ld_blt I hg2 hm2 PyProof.Rows.boot_set ?_)) rfl) rfl rfl))
  refine PyProof.Rows.callWith_type1 (PyProof.Rows.args_cons (thn (ha.run pins s σ H _ I h) fun v s1 ⟨x, H1, I1, r1, l, n, ex, hq, q1⟩ => PyProof.Rows.args_nil ?_) na) na rfl
  subst ex
  cases r1
  have fin : ∀ (h' : Heap) (tk : Nat), SetN s1.heap.objs.size n h' → (∀ b o, s1.heap.get? b = some o → h'.get? b = some o) →
      wpAny (model X.prog X.w) X.A (spliced (backTo pos (starEach [] X.env))) (fun vs z => wpAny (model X.prog X.w) X.A (call (.builtin "len") (Value.ref s1.heap.objs.size :: vs)) (EP X pins σ Q) X.xe z) X.xe { s1 with heap := h', toks := tk } := fun h' tk hS hk => by
    refine PyProof.Rows.args_nil ?_
    obtain ⟨o, es, ep, t, ho, hx, hd, hf, hsz⟩ := hS
    have I2 : L2.Inv X pins σ H1 { s1 with heap := h', toks := tk } := I1.kept hk
    have hfit : (es.size : Int) < 2 ^ 63 := by
      have : es.size ≤ 1000 := by
        rw [hsz]
        rcases hq with ⟨ns, _, h1, e1⟩ | ⟨ks, _, _, h1, e1⟩ | ⟨xs, _, h1, e1⟩
        · rw [e1]; exact Nat.le_trans (nd_len_le (nubG_nd ns) fun y hy => (nubG_mem _ y).mp hy) h1
        · rw [e1]; exact Nat.le_trans (nd_len_le (nubG_nd _) fun y hy => (nubG_mem _ y).mp hy) (by rw [List.length_map]; omega)
        · rw [e1]; exact Nat.le_trans (nd_len_le (nubG_nd xs) fun y hy => (nubG_mem _ y).mp hy) h1
      omega
    exact call_len_set ho hx hd hf hfit ⟨.int n, H1, I2.tok _, ⟨_, by rw [hsz]⟩, q1⟩
  have hsb : (1003 : Nat) < scanBound := by decide
  rcases hq with ⟨ns, hT, hl, rfl⟩ | ⟨ks, hT, hk, hl, rfl⟩ | ⟨xs, hT, hl, rfl⟩
  · obtain ⟨its, r, ⟨o, h1, h2, m, h3⟩, _⟩ := I1.tuple hT
    exact call_setTI ns (I1.ok.hd hc) ⟨o, h1, h2, m, h3⟩ (by simpa using r.ints) (by omega) fin
  · obtain ⟨its, r, ⟨o, h1, h2, m, h3⟩, _⟩ := I1.tuple hT
    refine call_setTT ks (I1.ok.hd hc) ⟨o, h1, h2, m, h3⟩ ?_ (fun p hp => I1.isT (hk p hp)) hl (by omega) fin
    have := refs_vals (as := ks.map (·.1)) (by rw [List.map_map]; exact r)
    rw [List.map_map] at this
    exact (by simpa using this : its = ks.map (Value.ref ∘ fun x => x.1))
  · obtain ⟨its, r, ⟨o, h1, h2, m, h3⟩, _⟩ := I1.tuple hT
    exact call_setTS xs (I1.ok.hd hc) ⟨o, h1, h2, m, h3⟩ (by simpa using r) (by omega) fin
def lenSetD : D → R D
  | .tup ds => match asI ds with
    | some ns => if ns.length ≤ 1000 then .ok (.int (nubG ns).length) else .fail
    | none => match asTs ds with
      | some ks => if ks.length ≤ 300 then .ok (.int (nubG ks).length) else .fail
      | none => match asS ds with
        | some xs => if xs.length ≤ 1000 then .ok (.int (nubG xs).length) else .fail
        | none => .fail
  | _ => .fail
theorem asTs_rds {G : Hp} : ∀ {ds : List D} {vs : List V} {ks : List (List Int)}, RDs k G ds vs → asTs ds = some ks → ∃ ps : List (Addr × List Int), vs = ps.map (fun p => V.ref p.1) ∧ ps.map (·.2) = ks ∧ ∀ p ∈ ps, SqU k.K G p.1 (p.2.map V.int)
  | _, _, ks, .nil, h => by cases h; exact ⟨[], rfl, rfl, by simp⟩
  | d :: ds, _, ks, .cons a b, h => by
    simp only [asTs] at h
    split at h
    · rename_i x xs h1 h2
      cases h
      obtain ⟨ad, rfl, hs⟩ := RD.asT a h1
      obtain ⟨ps, rfl, rfl, hp⟩ := asTs_rds b h2
      refine ⟨(ad, x) :: ps, rfl, rfl, fun p hp' => ?_⟩
      rcases List.mem_cons.mp hp' with rfl | hp'
      · exact hs
      · exact hp p hp'
    · cases h
theorem d_lenSet (hk : c.k.K = X.K) (hc : X.calm = true) (hu : X.A.units + 64 < cLine) (hm : X.mg "len" = none) (hm2 : X.mg "set" = none) (he : PE' X c k1 e f) (hg : Gl X "len" := by rfl) (hg2 : Gl X "set" := by rfl) (na : starEach [e] X.env = (false, eval e X.env) :: starEach [] X.env := by rfl) :
    PE' X c .st (.Call (.Name "len" p) [.Call (.Name "set" p2) [e] [] q] [] pos) (e1 lenSetD f) :=
  peI (pe_lenSetG hc hu hm hm2 he hg hg2 na) fun σ H Q z => e1_go (r := fun x H1 Q => ∃ l n, x = .ref l ∧ SetLen X.K H1 l n ∧ Q (.int n) H1) (fun G H x u d ex n hg Q p => by
    cases x with
    | tup ds =>
      obtain ⟨ad, vs, rfl, ha, r⟩ := n.tup
      have ha' : SqT X.K H ad vs := hk ▸ ex.sqT ha.t
      simp only [lenSetD] at hg
      split at hg
      · rename_i ns hn
        split at hg
        · rename_i hl
          cases hg
          have := asI_of r hn; subst this
          exact ⟨ad, _, rfl, .inl ⟨ns, ha', hl, rfl⟩, p _ G H (Step.refl ex) (.int _)⟩
        · cases hg
      · split at hg
        · rename_i ks hn
          split at hg
          · rename_i hl
            cases hg
            obtain ⟨ps, rfl, rfl, hp⟩ := asTs_rds r hn
            rw [List.length_map] at hl
            exact ⟨ad, _, rfl, .inr (.inl ⟨ps, ha', fun q hq => hk ▸ ex.sqT (hp q hq).t, by omega, rfl⟩), p _ G H (Step.refl ex) (.int _)⟩
          · cases hg
        · split at hg
          · rename_i xs hn
            split at hg
            · rename_i hl
              cases hg
              have := asS_of r hn; subst this
              exact ⟨ad, _, rfl, .inr (.inr ⟨xs, ha', hl, rfl⟩), p _ G H (Step.refl ex) (.int _)⟩
            · cases hg
          · cases hg
    | _ => simp [lenSetD] at hg) z
end
end M
set_option Elab.async false
set_option linter.all false
set_option maxRecDepth 100000
set_option maxHeartbeats 4000000
namespace M
open PySem L2
section
instance lawK : LawfulBEq Key where
  eq_of_beq := by
    intro a b h
    cases a with
    | inl x => cases b with
      | inl y => exact congrArg Sum.inl (by simpa using (show (x == y) = true from h))
      | inr y => cases h
    | inr x => cases b with
      | inl y => cases h
      | inr y => exact congrArg Sum.inr (by simpa using (show (x == y) = true from h))
  rfl := by
    intro a
    cases a with
    | inl x => show (x == x) = true; simp
    | inr x => show (x == x) = true; simp
end
end M
set_option Elab.async false
set_option linter.all false
set_option maxRecDepth 100000
set_option maxHeartbeats 4000000
namespace M
open PySem L2 PySem.W PyProof.Rows
section
variable {prog : Program} {w : World} {A : Around} {E : Value → Shared → Prop} {s : Shared} {a kS : Addr} {b : Bool} {vs : List Value} {e1 : Nat} {P : PySem.Fin → Shared → Prop}
end
section
variable {X : Cx} {k : Nat} {f : Addr} {fd : FuncData} {ps : List Str} {sp : Sp}
end
end M
set_option Elab.async false
set_option linter.all false
set_option maxRecDepth 100000
set_option maxHeartbeats 4000000
namespace M
open PySem L2
section
variable {X : Cx} {k : Kn} {c : Cf} {e : Expr} {pos : Pos} {den : List D → R D}
end
end M
set_option Elab.async false
set_option linter.all false
set_option maxRecDepth 100000
set_option maxHeartbeats 4000000
namespace M
open PySem L2 PySem.W PySem.Calls PyProof.Rows
section
variable {prog : Program} {w : World} {A : Around} {E : Value → Shared → Prop} {s : Shared}
theorem collect_tup {l : Addr} {vs : List Value} {Q : List Value → Shared → Prop} (hl : IsTup s.heap l vs.toArray)
    (h : Q vs { s with heap := (s.heap.push (seqObj "list" #[] 0)).update s.heap.objs.size (Obj.mapSeq (· ++ vs.toArray)) }) (hsz : vs.length ≤ sizeLine) :
    wpAny (model prog w) A (collect (.ref l)) Q E s := by
  obtain ⟨o, ho, hc, n, hd⟩ := id hl
  unfold collect
  refine wpAny_bind (wpAny_runValue (codeAny_builtin entry_proto_collect' ?_))
  show wpAny _ _ (do again (.builtin "list.__iadd__" ⟨[← newList [], .ref l], []⟩)) _ _ s
  refine wpAny_bind (wpAny_newList (wpAny_pure ⟨Code.quiet_builtin _ (by decide +kernel), codeAny_builtin entry_list_iadd' ?_⟩))
  show wpAny _ _ (Builtin.List.listExtendWith (.ref s.heap.objs.size) (.ref l) (.ref s.heap.objs.size)) _ _ { s with heap := s.heap.push (seqObj "list" #[] 0) }
  unfold Builtin.List.listExtendWith
  have ho' : (s.heap.push (seqObj "list" #[] 0)).get? l = some o := Heap.get?_push_of_some _ ho
  refine wpAny_bind (wpAny_typeOf (T := "tuple") ⟨o, ho', hc⟩ ?_)
  have ht : (Value.type "tuple" == Value.type "tuple") = true := by rfl
  rw [if_pos (by rw [ht]; simp)]
  refine wpAny_bind (listItems_at ho' hd ?_)
  refine wpAny_bind (listItems_at (xs := #[]) (n := 0) (Heap.get?_push_size _ rfl) rfl ?_)
  rw [if_neg (by simp)]
  refine wpAny_bind (listUpdate_at (xs := #[]) (n := 0) (Heap.get?_push_size _ rfl) rfl ?_ (Nat.zero_le _) (by show (#[] ++ vs.toArray).size ≤ sizeLine + 1; simp only [Array.size_append, List.size_toArray, List.length_nil]; omega))
  refine wpAny_pure ?_
  show wpAny (model prog w) A (do
      let o ← load s.heap.objs.size
      match o.data with
      | .seq xs _ => pure xs.toList
      | _ => unsupported "internal:collect") Q E { s with heap := (s.heap.push (seqObj "list" #[] 0)).update s.heap.objs.size (Obj.mapSeq (· ++ vs.toArray)) }
  refine wpAny_bind (wpAny_load (get?_update_seq (Heap.get?_push_size _ rfl) _) ?_)
  show wpAny _ _ (pure ((#[] : Array Value) ++ vs.toArray).toList) Q E _
  rw [show ((#[] : Array Value) ++ vs.toArray).toList = vs by simp]
  exact wpAny_pure h
theorem sortedT_of_sort {l : Addr} {vs : List Value} {kw : List (Str × Value)} {Q : Value → Shared → Prop} (hl : IsTup s.heap l vs.toArray) (hL : vs.length ≤ sizeLine) (ha1 : argsOk "sorted" ⟨[.ref l], kw⟩) (ha2 : ∀ x, argsOk "list.sort" ⟨[.ref x], kw⟩)
    (body : ∀ E' : Value → Shared → Prop, wpAny (model prog w) A.in1.in1 (Builtin.«list.sort» ⟨[.ref (s.heap.objs.size + 1)], kw⟩) (fun f s' => f = .done (.ret .none) ∧ Q (.ref (s.heap.objs.size + 1)) s') E' { s with heap := copyHeap s.heap vs }) :
    wpAny (model prog w) A (call (.builtin "sorted") [.ref l] kw) Q E s := by
  refine call_function_entry_kw kind_sorted plain_sorted entry_sorted ha1 ?_
  unfold Builtin.«sorted»
  refine wpAny_bind (m := checkCount "sorted" 1 1 _) (wpAny_pure ?_)
  refine wpAny_bind (collect_tup hl ?_ hL)
  refine wpAny_bind (wpAny_newList ?_ hL)
  have hsz : ((s.heap.push (seqObj "list" #[] 0)).update s.heap.objs.size (Obj.mapSeq (· ++ vs.toArray))).objs.size = s.heap.objs.size + 1 := by
    rw [Heap.size_update, size_push']
  show wpAny _ _ _ _ _ { s with heap := copyHeap s.heap vs }
  rw [hsz]
  refine wpAny_bind (wpAny_holding (wpAny_call_entry_kw slot_list_sort ⟨_, copyHeap_at s.heap vs, rfl⟩ entry_list_sort ?body (ha2 _)))
  case body =>
    show wpAny (model prog w) A.in1.in1 (Builtin.«list.sort» ⟨[.ref (s.heap.objs.size + 1)], kw⟩) _ _ _
    refine wpAny_mono (body _) (fun f s' hf => ?_) fun _ _ e => e
    obtain ⟨rfl, hq⟩ := hf
    exact ⟨_, rfl, wpAny_pure ⟨_, rfl, hq⟩⟩
variable {κ : KeyKind}
theorem sortedT_vals {l : Addr} {vs : List Value} {Q : Value → Shared → Prop} (hl : IsTup s.heap l vs.toArray) (S : SortsAt prog w A.in1.in1 { s with heap := sortingHeap (copyHeap s.heap vs) (s.heap.objs.size + 1) vs } κ vs) (hL : vs.length ≤ sizeLine)
    (h : Q (.ref (s.heap.objs.size + 1)) { s with heap := sortedAll s.heap vs (sortVals κ false vs vs).toArray }) : wpAny (model prog w) A (call (.builtin "sorted") [.ref l]) Q E s :=
  sortedT_of_sort hl hL (args_sorted1 _) (fun _ => args_list_sort _) fun _ => list_sort_vals (s := { s with heap := copyHeap s.heap vs }) (copyHeap_at s.heap vs) S hL ⟨rfl, h⟩
variable {β : Type} {R : Value → β → Prop} {vs : List Value} {bs : List β} {enc : β → PyData}
theorem sortedT_data {l : Addr} {Q : Value → Shared → Prop} (hl : IsTup s.heap l vs.toArray) (e : EachIs R vs bs) (er : EachIs (fun v b => ∃ as, Reads s.heap v (enc b) as) vs bs) (hal : AllAlike (bs.map enc)) (hk : Sortable (bs.map enc)) (hL : bs.length ≤ sizeLine)
    (hu : ∀ b, b ∈ bs → A.units + 2 + (enc b).depth < cLine) (h : ∀ out, out.length = bs.length → EachIs R out (bs.mergeSort (dataLe false enc)) → Q (.ref (s.heap.objs.size + 1)) { s with heap := sortedAll s.heap vs (List.toArray out) }) :
    wpAny (model prog w) A (call (.builtin "sorted") [.ref l]) Q E s := by
  have er' : EachIs (fun v b => ∃ as, Reads (sortingHeap (copyHeap s.heap vs) (s.heap.objs.size + 1) vs) v (enc b) as) vs bs := er.mono fun _ _ ⟨as, r⟩ => ⟨as, PyProof.Rows.Reads.keeps (fun _ _ => sorting_copy_old) r⟩
  exact sortedT_vals hl (SortsAt.data (s := { s with heap := sortingHeap (copyHeap s.heap vs) (s.heap.objs.size + 1) vs }) (each_map (R := fun v d => ∃ as, Reads (sortingHeap (copyHeap s.heap vs) (s.heap.objs.size + 1) vs) v d as) enc er') hal hk (bound_map hu)) (by rw [e.length]; exact hL)
    (h _ (by rw [sortVals_length false rfl]; exact e.length) (sortVals_data false e er' hal))
end
section
variable {X : Cx} {k : Kn}
def rSrtT (X : Cx) : List V → Hp → VK → Prop := fun vs H Q => ∃ a xs ds, vs = [V.ref a] ∧ SqT X.K H a xs ∧ DpAll X.K H xs ds ∧ PySem.W.AllAlike ds ∧ PySem.W.Sortable ds ∧ (∀ d, d ∈ ds → d.depth ≤ 60) ∧
  ∀ p, H p = none → Q (.ref p) (upd H p (.lst (((xs.zip ds).mergeSort (PySem.W.dataLe false (·.2))).map (·.1))))
theorem cr_srtT (hu : X.A.units + 64 < cLine) : CallR X (.builtin "sorted") (rSrtT X) := by
  intro pins s σ H vs us Q I r h
  obtain ⟨a, xs, ds, rfl, hs, hd, hal, hso, hdp, q⟩ := h
  obtain ⟨u, rfl, ru⟩ := vals1 r
  cases ru
  obtain ⟨its, rv, pl, hz⟩ := I.tuple hs
  have hlen := DpAll.length hd
  have hm : (xs.zip ds).map (·.2) = ds := by rw [List.map_snd_zip]; omega
  have ea := DpAll.zip hd rv
  refine sortedT_data (enc := fun (b : V × PyData) => b.2) (R := fun u (b : V × PyData) => RelV b.1 u) (bs := xs.zip ds) pl (EachIs.imp (fun _ _ z => z.1) ea) (EachIs.imp (fun u b z => Dp.reads I b.2 b.1 u z.2 z.1) ea) (by rw [hm]; exact hal) (by rw [hm]; exact hso) (by rw [List.length_zip]; omega) ?_ ?_
  · intro b hb
    have : b.2 ∈ ds := by rw [← hm]; exact List.mem_map.mpr ⟨b, hb, rfl⟩
    have := hdp _ this
    omega
  · intro out ho eo
    obtain ⟨m, F⟩ := I.fr
    obtain ⟨cn, _, N, _, kp⟩ := PySem.W.sorted_news (news := []) F (fun p hp => nomatch hp) its out
    have hobj := (N _ List.mem_cons_self).1
    have hv := each_vals eo
    refine ⟨.ref (s.heap.objs.size + 1), _, I.laid (a := s.heap.objs.size + 1) (t' := s.toks) (o := .lst _) kp (Nat.le_succ _) ⟨?_, out, cn, hv, hobj⟩, rfl, q _ (I.hok.fresh (Nat.le_succ _))⟩
    rw [List.length_map, List.length_mergeSort, List.length_zip]; omega
def srtAD : D → R D
  | .lst ds => if srtOk ds then .ok (.lst (srt ds)) else .fail
  | .tup ds => if srtOk ds then .ok (.lst (srt ds)) else .fail
  | _ => .fail
theorem c_srtA (hk : k.K = X.K) (hu : X.A.units + 64 < cLine) : ClR X k (.builtin "sorted") .fr (f1 srtAD) := cl1 ((cr_srt hu).or (cr_srtT hu)) fun G H x v d e n hg Q p => by
  cases x <;> simp only [srtAD] at hg <;> first | (cases hg; done) | skip
  · split at hg
    · rename_i ho
      cases hg; obtain ⟨a, vs, rfl, ha, r⟩ := n.tup
      have hd : doks 59 _ = true := (by unfold srtOk at ho; simp only [Bool.and_eq_true] at ho; exact ho.1.1)
      refine .inr ⟨a, vs, _, rfl, hk ▸ e.sqT ha.t, hk ▸ (r.mono e).dp 59 hd, fun p hp q hq => ?_, srt_sortable ho, fun q hq => ?_, fun pp hp => p _ _ _ (Step.new' e hp) ⟨pp, _, rfl, e.free hp, hp, upd_same, .lst r.srt⟩⟩
      · obtain ⟨d1, h1, rfl⟩ := toPs_mem hp
        obtain ⟨d2, h2, rfl⟩ := toPs_mem hq
        unfold srtOk at ho
        simp only [Bool.and_eq_true, List.all_eq_true] at ho
        exact alikeD_of _ _ (ho.1.2 d1 h1 d2 h2)
      · obtain ⟨d1, h1, rfl⟩ := toPs_mem hq
        have := (dok_lay 59 d1 (doks_mem hd h1)).2
        omega
    · cases hg
  · split at hg
    · rename_i ho
      cases hg; obtain ⟨a, vs, rfl, ha, r⟩ := n.lst e
      have hd : doks 59 _ = true := (by unfold srtOk at ho; simp only [Bool.and_eq_true] at ho; exact ho.1.1)
      refine .inl ⟨a, vs, _, rfl, SqL.of ha, hk ▸ (r.mono e).dp 59 hd, fun p hp q hq => ?_, srt_sortable ho, fun q hq => ?_, fun pp hp => p _ _ _ (Step.new' e hp) ⟨pp, _, rfl, e.free hp, hp, upd_same, .lst r.srt⟩⟩
      · obtain ⟨d1, h1, rfl⟩ := toPs_mem hp
        obtain ⟨d2, h2, rfl⟩ := toPs_mem hq
        unfold srtOk at ho
        simp only [Bool.and_eq_true, List.all_eq_true] at ho
        exact alikeD_of _ _ (ho.1.2 d1 h1 d2 h2)
      · obtain ⟨d1, h1, rfl⟩ := toPs_mem hq
        have := (dok_lay 59 d1 (doks_mem hd h1)).2
        omega
    · cases hg
end
end M
set_option Elab.async false
set_option linter.all false
set_option maxRecDepth 100000
set_option maxHeartbeats 4000000
namespace MxD
open PySem
open Sem (wp)
theorem nm : (toString "max" ++ toString ".loop" : String) = "max.loop" := by decide
theorem argsD (a d : Value) : argsOk "max" ⟨[a], [(Str.ofString "default", d)]⟩ := by unfold argsOk; kernel_rfl
abbrev kwD (d : Value) : List (Str × Value) := [(Str.ofString "default", d)]
section
variable {p : Program} {w : World} {A : Around} {R : Result → Shared → Prop} {I B : Addr} {fp wr : List Addr} {n : Nat} {P : Nat → Value → Prop} {St : Nat → Heap → Prop} {bt : Nat → Nat → Bool} {dv : Value}
theorem lp (W : Walks p w A.in1 I fp wr n P St) (cm : CmpOf p w A.in1 .Gt P bt) (out : B ∉ fp) : ∀ (m i : Nat) (s : Shared) (v : Value) (c : Nat), n - (i + 1) = m → i + 1 ≤ n → St (i + 1) s.heap → P (argBest bt i) v →
    s.heap.get? B = some { cls := .type "list", dict := none, data := .seq #[v, v] c, slots := #[] } →
    (∀ u h tk, P (argBest bt (n - 1)) u → (∀ b o, b ∉ wr → b ≠ B → s.heap.get? b = some o → h.get? b = some o) → R (.ok (.ret u)) { s with heap := h, toks := tk }) →
    codeAny (model p w) A (.builtin "max.loop" ⟨[.ref I, .none, .ref B], kwD dv⟩) R s := by
  have ow : B ∉ wr := fun z => out (W.sub _ z)
  intro m
  induction m with
  | zero =>
    intro i s v c em le st pb hb q
    have en : i + 1 = n := by omega
    refine codeAny_builtin F.entry_max_loop ?_
    rw [Around.under_plainId F.plain_max_loop _]
    show wpAny _ A.in1 (seqItems? (.ref B) >>= _) _ _ s
    refine wpAny_bind (wpAny_seqItems hb rfl ?_)
    show wpAny _ A.in1 (tryCatch (pyNext (.ref I)) _ >>= _) _ _ s
    refine wpAny_bind (wpAny_tryCatch (W.done s _ _ (en ▸ st) fun h1 tk k1 => ?_))
    have hb1 := k1 B _ ow hb
    show wpAny _ A.in1 (updateSeq B (fun _ => #[]) >>= _) _ _ _
    refine wpAny_bind (wpAny_updateSeq hb1 rfl (wpAny_bind (wpAny_letGo (wpAny_pure ?_))))
    exact q v _ tk (by rw [← en]; exact pb) fun b o nw nb e => (Heap.get?_update_other _ _ (Ne.symm nb)).trans (k1 b o nw e)
  | succ m ih =>
    intro i s v c em le st pb hb q
    have lt : i + 1 < n := by omega
    refine codeAny_builtin F.entry_max_loop ?_
    rw [Around.under_plainId F.plain_max_loop _]
    show wpAny _ A.in1 (seqItems? (.ref B) >>= _) _ _ s
    refine wpAny_bind (wpAny_seqItems hb rfl ?_)
    show wpAny _ A.in1 (tryCatch (pyNext (.ref I)) _ >>= _) _ _ s
    refine wpAny_bind (wpAny_tryCatch (W.item (i + 1) s _ _ lt st fun u h1 tk pu st1 k1 => ?_))
    have hb1 := k1 B _ ow hb
    show wpAny _ A.in1 (tryCatch (holding [u, u] (richCompare .Gt u v >>= _)) _ >>= _) _ _ _
    refine wpAny_bind (wpAny_tryCatch (wpAny_holding (wpAny_bind (cm (i + 1) (argBest bt i) u v _ _ _ pu pb (wpAny_bind (wpAny_holding (wpAny_truthy_bool (wpAny_bind (wpAny_letGo (wpAny_pure ?_)))))))))) 
    cases hc : bt (i + 1) (argBest bt i) with
    | true =>
      simp only [if_true]
      refine wpAny_bind (wpAny_updateSeq hb1 rfl (wpAny_bind (wpAny_letGo ?_)))
      rw [nm]
      refine wpAny_pure ⟨plainId_quiet F.plain_max_loop _, ih (i + 1) _ u _ (by omega) lt (W.frame _ _ _ st1 fun b bf o e => ?_) (by simp only [argBest, hc, if_true]; exact pu) (Heap.get?_update_self _ hb1 rfl) fun u' h2 tk2 p2 k2 => ?_⟩
      · exact (Heap.get?_update_other _ _ (fun z : B = b => out (by rw [z]; exact bf))).trans e
      · exact q u' h2 tk2 p2 fun b o nw nb e => k2 b o nw nb ((Heap.get?_update_other _ _ (Ne.symm nb)).trans (k1 b o nw e))
    | false =>
      simp only [Bool.false_eq_true, if_false]
      refine wpAny_bind (wpAny_letGo ?_)
      rw [nm]
      exact wpAny_pure ⟨plainId_quiet F.plain_max_loop _, ih (i + 1) _ v c (by omega) lt st1 (by simp only [argBest, hc, Bool.false_eq_true, if_false]; exact pb) hb1 fun u' h2 tk2 p2 k2 => q u' h2 tk2 p2 fun b o nw nb e => k2 b o nw nb (k1 b o nw e)⟩
theorem lp0 (W : Walks p w A.in1 I fp wr n P St) (cm : CmpOf p w A.in1 .Gt P bt) (out : B ∉ fp) {s : Shared} {c : Nat} (st : St 0 s.heap)
    (hb : s.heap.get? B = some { cls := .type "list", dict := none, data := .seq #[] c, slots := #[] })
    (q0 : n = 0 → ∀ h tk, (∀ b o, b ∉ wr → b ≠ B → s.heap.get? b = some o → h.get? b = some o) → R (.ok (.ret dv)) { s with heap := h, toks := tk })
    (q : 0 < n → ∀ u h tk, P (argBest bt (n - 1)) u → (∀ b o, b ∉ wr → b ≠ B → s.heap.get? b = some o → h.get? b = some o) → R (.ok (.ret u)) { s with heap := h, toks := tk }) :
    codeAny (model p w) A (.builtin "max.loop" ⟨[.ref I, .none, .ref B], kwD dv⟩) R s := by
  have ow : B ∉ wr := fun z => out (W.sub _ z)
  refine codeAny_builtin F.entry_max_loop ?_
  rw [Around.under_plainId F.plain_max_loop _]
  show wpAny _ A.in1 (seqItems? (.ref B) >>= _) _ _ s
  refine wpAny_bind (wpAny_seqItems hb rfl ?_)
  show wpAny _ A.in1 (tryCatch (pyNext (.ref I)) _ >>= _) _ _ s
  rcases Nat.eq_zero_or_pos n with hn | hn
  · refine wpAny_bind (wpAny_tryCatch (W.done s _ _ (hn ▸ st) fun h1 tk k1 => ?_))
    show wpAny _ A.in1 (rule _ >>= _) _ _ _
    refine wpAny_bind (wpAny_rule ?_)
    exact wpAny_pure (q0 hn _ tk fun b o nw nb e => k1 b o nw e)
  · refine wpAny_bind (wpAny_tryCatch (W.item 0 s _ _ hn st fun u h1 tk pu st1 k1 => ?_))
    have hb1 := k1 B _ ow hb
    show wpAny _ A.in1 (updateSeq B (fun _ => #[u, u]) >>= _) _ _ _
    refine wpAny_bind (wpAny_updateSeq hb1 rfl ?_)
    rw [nm]
    refine wpAny_pure ⟨plainId_quiet F.plain_max_loop _, lp W cm out _ 0 _ u _ rfl hn (W.frame _ _ _ st1 fun b bf o e => ?_) pu (Heap.get?_update_self _ hb1 rfl) fun u' h2 tk2 p2 k2 => ?_⟩
    · exact (Heap.get?_update_other _ _ (fun z : B = b => out (by rw [z]; exact bf))).trans e
    · exact q hn u' h2 tk2 p2 fun b o nw nb e => k2 b o nw nb ((Heap.get?_update_other _ _ (Ne.symm nb)).trans (k1 b o nw e))
end
section
variable {p : Program} {w : World} {A : Around} {E : Value → Shared → Prop} {s : Shared} {l : Addr} {xs : Array (Int × Tok)} {dv : Value}
theorem mx {Q : Value → Shared → Prop} (hh : A.handled = none) (hl : s.heap.IsList l (intItems xs))
    (q0 : xs.size = 0 → ∀ h tk, (∀ b o, s.heap.get? b = some o → h.get? b = some o) → Q dv { s with heap := h, toks := tk })
    (q : 0 < xs.size → ∀ v h tk, (intItems xs)[argBest (fun i j => decide (numAt xs i > numAt xs j)) (xs.size - 1)]? = some v → (∀ b o, s.heap.get? b = some o → h.get? b = some o) → Q v { s with heap := h, toks := tk }) :
    wpAny (model p w) A (call (.builtin "max") [.ref l] (kwD dv)) Q E s := by
  refine PyProof.Rows.kmk_tree F.kind_max F.plain_max F.entry_max (argsD _ _) ?_
  show wpAny _ A.in1 (Builtin.Builtins.bindParams "max" ["key", "default"] 0 ⟨[], kwD dv⟩ >>= _) _ _ s
  refine wpAny_bind (wpAny_of_eq (show Builtin.Builtins.bindParams "max" ["key", "default"] 0 ⟨[], kwD dv⟩ = pure [none, some dv] from rfl) ?_)
  refine wpAny_bind (wpAny_pure ?_)
  refine wpAny_bind (iter_intList hl fun s2 e st hfp ne => ?_)
  subst e
  refine wpAny_bind (wpAny_newObj_type ?_)
  have W := Walks.list (prog := p) (w := w) (A := A.in1) hh s.heap.objs.size l ne (intItems xs)
  have sz : (intItems xs).size = xs.size := by simp [intItems]
  have old : ∀ {h2 : Heap} (hk : ∀ b o, b ∉ [s.heap.objs.size] → (s.heap.push { cls := .type "list_iterator", data := .fields #[.ref l, .int 0 0] }).get? b = some o → h2.get? b = some o), ∀ b o, s.heap.get? b = some o → h2.get? b = some o := fun hk => old_kept hk
  rw [nm]
  refine wpAny_pure ⟨plainId_quiet F.plain_max_loop _, lp0 W (CmpOf.ints_gt (numAt xs) (fun _ _ => intItems_at)) (fun z => Nat.lt_irrefl _ (hfp _ z)) (W.frame _ _ _ st fun b _ o e => Heap.get?_push_of_some _ e) (Heap.get?_push_size _ rfl) (fun hn h tk hk => ?_) (fun hn v h tk hP hk => ?_)⟩
  · exact q0 (by omega) h tk (old fun b o nw e => hk b o nw (Nat.ne_of_lt (Heap.lt_size e)) (Heap.get?_push_of_some _ e))
  · exact q (by omega) v h tk (by rw [← sz]; exact hP) (old fun b o nw e => hk b o nw (Nat.ne_of_lt (Heap.lt_size e)) (Heap.get?_push_of_some _ e))
end
end MxD
namespace M
open PySem L2
section
variable {X : Cx} {c : Cf} {k : Kn} {e : Expr} {pos : Pos}
end
end M
set_option Elab.async false
set_option linter.all false
set_option maxRecDepth 100000
set_option maxHeartbeats 4000000
namespace PySem
namespace SupX
open PySem.W PySem.Calls PyProof.Rows PySem.HandSPX
def Stores : List Str → List Stmt → Prop
  | [], [] => True
  | f :: fs, st :: sts => (∃ p1 p2 p3 p4 : Pos, st = .Assign [.Attribute (.Name "self" p1) f p2] (.Name f p3) p4) ∧ Stores fs sts
  | _, _ => False
def InitBody (fs : List Str) (body : List Stmt) : Prop :=
  ∃ (p0 p1 p2 p3 p4 p5 : Pos) (m : Str) (j : Nat) (sts : List Stmt), body = .Expr (.Call (.Attribute (.Call (.Name "super" p0) [] [] p1) "__init__" p2) [.Constant (.str m) j p3] [] p4) p5 :: sts ∧ (p2.endLine == p4.line) = true ∧ Stores fs sts
structure SupT (prog : Program) (K : Frag) (C fI : Addr) (fs : List Str) : Prop where
  cls : ∃ nm q N bs bm sn sub ab col dd k0 k1 k2 k3 k5, K.lookup C = some (excClassObj nm q C N bs bm true sn sub ab col dd k0 k1 k2 k3 k5 "ValueError.__new__") ∧ refsVE bm = true
  sa : findIn K (.ref C) "__setattr__" = some (some (.builtin "object.__setattr__"))
  noN : ∀ f, f ∈ fs → findIn K (.ref C) f = some none
  nd : ((("self" : Str)) :: fs).Nodup
  nod : ∀ f, f ∈ fs → (f == ("__debug__" : Str)) = false
  sup : ks_superIn K C C "__init__" = some (some (.builtin "ValueError.__init__"))
  isV : subIn K (.ref C) (.type "ValueError") = some true
  mro : mroIn K C (.ref C) = some true
  opq : nsIn K cStatics "thirdparty.any" = some none
  iC : findIn K (.ref C) "__init__" = some (some (.ref fI))
  tI : typeIn K (.ref fI) = some (.type "function")
  sup0 : nsIn K mainGlobals "super" = some none
  htop : (prog.main.scope.names.lookup ("super" : Str)).isSome = false
  fn : ∃ (oc : Value) (od : Option Addr) (qual : Str) (params : Arguments) (body : List Stmt) (scope : Scope) (dV kV doc pm : Value) (an : Option Addr) (ct : Value) (osl : Array (Option Value)) (cda cc : Addr)
      (ccl cl : Value) (cdd cld : Option Addr) (vs : Array Value) (ccs csl : Array (Option Value)) (file : Str) (tf : Tok) (ar : Arg),
    K.lookup fI = some ⟨oc, od, .func (ksFn "__init__" qual params body scope dV kV doc pm an (.ref cda) ct cc), osl⟩ ∧ codeIn K (.ref cda) qual = true ∧ K.lookup cda = some ⟨ccl, cdd, .fields vs, ccs⟩ ∧ vs[2]? = some (.str file tf) ∧
    ((prog.main.file : Str) == file) = true ∧ K.lookup cc = some ⟨cl, cld, .cell (some (.ref C)), csl⟩ ∧ InitBody fs body ∧ (params.posonlyargs ++ params.args).head? = some ar ∧ ar.arg = "self" ∧
    (∀ (s : Shared) (us : List Value), us.length = fs.length + 1 → BindsTo s (ksFn "__init__" qual params body scope dV kV doc pm an (.ref cda) ct cc) ⟨us, []⟩ ((("self" : Str) :: fs).zip us)) ∧
    scope.names.lookup ("super" : Str) = some .globalImplicit ∧ scope.names.lookup ("__class__" : Str) = some .free ∧ (∀ f, f ∈ ("self" : Str) :: fs → scope.names.lookup f = some .local) ∧ scope.kind = .function ∧ scope.isGenerator = false ∧ scope.isCoroutine = false ∧
    (∀ x ∈ scope.names, x.2 ≠ .cell)
def exD (C t : Addr) (d : Option Addr) : Obj := { cls := .ref C, dict := d, data := .fields #[.ref t, .none, .none, .none, .bool false, .none] }
section
variable {prog : Program} {w : World} {A : Around} {E : Value → Shared → Prop} {K : Frag} {C fI : Addr} {fs : List Str}
structure InitEnd (h h' : Heap) (x C dx t : Addr) (mD : Str → Option Value) : Prop where
  keep : ∀ b o, b ≠ x → h.get? b = some o → h'.get? b = some o
  obj : h'.get? x = some (exD C t (some dx))
  dbig : h.objs.size ≤ dx
  dne : dx ≠ x
  ns : h'.Ns1 dx mD
end
end SupX
end PySem
set_option Elab.async false
set_option linter.all false
set_option maxRecDepth 100000
set_option maxHeartbeats 4000000
namespace PySem
namespace SupX
open PySem.W PySem.Calls PyProof.Rows PySem.HandSPX
structure Made (h h' : Heap) (e C d : Addr) (mD : Str → Option Value) : Prop where
  keep : ∀ b o, h.get? b = some o → h'.get? b = some o
  new : h.objs.size ≤ e
  obj : ∃ t, h'.get? e = some (exD C t (some d))
  dbig : h.objs.size ≤ d
  dne : d ≠ e
  ns : h'.Ns1 d mD
section
variable {prog : Program} {w : World} {A : Around} {E : Value → Shared → Prop} {K : Frag} {C fI : Addr} {fs : List Str}
end
end SupX
end PySem
namespace M
open PySem L2 PySem.W PySem.Calls PyProof.Rows
section
variable {X : Cx} {C fI : Addr}
end
end M
set_option Elab.async false
set_option linter.all false
set_option maxRecDepth 100000
set_option maxHeartbeats 4000000
namespace M
open PySem L2
def xix : Nat := 1000000
def Kn.at (k : Kn) (a : Addr) : Kn := ⟨k.K, fun i => if i = xix then some (a, []) else k.cl i⟩
mutual
def D.noX : D → Bool
  | .cls c => decide (c ≠ xix)
  | .obj c xs => decide (c ≠ xix) && D.noXs xs
  | .tup xs => D.noXs xs
  | .lst xs => D.noXs xs
  | .dic _ xs => D.noXs xs
  | .dit _ xs => D.noXs xs
  | .dkf _ xs => D.noXs xs
  | .dig _ xs => D.noXs xs
  | .dgf _ xs => D.noXs xs
  | _ => true
def D.noXs : List D → Bool
  | [] => true
  | x :: xs => x.noX && D.noXs xs
end
theorem Kn.at_cl {k : Kn} {a : Addr} {i : Nat} (h : i ≠ xix) : (k.at a).cl i = k.cl i := if_neg h
theorem Kn.up {k : Kn} {a : Addr} (h0 : k.cl xix = none) {i : Nat} {p : Addr × List Str} (h : k.cl i = some p) : (k.at a).cl i = some p := by
  rw [Kn.at_cl]; exact h
  rintro rfl; rw [h0] at h; cases h
mutual
theorem RD.up {k : Kn} {G : Hp} {a : Addr} (h0 : k.cl xix = none) : ∀ {d : D} {v : V}, RD k G d v → RD (k.at a) G d v
  | _, _, .non => .non
  | _, _, .bl b => .bl b
  | _, _, .int i => .int i
  | _, _, .str x => .str x
  | _, _, .ty n => .ty n
  | _, _, .tup h r => .tup h (RDs.up h0 r)
  | _, _, .lst h r => .lst h (RDs.up h0 r)
  | _, _, .scr h => .scr h
  | _, _, .cls h => .cls (Kn.up h0 h)
  | _, _, .dic h l r => .dic h l (RDs.up h0 r)
  | _, _, .dit h l r => .dit h l (RDs.up h0 r)
  | _, _, .dkf h l r => .dkf h l (RDs.up h0 r)
  | _, _, .dig h l kk r => .dig h l kk (RDs.up h0 r)
  | _, _, .dgf h l kk r => .dgf h l kk (RDs.up h0 r)
  | _, _, .obj c h r => .obj (Kn.up h0 c) h (RDs.up h0 r)
theorem RDs.up {k : Kn} {G : Hp} {a : Addr} (h0 : k.cl xix = none) : ∀ {ds : List D} {vs : List V}, RDs k G ds vs → RDs (k.at a) G ds vs
  | _, _, .nil => .nil
  | _, _, .cons a b => .cons (RD.up h0 a) (RDs.up h0 b)
end
mutual
theorem RD.down {k : Kn} {G : Hp} {a : Addr} : ∀ {d : D} {v : V}, RD (k.at a) G d v → d.noX = true → RD k G d v
  | _, _, .non, _ => .non
  | _, _, .bl b, _ => .bl b
  | _, _, .int i, _ => .int i
  | _, _, .str x, _ => .str x
  | _, _, .ty n, _ => .ty n
  | _, _, .tup h r, q => by simp only [D.noX] at q; exact .tup h (RDs.down r q)
  | _, _, .lst h r, q => by simp only [D.noX] at q; exact .lst h (RDs.down r q)
  | _, _, .scr h, _ => .scr h
  | _, _, .cls h, q => by simp only [D.noX, decide_eq_true_eq] at q; rw [Kn.at_cl q] at h; exact .cls h
  | _, _, .dic h l r, q => by simp only [D.noX] at q; exact .dic h l (RDs.down r q)
  | _, _, .dit h l r, q => by simp only [D.noX] at q; exact .dit h l (RDs.down r q)
  | _, _, .dkf h l r, q => by simp only [D.noX] at q; exact .dkf h l (RDs.down r q)
  | _, _, .dig h l kk r, q => by simp only [D.noX] at q; exact .dig h l kk (RDs.down r q)
  | _, _, .dgf h l kk r, q => by simp only [D.noX] at q; exact .dgf h l kk (RDs.down r q)
  | _, _, .obj c h r, q => by
    simp only [D.noX, Bool.and_eq_true, decide_eq_true_eq] at q
    rw [Kn.at_cl q.1] at c
    exact .obj c h (RDs.down r q.2)
theorem RDs.down {k : Kn} {G : Hp} {a : Addr} : ∀ {ds : List D} {vs : List V}, RDs (k.at a) G ds vs → D.noXs ds = true → RDs k G ds vs
  | _, _, .nil, _ => .nil
  | _, _, .cons a b, q => by
    simp only [D.noXs, Bool.and_eq_true] at q
    exact .cons (RD.down a q.1) (RDs.down b q.2)
end
theorem Gc.up {mg : Str → Option Value} {k : Kn} {x : Str} {d : D} {a : Addr} (h0 : k.cl xix = none) (h : Gc mg k x d) : Gc mg (k.at a) x d := by
  obtain ⟨v, u, h1, h2, h3⟩ := h.ex
  exact ⟨v, u, h1, h2, fun G => (h3 G).up h0⟩
section
variable {P : Program} {w : World} {K : PySem.W.Frag} {mg : Str → Option Value} {base : Heap}
theorem fn_okX {k : Kn} {fr : Bool} {as : List Nat} {x qual : Str} {params : Arguments} {body : List Stmt} {scope : Scope} {dvs : List V} {kws : List (Str × V)} {f : Addr} {fd : FuncData} {N ps : List Str} {lv : Nat} {s : FS} (F : FunD K x qual params body scope dvs kws f fd) (S : FnScope N ps scope)
    (hb : ∀ (cdv : Value) (A : Around) (outer : List PySem.Env) (sh : Shared) (H G0 : Hp) (E : XK), Room lv (A.deeper (PyProof.Rows.envOfC qual scope sh.heap.objs.size f cdv)) → L2N.Takes (cxOf (L2N.CX P w) P w K mg base N qual scope f cdv A outer sh H E) (liftX E) →
      PB' (cxOf (L2N.CX P w) P w K mg base N qual scope f cdv A outer sh H E) ⟨k, H, G0, liftX E⟩ fr as body s) :
    FnOk P w K mg base (L2N.CX P w) (lv + 1) f fd ps (SpF k fr ps.length (runF fr N.length s)) := by
  refine F.ok S (fun vs H Q E q => q.1) fun cdv A outer sh H vs Q E hr q => ?_
  exact body_ok (X := cxOf (L2N.CX P w) P w K mg base N qual scope f cdv A outer sh H E) (fun G0 => hb cdv A outer sh H G0 E hr (L2N.takes_of rfl rfl rfl rfl)) q
theorem init_okX {k : Kn} {as : List Nat} {x qual : Str} {params : Arguments} {body : List Stmt} {scope : Scope} {dvs : List V} {kws : List (Str × V)} {f : Addr} {fd : FuncData} {N ps : List Str} {lv ci : Nat} {s : FS} (F : FunD K x qual params body scope dvs kws f fd) (S : FnScope N ps scope) (h0 : 0 ∉ as)
    (hb : ∀ (cdv : Value) (A : Around) (outer : List PySem.Env) (sh : Shared) (H H0 G0 : Hp) (E : XK), Room lv (A.deeper (PyProof.Rows.envOfC qual scope sh.heap.objs.size f cdv)) → L2N.Takes (cxOf (L2N.CX P w) P w K mg base N qual scope f cdv A outer sh H E) (liftX E) →
      PB' (cxOf (L2N.CX P w) P w K mg base N qual scope f cdv A outer sh H E) ⟨k, H0, G0, liftX E⟩ false as body s) :
    FnOk P w K mg base (L2N.CX P w) (lv + 1) f fd ps (SpN k ci ps.length (runN N.length ci s)) := by
  refine F.ok S (fun vs H Q E q => q.1) fun cdv A outer sh H vs Q E hr q => ?_
  exact body_init (X := cxOf (L2N.CX P w) P w K mg base N qual scope f cdv A outer sh H E) h0 (fun H0 G0 => hb cdv A outer sh H H0 G0 E hr (L2N.takes_of rfl rfl rfl rfl)) q
end
structure CalleeX (P : Program) (w : World) (K : PySem.W.Frag) (mg : Str → Option Value) (base : Heap) (k : Kn) (lv : Nat) (x : Str) (n : Nat) (fr : Bool) (den : List D → R D) : Prop where
  ex : ∃ (f : Addr) (fd : FuncData) (ps : List Str), ps.length = n ∧ FnOk P w K mg base (L2N.CX P w) lv f fd ps (SpF k fr n den) ∧ mg x = some (.ref f) ∧ PySem.W.keepIn K (.ref f) = true ∧ Binds K fd ps []
structure MethodX (P : Program) (w : World) (K : PySem.W.Frag) (mg : Str → Option Value) (base : Heap) (k : Kn) (lv : Nat) (ci : Nat) (m : Str) (n : Nat) (fr : Bool) (den : List D → R D) : Prop where
  ex : ∃ (C f : Addr) (fd : FuncData) (ps nm : List Str), ps.length = n ∧ k.cl ci = some (C, nm) ∧ m ∉ nm ∧ Cls K C ∧ Meth K C m f ∧ FnOk P w K mg base (L2N.CX P w) lv f fd ps (SpF k fr n den) ∧ Binds K fd ps []
structure MakerX (P : Program) (w : World) (K : PySem.W.Frag) (mg : Str → Option Value) (base : Heap) (k : Kn) (lv : Nat) (x : Str) (ci n : Nat) (den : List D → R D) : Prop where
  ex : ∃ (C f : Addr) (fd : FuncData) (ps : List Str) (nm : List Str), ps.length = n + 1 ∧ k.cl ci = some (C, nm) ∧ Mk K C f ∧ FnOk P w K mg base (L2N.CX P w) lv f fd ps (SpN k ci (n + 1) den) ∧ mg x = some (.ref C) ∧ Binds K fd ps []
section
variable {X : Cx} {c : Cf} {kd k1 k2 k3 : Kd} {a b e o : Expr} {f g h : FE} {pos apos : Pos} {fr : Bool} {x : Str} {den : List D → R D} {ci : Nat}
def eCX (o : List D → R D) (g : FA) : FE := fun S => g S >>= fun xs => o xs
theorem callX_go {n : Nat} {fa : FA} {σ : L2.St} {H : Hp} {Q : VK} (hl : ∀ S ds, fa S = .ok ds → ds.length = n) (q : RdE c (kdOf fr) (eCX den fa) σ H Q) : RdA c false fa σ H fun vs H1 => SpF c.k fr n den vs H1 Q (WE c.W σ) := by
  obtain ⟨G, S, rel, p⟩ := q
  have p : PostE c (kdOf fr) G S σ H Q (fa S >>= fun ds => den ds) := p
  refine ⟨G, S, rel, ?_⟩
  cases e0 : fa S with
  | exc x => rw [e0] at p; exact p
  | fail => rw [e0] at p; exact p
  | ok ds =>
    rw [e0] at p
    intro vs G1 H1 s1 q1
    have q1 : RDs c.k G1 ds vs := q1
    refine ⟨by rw [← q1.length]; exact hl S ds e0, G1, ds, s1.gh, q1, ?_⟩
    have p : PostE c (kdOf fr) G S σ H Q (den ds) := p
    cases e1 : den ds with
    | ok d => rw [e1] at p; exact fun v G' H' s2 r2 => p v G' H' (s1.trans s2) (r2.mono s1.h)
    | exc x =>
      rw [e1] at p
      have p : PX c σ x := p
      exact fun _ cls da G' H' s2 xr => p cls da G' H' ((rel.grow s1).st.trans s2) xr
    | fail => rw [e1] at p; exact p.elim
theorem d_callX {lv m n : Nat} {p : Pos} {es : List Expr} {fa : FA} (F : CalleeX X.prog X.w X.K X.mg X.base c.k lv x n fr den) (hr : Room m X.A) (hle : lv ≤ m) (tk : L2N.Takes X c.W) (ha : PA' X c false (e :: es) fa) (hl : Len n fa) (hg : Gl X x := by rfl) (hdb : (x == ("__debug__" : Str)) = false := by decide)
    (hs : starEach (e :: es) X.env = (false, eval e X.env) :: starEach es X.env := by rfl) (hs2 : ((backTo pos (starEach es X.env)).any fun x => x.1) = false := by rfl) : PE' X c (kdOf fr) (.Call (.Name x p) (e :: es) [] pos) (eCX den fa) := by
  obtain ⟨f, fd, ps, hn, ok, hm, hk, hb⟩ := F.ex
  exact peI (pe_callS ok (hr.mono hle) hg hm hk hb (fun σ => L2N.passAt tk σ) ha hdb hs hs2) fun σ H Q q => callX_go hl q
def eMX (ci : Nat) (den : List D → R D) (f : FE) (fa : FA) : FE := fun S => f S >>= fun o => if o.isObj ci then fa S >>= fun ds => den (o :: ds) else .fail
end
end M
set_option Elab.async false
set_option linter.all false
set_option maxRecDepth 100000
set_option maxHeartbeats 4000000
namespace M
open PySem L2
section
variable {X : Cx} {c : Cf} {kd k1 k2 k3 : Kd} {a b e o : Expr} {f g h : FE} {pos apos : Pos} {fr : Bool} {x : Str} {den : List D → R D} {ci : Nat}
theorem run_makeS {CX : CXT} {k : Nat} {C f : Addr} {fd : FuncData} {ps : List Str} {sp : Sp} {E : XK} {pins : List (Addr × Obj)} {σ : L2.St} {H : Hp} {s : Shared} {Q : VK} {us : List Value} {vs : List V} (Mm : Mk X.K C f) (F : FnOk X.prog X.w X.K X.mg X.base CX k f fd ps sp) (hr : Room (k + 1) X.A) (hb : Binds X.K fd ps [])
    (hx : ∀ (H : Hp) (s : Shared) (e : Value) (s' : Shared), L2.Inv X pins σ H s → CX X.stack H s E e s' → X.xe e s') (I : L2.Inv X pins σ H s) (r : Vals vs us)
    (h : ∀ x dx, H x = none → H dx = none → dx ≠ x → sp (.ref x :: vs) (upd (upd H dx (.own x)) x (.ins C dx [])) (fun v H2 => v = .non ∧ Q (.ref x) H2) E) :
    wpAny (model X.prog X.w) X.A (call (.ref C) us) (EP X pins σ Q) X.xe s := by
  have hq := h (s.heap.objs.size + 1) s.heap.objs.size (I.hok.fresh (Nat.le_succ _)) (I.hok.fresh (Nat.le_refl _)) (Nat.ne_of_lt (Nat.lt_succ_self _))
  have I2 := L2.Inv.made (C := C) I
  have r2 : Vals (V.ref (s.heap.objs.size + 1) :: vs) (Value.ref (s.heap.objs.size + 1) :: us) := .cons rfl r
  have hl : (Value.ref (s.heap.objs.size + 1) :: us).length = ps.length := by
    have e := r2.length
    rw [F.len _ _ _ _ hq] at e
    exact e.symm
  have bb := hb _ (Value.ref (s.heap.objs.size + 1) :: us) I2.kIn (by rw [List.append_nil]; exact hl)
  rw [List.append_nil] at bb
  refine wpAny_call (make_map (f := f) I.kIn Mm.makes Mm.init (beq_iff_eq.mp Mm.fn) (codeAny_mono (F.run _ X.stack _ _ ⟨Value.ref (s.heap.objs.size + 1) :: us, []⟩ (Value.ref (s.heap.objs.size + 1) :: us) _ _ E (hr.make C us [])
    (I2.env0.make C us []) bb r2 hq) fun r s' hq' => ?_))
  cases r with
  | error e => exact hx _ _ e s' I2 hq'
  | ok fl =>
    cases fl with
    | ret u =>
      obtain ⟨v, H', I3, rv, ev, q3⟩ := I2.after hq'
      subst ev
      exact ⟨rv, ⟨V.ref (s.heap.objs.size + 1), H', I3, rfl, q3⟩⟩
    | next => exact False.elim hq'
    | brk => exact False.elim hq'
    | cont => exact False.elim hq'
def tMakeS (C : Addr) (sp : Sp) (E : L2.St → XK) (t : TA) : TE := fun σ H Q => t σ H fun vs H1 => ∀ x dx, H1 x = none → H1 dx = none → dx ≠ x → sp (.ref x :: vs) (upd (upd H1 dx (.own x)) x (.ins C dx [])) (fun v H2 => v = .non ∧ Q (.ref x) H2) (E σ)
theorem pe_makeS {CX : CXT} {E : L2.St → XK} {k : Nat} {C f : Addr} {fd : FuncData} {ps : List Str} {sp : Sp} {p : Pos} {es : List Expr} {t : TA} (Mm : Mk X.K C f) (F : FnOk X.prog X.w X.K X.mg X.base CX k f fd ps sp) (hr : Room (k + 1) X.A) (hg : Gl X x) (hm : X.mg x = some (.ref C)) (hb : Binds X.K fd ps []) (hx : ∀ σ, PassesAt CX X σ (E σ))
    (ha : PA X (e :: es) t) (hdb : (x == ("__debug__" : Str)) = false := by decide) (he : starEach (e :: es) X.env = (false, eval e X.env) :: starEach es X.env := by rfl) (hpl : (backTo pos (starEach es X.env)).any (·.1) = false := by rfl) :
    PE X (.Call (.Name x p) (e :: es) [] pos) (tMakeS C sp E t) := by
  refine ⟨fun pins s σ H Q I h => ?_⟩
  refine wpAny_Call_Name_kw (ld_glob I hg hm ?_ hdb)
  refine PySem.W.callWith_K (h₀ := X.base) I.ok.mod.kin Mm.kp (thn (ha.run pos pins s σ H _ I h) fun us s1 ⟨vs, H1, I1, r, q⟩ => ⟨I1.kIn, ?_⟩) he hpl
  exact run_makeS Mm F hr hb (fun H s e s' => hx σ pins H s e s') I1 r q
theorem makeX_go {C : Addr} {nm : List Str} {n : Nat} {fa : FA} {σ : L2.St} {H : Hp} {Q : VK} (hcl : c.k.cl ci = some (C, nm)) (hl : Len n fa) (q : RdE c .fr (eCX den fa) σ H Q) :
    RdA c false fa σ H fun vs H1 => ∀ x dx, H1 x = none → H1 dx = none → dx ≠ x → SpN c.k ci (n + 1) den (.ref x :: vs) (upd (upd H1 dx (.own x)) x (.ins C dx [])) (fun v H2 => v = .non ∧ Q (.ref x) H2) (WE c.W σ) := by
  obtain ⟨G, S, rel, p⟩ := q
  have p : PostE c .fr G S σ H Q (fa S >>= fun ds => den ds) := p
  refine ⟨G, S, rel, ?_⟩
  cases e0 : fa S with
  | exc x => rw [e0] at p; exact p
  | fail => rw [e0] at p; exact p
  | ok ds =>
    rw [e0] at p
    intro vs G1 H1 s1 q1 x dx hx hdx hne
    have q1 : RDs c.k G1 ds vs := q1
    have hgx : G1 x = none := s1.gh.free hx
    have ex1 : Ex H1 (upd (upd H1 dx (.own x)) x (.ins C dx [])) := (Ex.new hdx).upd hx
    refine ⟨by simp [← q1.length, hl S ds e0], x, vs, G1, ds, C, dx, nm, rfl, hcl, upd_same, hgx, s1.gh.trans ex1, q1, ?_⟩
    have p : PostE c .fr G S σ H Q (den ds) := p
    cases e1 : den ds with
    | ok d =>
      rw [e1] at p
      intro G' H' o ex hk gh hgx' gr ho ct
      refine ⟨rfl, p _ G' H' (s1.trans ⟨ex, fun b u q => hk b u (ne_of_none q hx) (ex1 b u q), gh, fun b u q => ?_⟩) ⟨x, o, rfl, hgx', s1.h.free hx, ho, ct⟩⟩
      rcases gr b u q with z | z
      · exact .inl z
      · exact .inr (ex1.free z)
    | exc y =>
      rw [e1] at p
      have p : PX c σ y := p
      intro _ cls da G' H' s2 xr
      have exl : Ex H1 (less (upd (upd H1 dx (.own x)) x (.ins C dx [])) x) := fun b u q => by
        rw [less_ne (ne_of_none q hx)]; exact ex1 b u q
      refine p cls da G' H' ((rel.grow s1).st.trans ⟨s2.g, fun b u q => s2.h b u (exl b u q), s2.gh, fun b u q => ?_⟩) xr
      rcases s2.gr b u q with z | z
      · exact .inl z
      · exact .inr (exl.free z)
    | fail => rw [e1] at p; exact p.elim
theorem d_makerX {lv m' n : Nat} {p : Pos} {es : List Expr} {fa : FA} (F : MakerX X.prog X.w X.K X.mg X.base c.k lv x ci n den) (hr : Room m' X.A) (hle : lv + 1 ≤ m') (tk : L2N.Takes X c.W) (ha : PA' X c false (e :: es) fa) (hl : Len n fa) (hg : Gl X x := by rfl) (hdb : (x == ("__debug__" : Str)) = false := by decide)
    (hs : starEach (e :: es) X.env = (false, eval e X.env) :: starEach es X.env := by rfl) (hs2 : ((backTo pos (starEach es X.env)).any fun x => x.1) = false := by rfl) : PE' X c .fr (.Call (.Name x p) (e :: es) [] pos) (eCX den fa) := by
  obtain ⟨C, f, fd, ps, nm, hn, hcl, mk, ok, hm, hb⟩ := F.ex
  exact peI (pe_makeS mk ok (hr.mono hle) hg hm hb (fun σ => L2N.passAt tk σ) ha hdb hs hs2) fun σ H Q q => makeX_go hcl hl q
structure RaO (K : PySem.W.Frag) (mg : Str → Option Value) (k : Kn) (x : Str) (ci : Nat) : Prop where
  ex : ∃ C, k.cl ci = some (C, []) ∧ PySem.W.excIn K C [.type "ValueError", .type "Exception", .type "BaseException", .type "object"] "ValueError.__new__" = true ∧ mg x = some (.ref C) ∧ PySem.W.keepIn K (.ref C) = true ∧
    PySem.W.subIn K (.ref C) (.type "BaseException") = some true ∧ PySem.W.typeIn K (.ref C) = some (.type "type")
structure RaI (P : Program) (K : PySem.W.Frag) (mg : Str → Option Value) (k : Kn) (x : Str) (ci : Nat) (fs : List Str) : Prop where
  ex : ∃ C fI, k.cl ci = some (C, fs) ∧ fs ≠ [] ∧ fs.length ≤ 900 ∧ PySem.SupX.SupT P K C fI fs ∧ mg x = some (.ref C) ∧ PySem.W.keepIn K (.ref C) = true ∧
    PySem.W.subIn K (.ref C) (.type "BaseException") = some true ∧ PySem.W.typeIn K (.ref C) = some (.type "type")
def sExc0 (ci : Nat) : FS := fun _ => .exc ⟨ci, []⟩
theorem s_raise0 {j : Nat} {p p2 pos' : Pos} {m : Str} (R : RaO X.K X.mg c.k x ci) (hc : X.calm = true) (tk : L2N.Takes X c.W) (hg : Gl X x := by rfl) (hdb : (x == ("__debug__" : Str)) = false := by decide) :
    PS' X c fr [] (.Raise (some (.Call (.Name x p) [.Constant (.str m) j p2] [] pos)) none pos') (sExc0 ci) := by
  obtain ⟨C, hcl, h1, h2, h3, h4, h5⟩ := R.ex
  refine psI (L2N.ps_raise hc tk (L2N.pmk_own PySem.F.excBase_ValueError h1 h2 h3 (raises_own h4 h5) hg hdb)) fun Dn σ H ⟨G, S, rel, p⟩ => ?_
  have p : PXs c ⟨ci, []⟩ := p
  exact p σ (.ref C) none G H rel.st ⟨C, [], hcl, rfl, .inl ⟨rfl, rfl, rfl⟩⟩
end
end M
set_option Elab.async false
set_option linter.all false
set_option maxRecDepth 100000
set_option maxHeartbeats 4000000
namespace M
open PySem L2
def PostS1 (c : Cf) (fr : Bool) (as : List Nat) (G : Hp) (S : Env) (σ : L2.St) (H : Hp) (Dn : Ends) : R (Fl × Env) → Prop
  | .ok z => PostS c fr as G S σ H Dn (.ok z)
  | .exc x => PX c σ x
  | .fail => False
def RdS1 (c : Cf) (fr : Bool) (as : List Nat) (f : FS) : TS := fun Dn σ H => ∃ G S, Rel c G S σ H ∧ PostS1 c fr as G S σ H Dn (f S)
abbrev PS1' (X : Cx) (c : Cf) (fr : Bool) (as : List Nat) (st : Stmt) (f : FS) : Prop := PS X st (RdS1 c fr as f)
abbrev PB1' (X : Cx) (c : Cf) (fr : Bool) (as : List Nat) (sts : List Stmt) (f : FS) : Prop := PSs X sts (RdS1 c fr as f)
theorem PostS1.of {c : Cf} {fr : Bool} {as : List Nat} {G : Hp} {S : Env} {σ : L2.St} {H : Hp} {Dn : Ends} {r : R (Fl × Env)} (p : PostS c fr as G S σ H Dn r) : PostS1 c fr as G S σ H Dn r := by
  cases r with
  | ok z => exact p
  | exc x => exact p σ
  | fail => exact p
section
variable {X : Cx} {c : Cf} {kd k1 k2 k3 : Kd} {a b e o : Expr} {f g h : FE} {t u : FT} {s r : FS} {pos apos : Pos} {fr : Bool} {x : Str} {den : List D → R D} {ci : Nat} {as bs : List Nat} {st : Stmt} {sts : List Stmt}
theorem s1_drop (he : PE' X c kd e f) (hs : swapsWith e none pos.line X.env = pure false := by rfl) : PS1' X c fr [] (.Expr e pos) (sDrop f) :=
  psI (ps_expr he hs) fun Dn σ H ⟨G, S, rel, p⟩ => by
    refine rdE_go (g := fun d => .ok (Fl.nx, S)) (Post := PostS1 c fr [] G S σ H Dn) rel p (fun _ z => z) (fun z => z) fun d v G' H' sp q p1 => ?_
    exact p1 G' σ H' sp.g (rel.grow sp) (Frm.step rel sp)
theorem PostS1.gr {G H G' H' : Hp} {S : Env} {σ : L2.St} {Dn : Ends} {q : R (Fl × Env)} (rel : Rel c G S σ H) (sp : Step G H G' H') (p : PostS1 c fr as G S σ H Dn q) : PostS1 c fr as G' S σ H' Dn q := by
  cases q with
  | ok z => exact PostS.gr rel sp p
  | exc x => exact p
  | fail => exact p
theorem PostS1.sub {as' : List Nat} {G H : Hp} {S : Env} {σ : L2.St} {Dn : Ends} {q : R (Fl × Env)} (hs : ∀ i, i ∈ as' → i ∈ as) (p : PostS1 c fr as G S σ H Dn q) : PostS1 c fr as' G S σ H Dn q := by
  cases q with
  | ok z => exact PostS.sub hs p
  | exc x => exact p
  | fail => exact p
theorem b1_one (h1 : PS1' X c fr as st s) : PB1' X c fr as [st] s := pss_one h1
def noOwn (S : Env) : Bool := S.all fun o => match o with
  | some ⟨true, _⟩ => false
  | _ => true
theorem noOwn_at {S : Env} (h : noOwn S = true) {i : Nat} {d : D} (q : S[i]? = some (some ⟨true, d⟩)) : False := by
  have := List.all_eq_true.mp h _ (List.mem_of_getElem? q)
  simp at this
def hndF (h : FS) (S : Env) : R (Fl × Env) := match h S with
  | .ok (.rt d, _) => if d.noX then .ok (.rt d, S) else .fail
  | _ => .fail
def sTryAs (mt : Nat → Option Bool) (i : Nat) (s : FS) (hnd : Exc → FS) : FS := fun S => if noOwn S then (match s S with
  | .ok z => .ok z
  | .fail => .fail
  | .exc x => match mt x.c with
    | some true => hndF (hnd x) (S.set i (some ⟨false, .cls xix⟩))
    | some false => .exc x
    | none => .fail) else .fail
theorem Rel.rebase {G H : Hp} {S : Env} {σ : L2.St} {W : WX} (rel : Rel c G S σ H) (h : noOwn S = true) : Rel ⟨c.k, H, G, W⟩ G S σ H :=
  ⟨Step.refl rel.st.gh, rel.len, rel.fz, fun i d q => (noOwn_at h q).elim, fun i j a o _ => by obtain ⟨⟨d, q⟩, _⟩ := o; exact (noOwn_at h q).elim⟩
theorem Rel.back {G H G' H' : Hp} {S S' : Env} {σ σ' : L2.St} {W : WX} (rel : Rel c G S σ H) (r2 : Rel ⟨c.k, H, G, W⟩ G' S' σ' H') : Rel c G' S' σ' H' :=
  ⟨rel.st.trans r2.st, r2.len, r2.fz, fun i d q => by
    obtain ⟨a, o, e, g, h0, ho, ct⟩ := r2.ow i d q
    exact ⟨a, o, e, g, rel.st.h.free h0, ho, ct⟩, r2.nd⟩
theorem s_tryAs {n : Str} {cv : Value} {i : Nat} {body suite : List Stmt} {b₀ : Stmt} {np pos' : Pos} {hnd : Exc → FS} {mt : Nat → Option Bool}
    (hs : X.stack = X.env :: X.outer) (hf : X.env.frame = some X.env.locals) (hN : X.N.Nodup) (hi : X.N[i]? = some n) (hln : X.env.kindOf n = some .local) (hcn : Names X x cv) (tk : L2N.Takes X c.W) (h0 : c.k.cl xix = none)
    (hm : ∀ ci b, mt ci = some b → ∃ C nm, c.k.cl ci = some (C, nm) ∧ PySem.W.exmOne X.K (.ref C) cv = some b)
    (hb : ∀ (W : WX) (pn : List (Addr × Obj)) (xe : Value → Shared → Prop) (H0 G0 : Hp), L2N.Takes (X.tr pn xe) W → PassesOwn (model X.prog X.w) X.A X.env xe → PB1' (X.tr pn xe) ⟨c.k, H0, G0, W⟩ false as body s)
    (hsu : ∀ (a : Addr) (oe : Obj) (cls : Value) (d : Option Addr) (pn : List (Addr × Obj)) (H0 G0 : Hp) (y : Exc), L2N.Zn cls d oe → (∃ vs, oe.data = .fields vs) → XR ⟨c.k, H0, G0, liftX E0⟩ G0 y cls d H0 →
      PB' (X.suite a ((a, oe) :: pn)) ⟨c.k.at a, H0, G0, liftX E0⟩ false bs (b₀ :: suite) (hnd y)) :
    PS' X c false as (.Try body [.ExceptHandler (some (.Name x np)) (some n) (b₀ :: suite) pos'] [] [] pos) (sTryAs mt i s hnd) := by
  refine psI (L2N.ps_try_as (tb := fun W => fun D σ H => ∃ G, RdS1 ⟨c.k, H, G, W⟩ false as s D σ H) (ts := fun a cls d => fun D σ H => ∃ (y : Exc) (G : Hp), XR ⟨c.k, H, G, liftX E0⟩ G y cls d H ∧ RdS ⟨c.k.at a, H, G, liftX E0⟩ false bs (hnd y) D σ H) (Wout := c.W)
    hs hf hN hi hln hcn tk (fun W pn xe tkW pa => ⟨fun pins s σ H D I ⟨G, q⟩ => (hb W pn xe H G tkW pa).run pins s σ H D I q⟩) (fun a oe cls d pn hz hd => ⟨fun pins s σ H D I ⟨y, G, xr, q⟩ => (hsu a oe cls d pn H G y hz hd xr).run pins s σ H D I q⟩)) fun Dn σ H ⟨G, S, rel, p⟩ => ?_
  have p : PostS c false as G S σ H Dn (if noOwn S then _ else .fail) := p
  by_cases hno : noOwn S = true
  · rw [if_pos hno] at p
    refine ⟨G, G, S, rel.rebase hno, ?_⟩
    cases e1 : s S with
    | fail => rw [e1] at p; exact p.elim
    | ok z =>
      rw [e1] at p
      obtain ⟨fl, S1⟩ := z
      cases fl with
      | nx => exact fun G' σ' H' ex r2 fm => p G' σ' H' ex (rel.back r2) fm
      | bk => exact fun G' σ' H' ex r2 fm => p G' σ' H' ex (rel.back r2) fm
      | ct => exact fun G' σ' H' ex r2 fm => p G' σ' H' ex (rel.back r2) fm
      | rt d => exact fun v G' H' sp rv ow => p v G' H' (rel.st.trans sp) rv ow
    | exc y =>
      rw [e1] at p
      have p : PostS c false as G S σ H Dn (match mt y.c with
        | some true => hndF (hnd y) (S.set i (some ⟨false, .cls xix⟩))
        | some false => .exc y
        | none => .fail) := p
      intro cls da G' H' sp xr
      have sp : Step G H G' H' := sp
      cases em : mt y.c with
      | none => rw [em] at p; exact p.elim
      | some b =>
        rw [em] at p
        obtain ⟨C, nm, hcl, hex⟩ := hm y.c b em
        have hcls : cls = .ref C := by
          obtain ⟨C', nm', h1, h2, _⟩ := xr
          have h1 : c.k.cl y.c = some (C', nm') := h1
          rw [hcl] at h1; cases h1; exact h2
        refine ⟨b, by rw [hcls]; exact hex, fun hb1 a ha => ?_, fun hb1 => ?_⟩
        · subst hb1
          have p : PostS c false as G S σ H Dn (hndF (hnd y) (S.set i (some ⟨false, .cls xix⟩))) := p
          have relK : Rel ⟨c.k.at a, H', G', liftX E0⟩ G' S σ H' := ⟨Step.refl sp.gh, rel.len, fun i d q => by
            obtain ⟨v, e, r⟩ := rel.fz i d q
            exact ⟨v, e, (r.mono sp.g).up h0⟩, fun i d q => (noOwn_at hno q).elim, fun i j a o _ => by obtain ⟨⟨d, q⟩, _⟩ := o; exact (noOwn_at hno q).elim⟩
          have hx : RD (c.k.at a) G' (.cls xix) (.ref a) := .cls (nm := []) (show (if xix = xix then some (a, []) else c.k.cl xix) = some (a, []) from if_pos rfl)
          refine ⟨y, G', xr, G', _, relK.setS i hx, ?_⟩
          unfold hndF at p
          cases e2 : hnd y (S.set i (some ⟨false, .cls xix⟩)) with
          | exc z => rw [e2] at p; exact p.elim
          | fail => rw [e2] at p; exact p.elim
          | ok z =>
            rw [e2] at p
            obtain ⟨fl, S2⟩ := z
            cases fl with
            | nx => exact p.elim
            | bk => exact p.elim
            | ct => exact p.elim
            | rt d =>
              dsimp only at p
              by_cases hd : d.noX = true
              · rw [if_pos hd] at p
                intro v G2 H2 sp2 rv _
                have sp2 : Step G' H' G2 H2 := sp2
                have rv : RD (c.k.at a) G2 d v := rv
                exact p v G2 H2 ((rel.st.trans sp).trans sp2) (rv.down hd) ⟨σ, fun _ _ => rfl, fun j d q => by
                  by_cases hj : i = j
                  · subst hj
                    have hl : i < S.length := by have := (List.getElem?_eq_some_iff.mp q).1; rwa [List.length_set] at this
                    rw [List.getElem?_set_self hl] at q; cases q
                  · rw [List.getElem?_set_ne hj] at q; exact (noOwn_at hno q).elim⟩
              · rw [if_neg hd] at p; exact p.elim
        · subst hb1
          have p : PXs c y := p
          exact p σ cls da G' H' (rel.st.trans sp) xr
  · rw [if_neg hno] at p; exact p.elim
end
end M
set_option Elab.async false
set_option linter.all false
set_option maxRecDepth 100000
set_option maxHeartbeats 4000000
namespace PySem
namespace SupX
open PySem.W PySem.Spec PySem.Calls PyProof.Rows
section
variable {prog : Program} {w : World} {A : Around} {E : Value → Shared → Prop} {s : Shared} {K : Frag} {x D : Addr} {ox : Obj} {od : Option Obj}
theorem findObj_data {C : Addr} {name : Str} {a g : Value} (hc : (clsIn K C).isSome = true) (ha : findIn K (.ref C) name = some (some a)) (hg : specialIn K a "__get__" = some (some g)) (ht : takesIn K a = some true) : findObj K C od name = some (.bind g a) := by
  obtain ⟨cd, hc⟩ := Option.isSome_iff_exists.mp hc
  unfold findObj
  rw [hc, Option.bind_some, ha, Option.bind_some]
  simp [hg, ht]
theorem kin_class {Q : Option Value → Shared → Prop} (hga : findIn K (.ref D) "__getattribute__" = some (some (.builtin "BaseException.__getattribute__"))) (hgt : findIn K (.ref D) "__getattr__" = some none) (hsub : subIn K (.ref D) (.type "BaseException") = some true)
    (hdct : hasDictIn K D = true) (ha : findIn K (.ref D) "__class__" = some (some (.builtin "object.__class__")))
    (hn : specialIn K (.builtin "object.__class__") "__get__" = some (some (.builtin "getset_descriptor.__get__"))) (htk : takesIn K (.builtin "object.__class__") = some true) (hm : mroIn K D (.type "object") = some true)
    (X : K.In s.heap) (I : InstAt s.heap x ox D od) (h : Q (some (.ref D)) { s with toks := s.toks + 1 }) : wpAny (model prog w) A (getAttr? (.ref x) "__class__") Q E s := by
  have hf : findObj K D od "__class__" = some (.bind (.builtin "getset_descriptor.__get__") (.builtin "object.__class__")) := findObj_data (by obtain ⟨cd, hc, _⟩ := any_some hdct; rw [hc]; rfl) ha hn htk
  obtain ⟨hp, g, d, t, os⟩ := s
  have L0 := I.type (M := model prog w)
  have L1 := looks_findIn (M := model prog w) X hga
  have L2 := looks_findIn (M := model prog w) X hgt
  have L3 := looks_find (M := model prog w) X I hf
  have sub : Looks (model prog w) hp (isInstance (.ref x) (.type "BaseException")) true := L0.andThen (looks_subIn X hsub)
  have hx0 : (false && onTheHeap (Value.builtin "BaseException.__getattribute__")) = false := rfl
  have hx2 : (Value.builtin "BaseException.__getattribute__" == Value.builtin "object.__getattribute__") = false := by decide +kernel
  have hx1 : (onTheHeap (Value.ref D) && Value.builtin "BaseException.__getattribute__" == Value.builtin "object.__getattribute__") = false := by rw [hx2]; rfl
  unfold getAttr? getAttrBy? getAttrBy
  refine wpAny_bind (wpAny_mkText (wpAny_bind (wpAny_attempt (wpAny_holding (wpAny_bind (L0.at (wpAny_bind (L1.at ?_))))))))
  show wpAny _ _ (if (onTheHeap (Value.ref D) && Value.builtin "BaseException.__getattribute__" == Value.builtin "object.__getattribute__") = true then _ else _) _ _ _
  rw [hx1, if_neg Bool.false_ne_true]
  unfold getAttrByItsOwn hookBefore
  refine wpAny_bind ?_
  rw [if_pos (show onTheHeap (Value.ref D) = true from rfl)]
  refine L2.at ?_
  refine wpAny_bind (wpAny_attempt (wpAny_holding ?_))
  unfold callGetattribute
  rw [hx0, if_neg Bool.false_ne_true]
  unfold boundAndCalled
  rw [PySem.F.excAttr_ValueError.ga.bind (.ref x)]
  refine wpAny_bind (wpAny_pure ?_)
  show wpAny _ _ (call (.builtin "BaseException.__getattribute__") [.ref x, .str "__class__" t]) _ _ _
  refine wpAny_call (codeAny_call_builtin PySem.F.excAttr_ValueError.ga.plain PySem.F.entry_bexc_ga ?_)
  refine @check_slot (model prog w) _ _ ⟨hp, g, d, t + 1, os⟩ "BaseException.__getattribute__" "BaseException" "__getattribute__" (.ref x) [.str "__class__" t] [] _ (by decide +kernel) (by decide +kernel) sub (PySem.F.args_bexc_ga (.ref x) (.str "__class__" t)) ?_
  unfold Builtin.«object.__getattribute__»
  refine wpAny_bind (wpAny_of_eq (a := ((Value.ref x : Value), [Value.str "__class__" t])) (by first | rfl | (simp only [slotArgs]; rfl)) ?_)
  refine wpAny_bind (wpAny_pure (wpAny_bind (L0.at (wpAny_bind (L3.at ?_)))))
  show wpAny _ _ (holding [Value.builtin "object.__class__"] (call (.builtin "getset_descriptor.__get__") [.builtin "object.__class__", .ref x, .ref D]) >>= ret) _ _ _
  refine wpAny_bind (wpAny_holding (wpAny_call (class_get (s := ⟨hp, g, d, t + 1, os⟩) (ox := ox) (od := od) X I hm ?_)))
  refine wpAny_pure ?_
  show wpAny _ _ (handedOut (.ref D)) _ _ _
  rw [handedOut_of (v := .ref D) rfl]
  first
    | exact wpAny_pure (wpAny_pure h)
    | exact wpAny_pure h
    | exact wpAny_pure (wpAny_bind (wpAny_pure (wpAny_pure h)))
theorem kitx_exc (C : L2.ExcC K D) : KitX K (.ref x) (.ref D) (fun h => ∃ ox od, InstAt h x ox D od) where
  ty := fun _ _ _ ⟨_, _, I⟩ => I.type
  it := fun _ _ X _ => by
    obtain ⟨cdD, hcD, _⟩ := any_some C.hd
    unfold clsIn at hcD
    split at hcD
    · rename_i c' d' cd' sl' ho
      intro A' Q' E' s' k q
      unfold isType loadHead
      exact wpAny_bind (wpAny_loadPart (k _ _ (X _ _ ho)) (wpAny_pure q))
    · cases hcD
  ne := fun h tp dd its n sl X htp => by
    obtain ⟨cdD, hcD, _⟩ := any_some C.hd
    refine Bool.eq_false_iff.mpr fun q => ?_
    have e : D = tp := Value.ref.inj (beq_iff_eq.mp q)
    subst e
    unfold clsIn at hcD
    split at hcD
    · rename_i c' d' cd' sl' ho
      have z := (X _ _ ho).symm.trans htp
      cases z
    · cases hcD
  ca := fun X ⟨_, _, I⟩ k => kin_class C.hg C.hk C.hs C.hd C.ha C.hn C.ht C.hm X I k
end
end SupX
end PySem
set_option Elab.async false
set_option linter.all false
set_option maxRecDepth 100000
set_option maxHeartbeats 4000000
namespace M
open PySem L2
theorem Kn.at_x {k : Kn} {a : Addr} : (k.at a).cl xix = some (a, []) := (show (if xix = xix then some (a, []) else k.cl xix) = some (a, []) from if_pos rfl)
def rIsX (K : PySem.W.Frag) (Dx a : Addr) (d : Option Addr) : List V → Hp → VK → Prop := fun xs H Q => ∃ (c : V) (b : Bool), xs = [.ref a, c] ∧ ExcC K Dx ∧ (∀ dd, d = some dd → ∃ fs, H dd = some (.xd fs)) ∧
  ((∃ cv, (∀ u, RelV c u → u = cv) ∧ PySem.W.kitOne K (.ref Dx) cv = some b) ∨ ∃ tp cs cvs, c = .ref tp ∧ SqT K H tp cs ∧ (∀ us, Vals cs us → us = cvs) ∧ PySem.W.kitAny K (.ref Dx) cvs = some b) ∧ Q (.bl b) H
theorem call_isX {X : Cx} {a Dx : Addr} {oe : Obj} {d : Option Addr} (hin : (a, oe) ∈ X.pn) (hz : Zc (.ref Dx) d oe) (hf : ∃ vs, oe.data = .fields vs) : CallR X (.builtin "isinstance") (rIsX X.K Dx a d) := by
  intro pins s σ H xs us Q I r h
  obtain ⟨c, b, rfl, C, hdd, hc, q⟩ := h
  obtain ⟨u1, u2, rfl, r1, r2⟩ := vals2 r
  cases (show u1 = Value.ref a from r1)
  obtain ⟨hget, _⟩ := I.pin (a, oe) (List.mem_append.mpr (.inl hin))
  obtain ⟨vs, hv⟩ := hf
  have J : ∃ ox od, PySem.W.InstAt s.heap a ox Dx od := by
    obtain ⟨oc, od, oda, osl⟩ := oe
    obtain ⟨h1, h2⟩ := hz
    dsimp only at h1 h2 hv
    subst h1 h2 hv
    cases od with
    | none => exact ⟨_, none, hget, rfl, rfl, trivial⟩
    | some dd =>
      obtain ⟨fs, hfs⟩ := hdd dd rfl
      have hx : ObjOk X.prog X.w H s.heap dd (.xd fs) := I.hok dd _ hfs
      obtain ⟨mA, hns, _⟩ := hx
      obtain ⟨o, _, _, ho, _⟩ := hns
      exact ⟨_, some o, hget, rfl, rfl, ho⟩
  rcases hc with ⟨cv, hcv, e⟩ | ⟨tp, cs, cvs, rfl, hs, hcs, e⟩
  · have ec := hcv _ r2
    subst ec
    exact PySem.W.kia_one (PySem.SupX.kitx_exc C) I.kIn J e (fun z => nomatch z) fun tk => ⟨.bl b, H, I.kept (t' := tk) fun _ _ z => z, rfl, q⟩
  · cases (show u2 = Value.ref tp from r2)
    obtain ⟨its, rv, ⟨o, ho, hcl, n, hda⟩, _⟩ := I.tuple hs
    have ec := hcs _ rv
    subst ec
    obtain ⟨oc, od, dt, sl⟩ := o
    simp only at hcl hda
    subst hcl hda
    exact PySem.W.kia_tup (PySem.SupX.kitx_exc C) I.kIn J ho e (fun z => nomatch z) fun tk => ⟨.bl b, H, I.kept (t' := tk) fun _ _ z => z, rfl, q⟩
structure IsT (K : PySem.W.Frag) (k : Kn) (ce : Nat) (t : D) (b : Bool) : Prop where
  ex : ∃ C nm, k.cl ce = some (C, nm) ∧ ExcC K C ∧ ((∃ ci C2 nm2, t = .cls ci ∧ ci ≠ xix ∧ k.cl ci = some (C2, nm2) ∧ PySem.W.kitOne K (.ref C) (.ref C2) = some b) ∨ ∃ n, t = .ty n ∧ PySem.W.kitOne K (.ref C) (.type n) = some b)
def tabs (tab : Nat → D → Option Bool) (ce : Nat) : List D → Option Bool
  | [] => some false
  | t :: ts => (tab ce t).bind fun b => (tabs tab ce ts).map fun r => b || r
def isXD (tab : Nat → D → Option Bool) (y : Exc) : D → D → R D
  | .cls i, t => if i = xix then (match t with
    | .tup ts => (match ts with | [] => .fail | t0 :: ts => (match tabs tab y.c (t0 :: ts) with | some b => .ok (.bl b) | none => .fail))
    | t => match tab y.c t with
      | some b => .ok (.bl b)
      | none => .fail) else .fail
  | _, _ => .fail
section
variable {k : Kn} {K : PySem.W.Frag} {a : Addr}
theorem IsT.exc {ce : Nat} {t : D} {b : Bool} {C : Addr} {nm : List Str} (h : IsT K k ce t b) (hc : k.cl ce = some (C, nm)) : ExcC K C := by
  obtain ⟨C', nm', h1, h2, _⟩ := h.ex
  rw [hc] at h1; cases h1
  exact h2
theorem IsT.excs {tab : Nat → D → Option Bool} (hT : ∀ ci t b, tab ci t = some b → IsT K k ci t b) {ce : Nat} {C : Addr} {nm : List Str} (hc : k.cl ce = some (C, nm)) {t : D} {ts : List D} {b : Bool} (h : tabs tab ce (t :: ts) = some b) : ExcC K C := by
  simp only [tabs] at h
  cases e1 : tab ce t with
  | none => rw [e1] at h; cases h
  | some b1 => exact (hT _ _ _ e1).exc hc
theorem IsT.val {ce : Nat} {t : D} {b : Bool} {G : Hp} {v : V} {C : Addr} {nm : List Str} (h : IsT K k ce t b) (hc : k.cl ce = some (C, nm)) (r : RD (k.at a) G t v) : ∃ cv, (∀ u, RelV v u → u = cv) ∧ PySem.W.kitOne K (.ref C) cv = some b := by
  obtain ⟨C', nm', h1, h2, h3⟩ := h.ex
  rw [hc] at h1; cases h1
  rcases h3 with ⟨ci, C2, nm2, rfl, hne, h4, h5⟩ | ⟨n, rfl, h5⟩
  · cases r with
    | cls hr =>
      rw [Kn.at_cl hne, h4] at hr
      cases hr
      exact ⟨.ref C2, fun u hu => hu, h5⟩
  · cases r with
    | ty => exact ⟨.type n, fun u hu => hu, h5⟩
theorem IsT.vals {tab : Nat → D → Option Bool} (hT : ∀ ci t b, tab ci t = some b → IsT K k ci t b) {ce : Nat} {C : Addr} {nm : List Str} (hc : k.cl ce = some (C, nm)) {G : Hp} : ∀ {ts : List D} {vs : List V} {b : Bool}, tabs tab ce ts = some b → RDs (k.at a) G ts vs →
    ∃ cvs, (∀ us, Vals vs us → us = cvs) ∧ PySem.W.kitAny K (.ref C) cvs = some b
  | [], _, b, h, .nil => by
    cases h
    exact ⟨[], fun us hu => by cases hu; rfl, rfl⟩
  | t :: ts, _, b, h, .cons r rs => by
    simp only [tabs] at h
    cases e1 : tab ce t with
    | none => rw [e1] at h; cases h
    | some b1 =>
      rw [e1] at h
      cases e2 : tabs tab ce ts with
      | none => rw [e2] at h; cases h
      | some b2 =>
        rw [e2] at h
        cases h
        obtain ⟨cv, h1, h2⟩ := (hT _ _ _ e1).val hc r
        obtain ⟨cvs, h3, h4⟩ := IsT.vals hT hc e2 rs
        refine ⟨cv :: cvs, fun us hu => ?_, ?_⟩
        · cases hu with
          | cons x y => rw [h1 _ x, h3 _ y]
        · refine kitAny_cons h2 (fun z => ?_) fun z => ?_
          · rw [z]; exact h4
          · rw [z]; rfl
end
section
variable {X : Cx} {c : Cf} {k : Kn} {kd k1 k2 k3 : Kd} {e o : Expr} {f g h : FE} {pos apos : Pos} {fr : Bool} {x : Str}
structure Held (X : Cx) (k : Kn) (a : Addr) (y : Exc) (H0 G0 : Hp) : Prop where
  ex : ∃ (oe : Obj) (cls : Value) (d : Option Addr), (a, oe) ∈ X.pn ∧ Zc cls d oe ∧ (∃ vs, oe.data = .fields vs) ∧ XR ⟨k, H0, G0, liftX E0⟩ G0 y cls d H0
theorem d_isX {ba : Bool} {a : Addr} {y : Exc} {H0 G0 : Hp} {W : WX} {p : Pos} {e1 e2 : Expr} {ga : FA} {tab : Nat → D → Option Bool} (hh : Held X k a y H0 G0) (hK : k.K = X.K) (hT : ∀ ci t b, tab ci t = some b → IsT X.K k ci t b) (hm : X.mg "isinstance" = none) (ha : PA' X ⟨k.at a, H0, G0, W⟩ ba [e1, e2] ga)
    (hg : Gl X "isinstance" := by rfl) (hs : starEach [e1, e2] X.env = (false, eval e1 X.env) :: starEach [e2] X.env := by rfl) (hs2 : ((backTo pos (starEach [e2] X.env)).any fun x => x.1) = false := by rfl) :
    PE' X ⟨k.at a, H0, G0, W⟩ .st (.Call (.Name "isinstance" p) [e1, e2] [] pos) (eC (f2 (isXD tab y)) ga) := by
  obtain ⟨oe, cls, d, hin, hz, hf, C, nm, hcl, rfl, hxd⟩ := hh.ex
  have hcl : k.cl y.c = some (C, nm) := hcl
  refine peI (pe_callB (call_isX hin hz hf) hg hm (by decide +kernel) ha (by decide) (by decide) hs hs2) fun σ H Q ⟨G, S, rel, q⟩ => ?_
  refine ⟨G, S, rel, ?_⟩
  have q : PostE ⟨k.at a, H0, G0, W⟩ .st G S σ H Q (ga S >>= fun xs => (f2 (isXD tab y) xs).nox) := q
  cases e0 : ga S with
  | exc z => rw [e0] at q; exact q
  | fail => rw [e0] at q; exact q
  | ok ds =>
    rw [e0] at q
    intro vs G1 H1 s1 q1
    have q1 := q1.nows
    have q : PostE ⟨k.at a, H0, G0, W⟩ .st G S σ H Q (f2 (isXD tab y) ds).nox := q
    have hdd : ∀ dd, d = some dd → ∃ fs, H1 dd = some (.xd fs) := fun dd e => by
      rcases hxd with ⟨_, _, h⟩ | ⟨d', vs', h1, h2, _⟩
      · rw [h] at e; cases e
      · rw [h1] at e; cases e
        exact ⟨_, (rel.grow s1).st.h _ _ h2⟩
    match ds, q1 with
    | [.cls i, t], .cons (v := v1) n1 (.cons (v := v2) n2 .nil) =>
      have q : PostE ⟨k.at a, H0, G0, W⟩ .st G S σ H Q (isXD tab y (.cls i) t).nox := q
      simp only [isXD] at q
      by_cases hi : i = xix
      · subst hi
        rw [if_pos rfl] at q
        have hv1 : v1 = .ref a := by
          rcases n1 with n1 | ⟨_, _, _, _, ct⟩
          · cases n1 with
            | cls hr =>
              have hr : (k.at a).cl xix = _ := hr
              rw [Kn.at_x] at hr; cases hr; rfl
          · cases ct
        subst hv1
        have fin : ∀ b, isXD tab y (.cls xix) t = .ok (.bl b) → Q (.bl b) H1 := fun b e => by
          simp only [isXD, if_pos] at e
          rw [e] at q
          exact q _ G1 H1 s1 (.bl b)
        cases t with
        | tup ts =>
          cases ts with
          | nil => exact q.elim
          | cons t0 ts =>
            dsimp only at q
            cases e2 : tabs tab y.c (t0 :: ts) with
            | none => rw [e2] at q; exact q.elim
            | some b =>
              obtain ⟨tp, cs, rfl, hsq, r⟩ := n2.tup
              have hx1 := IsT.excs hT hcl e2
              obtain ⟨cvs, h1, h2⟩ := IsT.vals hT hcl e2 r
              refine ⟨_, b, rfl, hx1, hdd, .inr ⟨tp, cs, cvs, rfl, s1.gh.sqT (hK ▸ hsq.t), h1, h2⟩, fin b ?_⟩
              simp only [isXD, if_pos, e2]
        | _ =>
          first
            | (dsimp only at q
               cases e2 : tab y.c _ with
               | none => rw [e2] at q; exact q.elim
               | some b =>
                 have hx1 := (hT _ _ _ e2).exc hcl
                 rcases n2 with n2 | ⟨_, _, _, _, ct⟩
                 · obtain ⟨cv, h1, h2⟩ := (hT _ _ _ e2).val hcl n2
                   refine ⟨_, b, rfl, hx1, hdd, .inl ⟨cv, h1, h2⟩, fin b ?_⟩
                   simp only [isXD, if_pos, e2]
                 · first
                     | (cases ct; done)
                     | (obtain ⟨_, _, _, _, h3⟩ := (hT _ _ _ e2).ex; rcases h3 with ⟨_, _, _, h3, _⟩ | ⟨_, h3, _⟩ <;> cases h3))
      · rw [if_neg hi] at q; exact q.elim
    | [], _ => exact q.elim
    | [_], _ => exact q.elim
    | _ :: _ :: _ :: _, _ => exact q.elim
    | [.non, _], _ => exact q.elim
    | [.bl _, _], _ => exact q.elim
    | [.int _, _], _ => exact q.elim
    | [.str _, _], _ => exact q.elim
    | [.ty _, _], _ => exact q.elim
    | [.tup _, _], _ => exact q.elim
    | [.lst _, _], _ => exact q.elim
    | [.dic _ _, _], _ => exact q.elim
    | [.dit _ _, _], _ => exact q.elim
    | [.dkf _ _, _], _ => exact q.elim
    | [.dig _ _, _], _ => exact q.elim
    | [.dgf _ _, _], _ => exact q.elim
    | [.obj _ _, _], _ => exact q.elim
    | [.scr _, _], _ => exact q.elim
structure XfT (K : PySem.W.Frag) (k : Kn) (ci : Nat) (f : Str) (j : Nat) : Prop where
  ex : ∃ C nm, k.cl ci = some (C, nm) ∧ nm[j]? = some f ∧ nm.Nodup ∧ XfC K C ∧ PySem.W.findIn K (.ref C) f = some none
end
end M
set_option Elab.async false
set_option linter.all false
set_option maxRecDepth 100000
set_option maxHeartbeats 4000000
namespace M
open PySem L2 PySem.W
abbrev FnS : Type := Option (Str × Str × Arguments × FuncBody × Scope × Addr × List Str × Addr)
def supI (K : PySem.W.Frag) (x : Str) : Addr := He.ma K (He.ga K x) "__init__"
def seenS (K : PySem.W.Frag) (x : Str) : FnS := (K.lookup (supI K x)).bind fun o => match o.data with
  | .func z => some (z.name, z.qualname, z.params, z.body, z.scope, z.globals, z.closure.map (·.1), z.builtins)
  | _ => none
structure Sx where
  x : Str
  fs : List Str
  qual : Str
  params : Arguments
  body : List Stmt
  scope : Scope
def Sx.val (s : Sx) : FnS := some ("__init__", s.qual, s.params, .stmts s.body, s.scope, mainGlobals, ["__class__"], builtinsNs)
def isNone : Value → Bool
  | .none => true
  | _ => false
def exoB (K : PySem.W.Frag) (C : Addr) : Bool := match K.lookup C with
  | some ⟨.type "type", _, .cls cd, sl⟩ => (match cd.mro, sl.toList with
    | .ref C' :: bm, [_, _, _, _, some (.builtin n), _] => C' == C && (n == "ValueError.__new__" && (!cd.hasDel && (cd.hasDict && PySem.HandSPX.refsVE bm)))
    | _, _ => false)
  | _ => false
def fnB (file : Str) (K : PySem.W.Frag) (s : Sx) : Bool := match K.lookup (supI K s.x) with
  | some ⟨_, _, .func z, _⟩ => codeIn K z.code s.qual && (isNone z.defaults && (isNone z.kwdefaults && (match z.code, z.closure with
    | .ref cda, [(_, cc)] => (match K.lookup cda with
      | some ⟨_, _, .fields vs, _⟩ => (match (vs[2]? : Option Value) with
        | some (.str f _) => decide (f = file)
        | _ => false)
      | _ => false) && (match K.lookup cc with
      | some ⟨_, _, .cell (some (.ref C')), _⟩ => decide (C' = He.ga K s.x)
      | _ => false)
    | _, _ => false)))
  | _ => false
def supB (file : Str) (K : PySem.W.Frag) (s : Sx) : Bool :=
  exoB K (He.ga K s.x) && (He.eqO (findIn K (.ref (He.ga K s.x)) "__setattr__") (some (some (.builtin "object.__setattr__"))) && ((s.fs.all fun f => He.eqO (findIn K (.ref (He.ga K s.x)) f) (some none)) &&
  (He.eqO (ks_superIn K (He.ga K s.x) (He.ga K s.x) "__init__") (some (some (.builtin "ValueError.__init__"))) && (decide (subIn K (.ref (He.ga K s.x)) (.type "ValueError") = some true) && (decide (mroIn K (He.ga K s.x) (.ref (He.ga K s.x)) = some true) &&
  (He.eqO (nsIn K cStatics "thirdparty.any") (some none) && (He.eqO (findIn K (.ref (He.ga K s.x)) "__init__") (some (some (.ref (supI K s.x)))) && (decide (typeIn K (.ref (supI K s.x)) = some (.type "function")) &&
  (He.eqO (nsIn K mainGlobals "super") (some none) && (keepIn K (.ref (He.ga K s.x)) && (decide (subIn K (.ref (He.ga K s.x)) (.type "BaseException") = some true) && (decide (typeIn K (.ref (He.ga K s.x)) = some (.type "type")) && fnB file K s))))))))))))
def kwAt (w : Wh) (x : Str) (K : PySem.W.Frag) : Addr := match K.lookup (w.ad K) with
  | some ⟨_, _, .func z, _⟩ => (match z.kwdefaults with
    | .ref D => (match nsIn K D x with
      | some (some (.ref a)) => a
      | _ => 0)
    | _ => 0)
  | _ => 0
inductive XF where
  | isT (x y : Str) (b : Bool)
  | isTy (x : Str) (n : String) (b : Bool)
  | ecc (x : Str)
  | fld (x f : Str)
  | cme (x m : Str)
  | dfl (w : Wh) (x : Str) (d : D)
  | sf (x : Str)
def XF.ok (K : PySem.W.Frag) : XF → Bool
  | .isT x y b => decide (kitOne K (.ref (He.ga K x)) (.ref (He.ga K y)) = some b)
  | .isTy x n b => decide (kitOne K (.ref (He.ga K x)) (.type n) = some b)
  | .ecc x => He.eqO (findIn K (.ref (He.ga K x)) "__getattribute__") (some (some (.builtin "BaseException.__getattribute__"))) && (He.eqO (findIn K (.ref (He.ga K x)) "__getattr__") (some none) && (decide (subIn K (.ref (He.ga K x)) (.type "BaseException") = some true) && (hasDictIn K (He.ga K x) &&
    (He.eqO (findIn K (.ref (He.ga K x)) "__class__") (some (some (.builtin "object.__class__"))) && (He.eqO (specialIn K (.builtin "object.__class__") "__get__") (some (some (.builtin "getset_descriptor.__get__"))) && (decide (takesIn K (.builtin "object.__class__") = some true) && decide (mroIn K (He.ga K x) (.type "object") = some true)))))))
  | .cme x m => readsIn K (He.ga K x) (.type "type") && (He.eqO (specialIn K (.ref (He.ga K x)) "__getattribute__") (some (some (.builtin "type.__getattribute__"))) && (He5.wrapB K (He.ga K x) "classmethod" "classmethod.__get__" m && fnIn K (He5.wf K (He.ga K x) "classmethod" m)))
  | .dfl w x d => dB K d (.ref (kwAt w x K))
  | .sf x => PySem.W.selfFirst K (He.ga K x)
  | .fld x f => xfB K (He.ga K x) && He.eqO (findIn K (.ref (He.ga K x)) f) (some none)
section
variable {K : PySem.W.Frag} {cl : Nat → Option (Addr × List Str)} {x y f : Str} {n : String} {b : Bool} {ci cj j : Nat} {nm nm2 : List Str}
theorem ecc_ok (h : (XF.ecc x).ok K = true) : ExcC K (He.ga K x) := by
  obtain ⟨h1, h⟩ := He.ba h
  obtain ⟨h2, h⟩ := He.ba h
  obtain ⟨h3, h⟩ := He.ba h
  obtain ⟨h4, h⟩ := He.ba h
  obtain ⟨h5, h⟩ := He.ba h
  obtain ⟨h6, h⟩ := He.ba h
  obtain ⟨h7, h8⟩ := He.ba h
  exact ⟨He.eqO_ok h1, He.eqO_ok h2, of_decide_eq_true h3, h4, He.eqO_ok h5, He.eqO_ok h6, of_decide_eq_true h7, of_decide_eq_true h8⟩
theorem isT_ok (h : (XF.isT x y b).ok K = true) (e : (XF.ecc x).ok K = true) (h1 : cl ci = some (He.ga K x, nm)) (h2 : cl cj = some (He.ga K y, nm2)) (hj : cj ≠ xix := by decide) : IsT K ⟨K, cl⟩ ci (.cls cj) b :=
  ⟨_, nm, h1, ecc_ok e, .inl ⟨cj, _, nm2, rfl, hj, h2, of_decide_eq_true h⟩⟩
theorem isTy_ok (h : (XF.isTy x n b).ok K = true) (e : (XF.ecc x).ok K = true) (h1 : cl ci = some (He.ga K x, nm)) : IsT K ⟨K, cl⟩ ci (.ty n) b :=
  ⟨_, nm, h1, ecc_ok e, .inr ⟨n, rfl, of_decide_eq_true h⟩⟩
theorem raO_ok {mg : Str → Option Value} (h : (He.Fa.exc x).ok K = true) (hg : mg x = some (.ref (He.ga K x))) (h1 : cl ci = some (He.ga K x, [])) : RaO K mg ⟨K, cl⟩ x ci := by
  obtain ⟨a, b, c, d⟩ := He.exc_ok h
  exact ⟨_, h1, a, hg, b, c, d⟩
end
def sameC : D → D → Bool
  | .cls i, .cls j => i == j
  | .ty m, .ty n => m == n
  | _, _ => false
def xtabOf (l : List ((Nat × D) × Bool)) (ce : Nat) (t : D) : Option Bool := match l.find? fun p => p.1.1 == ce && sameC p.1.2 t with
  | some p => some p.2
  | none => none
theorem xtab_ok {K : PySem.W.Frag} {k : Kn} {l : List ((Nat × D) × Bool)} (h : ∀ p, p ∈ l → IsT K k p.1.1 p.1.2 p.2) : ∀ ci t b, xtabOf l ci t = some b → IsT K k ci t b := fun ci t b e => by
  unfold xtabOf at e
  cases hf : l.find? fun p => p.1.1 == ci && sameC p.1.2 t with
  | none => rw [hf] at e; cases e
  | some p =>
    rw [hf] at e
    cases e
    have hp := h p (List.mem_of_find?_eq_some hf)
    have hq := List.find?_some hf
    simp only [Bool.and_eq_true, beq_iff_eq] at hq
    obtain ⟨h1, h2⟩ := hq
    obtain ⟨⟨ce, t2⟩, b⟩ := p
    dsimp only at h1 h2 hp ⊢
    subst h1
    cases t2 <;> cases t <;> first | (cases h2; done) | (simp only [sameC, beq_iff_eq] at h2; subst h2; exact hp)
def mtOf (l : List (Nat × Bool)) (ci : Nat) : Option Bool := l.lookup ci
structure TryC (K : PySem.W.Frag) (mg : Str → Option Value) (k : Kn) (x : Str) (mt : Nat → Option Bool) : Prop where
  ex : ∃ cv, mg x = some cv ∧ ∀ ci b, mt ci = some b → ∃ C nm, k.cl ci = some (C, nm) ∧ PySem.W.exmOne K (.ref C) cv = some b
theorem tryC_ok {K : PySem.W.Frag} {mg : Str → Option Value} {k : Kn} {x : Str} {l : List (Nat × Bool)} {cv : Value} (hm : mg x = some cv) (h : ∀ p, p ∈ l → ∃ C nm, k.cl p.1 = some (C, nm) ∧ PySem.W.exmOne K (.ref C) cv = some p.2) : TryC K mg k x (mtOf l) :=
  ⟨cv, hm, fun ci b e => by
    unfold mtOf at e
    have key : ∀ {l : List (Nat × Bool)}, l.lookup ci = some b → (ci, b) ∈ l := fun {l} => by
      induction l with
      | nil => intro h; cases h
      | cons p l ih =>
        intro h
        obtain ⟨c, d⟩ := p
        by_cases hc : ci = c
        · subst hc; simp [List.lookup] at h; subst h; simp
        · have : (ci == c) = false := by simpa using hc
          simp only [List.lookup, this] at h
          exact List.mem_cons_of_mem _ (ih h)
    exact h _ (key e)⟩
section
variable {X : Cx} {c : Cf} {pos : Pos} {s : FS} {as bs : List Nat}
end
theorem takes0 {X : Cx} : L2N.Takes X (liftX E0) := fun _ _ ⟨_, _, _, _, _, _, _, _, _, _, _, _, _, _, _, _, w⟩ => w.elim
abbrev AlV : Type := AlZ × (Bool × List FnS)
structure Fv where
  y : Fy
  ts : List TabI
  xs : List XF
  ss : List Sx
  file : Str
def obsV (x : Fv) (fn : List Dx) (K : PySem.W.Frag) : AlV := (obsZ x.y x.ts fn K, (x.xs.all fun f => f.ok K) && x.ss.all fun s => supB x.file K s, x.ss.map fun s => seenS K s.x)
def valHV (x : Fv) (fn : List Dx) (w : World) : AlV := (valZ x.ts fn w, true, x.ss.map fun s => s.val)
def SaysV (x : Fv) (fn : List Dx) (w : World) (K : PySem.W.Frag) : Prop := obsV x fn K = valHV x fn w
section
variable {x : Fv} {fn : List Dx} {K : PySem.W.Frag} {w : World}
theorem SaysV.z (c : SaysV x fn w K) : SaysZ x.y x.ts fn w K := congrArg (fun z : AlV => z.1) c
theorem SaysV.both (c : SaysV x fn w K) : ((x.xs.all fun f => f.ok K) && x.ss.all fun s => supB x.file K s) = true := congrArg (fun z : AlV => z.2.1) c
theorem SaysV.xf (c : SaysV x fn w K) (i : Nat) {f : XF} (h : x.xs[i]? = some f := by rfl) : f.ok K = true := List.all_eq_true.mp (He.ba c.both).1 f (List.mem_of_getElem? h)
end
end M
set_option Elab.async false
set_option linter.all false
set_option maxRecDepth 100000
set_option maxHeartbeats 4000000
namespace M
open PySem L2
def obsVL (as : List Addr) (x : Fv) (fn : List Dx) (g : Addr → Option Obj) : AlV := obsV x fn (He.frG g as)
def hookVL (as : List Addr) (x : Fv) (fn : List Dx) : PySem.W.Hook where
  α := AlV
  obs := fun s => obsVL as x fn s.heap.get?
  val := fun w => valHV x fn w
  says := fun w h => ∃ K : PySem.W.Frag, K.In h ∧ SaysV x fn w K
  of := fun _ _ e => ⟨_, He.frG_in, e⟩
  keeps := fun _ _ _ ⟨K, hK, c⟩ k => ⟨K, PySem.W.Frag.In.keeps hK k, c⟩
theorem obsVL_eq {as : List Addr} {x : Fv} {fn : List Dx} {g : Addr → Option Obj} {s : Shared} (h : ∀ a, g a = s.heap.get? a) : obsVL as x fn g = (hookVL as x fn).obs s := by
  have q : g = s.heap.get? := funext h
  subst q; rfl
def mpV : List Dx → List He.FnW
  | [] => []
  | d :: r => d.d.val :: mpV r
theorem mpV_eq : ∀ l : List Dx, mpV l = l.map fun d => d.d.val
  | [] => rfl
  | d :: r => by rw [mpV, mpV_eq r]; rfl
def mpT (w : World) : List TabI → List (Option (List (Option (Str × Int))))
  | [] => []
  | t :: r => some (He.keysIn w.params (t.2.map (·.1))) :: mpT w r
theorem mpT_eq (w : World) : ∀ l : List TabI, mpT w l = l.map fun t => some (He.keysIn w.params (t.2.map (·.1)))
  | [] => rfl
  | d :: r => by rw [mpT, mpT_eq w r]; rfl
def mpS : List Sx → List FnS
  | [] => []
  | d :: r => d.val :: mpS r
theorem mpS_eq : ∀ l : List Sx, mpS l = l.map fun s => s.val
  | [] => rfl
  | d :: r => by rw [mpS, mpS_eq r]; rfl
def valL (x : Fv) (fn : List Dx) (w : World) : AlV := (((true, mpV fn), mpT w x.ts), true, mpS x.ss)
theorem valL_eq (x : Fv) (fn : List Dx) (w : World) : valL x fn w = valHV x fn w := by
  unfold valL valHV valZ
  rw [mpV_eq, mpT_eq, mpS_eq]
end M
set_option Elab.async false
set_option linter.all false
set_option maxRecDepth 100000
set_option maxHeartbeats 0
namespace Pf
open PySem L2 M
def topS (i : Nat) : Stmt := PySem.Challenge.pw_firstbreach_k58_taking_books_and_halls.main.body.getD i (.Pass ⟨0, 0, 0, 0⟩)
def clsB : Stmt → List Stmt
  | .ClassDef _ _ _ b .. => b
  | _ => []
def clsS (i j : Nat) : Stmt := (clsB (topS i)).getD j (.Pass ⟨0, 0, 0, 0⟩)
def gv_MOST_TASKS : D := .int 5
def gv_RULES : D := .tup [.str "again", .str "any", .str "half"]
def gv_MOST_QUEUES : D := .int 3
abbrev st_Taking : Stmt := clsS 16 0
abbrev st_Hall : Stmt := clsS 17 0
abbrev st_Hall_start : Stmt := clsS 17 1
abbrev st__law_cell : Stmt := topS 19
abbrev st__law_draws : Stmt := topS 20
abbrev st__law_whole : Stmt := topS 21
abbrev st__law_alone : Stmt := topS 22
abbrev st__law_taking : Stmt := topS 23
abbrev st__law_put : Stmt := topS 24
abbrev st__law_book : Stmt := topS 25
abbrev st__law_good_book : Stmt := topS 26
abbrev st__law_queues : Stmt := topS 27
abbrev st__law_good_queues : Stmt := topS 28
abbrev st__law_book_refused : Stmt := topS 29
abbrev st__law_hall_refused : Stmt := topS 30
abbrev st__law_book_told : Stmt := topS 31
abbrev st__law_rows_told : Stmt := topS 32
abbrev st__law_hall_told : Stmt := topS 33
abbrev st_law : Stmt := topS 34
def dd_Taking : Dx := ⟨.met "Taking" "__init__", ⟨("", none), "__init__", "Taking.__init__", defArgs st_Taking, defBody st_Taking, defScope st_Taking, [], []⟩⟩
def dd_Hall : Dx := ⟨.met "Hall" "__init__", ⟨("", none), "__init__", "Hall.__init__", defArgs st_Hall, defBody st_Hall, defScope st_Hall, [], []⟩⟩
def dd_Hall_start : Dx := ⟨.met "Hall" "start", ⟨("", none), "start", "Hall.start", defArgs st_Hall_start, defBody st_Hall_start, defScope st_Hall_start, [], []⟩⟩
def dd__law_cell : Dx := ⟨.glo "_law_cell", ⟨("", none), "_law_cell", "_law_cell", defArgs st__law_cell, defBody st__law_cell, defScope st__law_cell, [], []⟩⟩
def dd__law_draws : Dx := ⟨.glo "_law_draws", ⟨("", none), "_law_draws", "_law_draws", defArgs st__law_draws, defBody st__law_draws, defScope st__law_draws, [], []⟩⟩
def dd__law_whole : Dx := ⟨.glo "_law_whole", ⟨("", none), "_law_whole", "_law_whole", defArgs st__law_whole, defBody st__law_whole, defScope st__law_whole, [], []⟩⟩
def dd__law_alone : Dx := ⟨.glo "_law_alone", ⟨("", none), "_law_alone", "_law_alone", defArgs st__law_alone, defBody st__law_alone, defScope st__law_alone, [], []⟩⟩
def dd__law_taking : Dx := ⟨.glo "_law_taking", ⟨("", none), "_law_taking", "_law_taking", defArgs st__law_taking, defBody st__law_taking, defScope st__law_taking, [], []⟩⟩
def dd__law_put : Dx := ⟨.glo "_law_put", ⟨("", none), "_law_put", "_law_put", defArgs st__law_put, defBody st__law_put, defScope st__law_put, [], []⟩⟩
def dd__law_book : Dx := ⟨.glo "_law_book", ⟨("", none), "_law_book", "_law_book", defArgs st__law_book, defBody st__law_book, defScope st__law_book, [], []⟩⟩
def dd__law_good_book : Dx := ⟨.glo "_law_good_book", ⟨("", none), "_law_good_book", "_law_good_book", defArgs st__law_good_book, defBody st__law_good_book, defScope st__law_good_book, [], []⟩⟩
def dd__law_queues : Dx := ⟨.glo "_law_queues", ⟨("", none), "_law_queues", "_law_queues", defArgs st__law_queues, defBody st__law_queues, defScope st__law_queues, [], []⟩⟩
def dd__law_good_queues : Dx := ⟨.glo "_law_good_queues", ⟨("", none), "_law_good_queues", "_law_good_queues", defArgs st__law_good_queues, defBody st__law_good_queues, defScope st__law_good_queues, [], []⟩⟩
def dd__law_book_refused : Dx := ⟨.glo "_law_book_refused", ⟨("", none), "_law_book_refused", "_law_book_refused", defArgs st__law_book_refused, defBody st__law_book_refused, defScope st__law_book_refused, [], []⟩⟩
def dd__law_hall_refused : Dx := ⟨.glo "_law_hall_refused", ⟨("", none), "_law_hall_refused", "_law_hall_refused", defArgs st__law_hall_refused, defBody st__law_hall_refused, defScope st__law_hall_refused, [], []⟩⟩
def dd__law_book_told : Dx := ⟨.glo "_law_book_told", ⟨("", none), "_law_book_told", "_law_book_told", defArgs st__law_book_told, defBody st__law_book_told, defScope st__law_book_told, [], []⟩⟩
def dd__law_rows_told : Dx := ⟨.glo "_law_rows_told", ⟨("", none), "_law_rows_told", "_law_rows_told", defArgs st__law_rows_told, defBody st__law_rows_told, defScope st__law_rows_told, [], []⟩⟩
def dd__law_hall_told : Dx := ⟨.glo "_law_hall_told", ⟨("", none), "_law_hall_told", "_law_hall_told", defArgs st__law_hall_told, defBody st__law_hall_told, defScope st__law_hall_told, [], []⟩⟩
def dd_law : Dx := ⟨.glo "law", ⟨("", none), "law", "law", defArgs st_law, defBody st_law, defScope st_law, [], []⟩⟩
def fn : List Dx := [dd_Taking, dd_Hall, dd_Hall_start, dd__law_cell, dd__law_draws, dd__law_whole, dd__law_alone, dd__law_taking, dd__law_put, dd__law_book, dd__law_good_book, dd__law_queues, dd__law_good_queues, dd__law_book_refused, dd__law_hall_refused, dd__law_book_told, dd__law_rows_told, dd__law_hall_told, dd_law]
def ftab : List TabI := []
def fx : Fy := ⟨[.glo "_law_cell", .glo "_law_draws", .glo "_law_whole", .glo "_law_alone", .glo "_law_taking", .glo "_law_put", .glo "_law_book", .glo "_law_good_book", .glo "_law_queues", .glo "_law_good_queues", .glo "_law_book_refused", .glo "_law_hall_refused", .glo "_law_book_told", .glo "_law_rows_told", .glo "_law_hall_told", .glo "law", .free "ValueError", .free "abs", .free "all", .free "any", .free "bool", .free "int", .free "isinstance", .free "len", .free "list", .free "max", .free "range", .free "set", .free "sorted", .free "tuple", .glo "Taking", .cls "Taking", .mkr "Taking", .noat "Taking" "least", .noat "Taking" "rules", .glo "Hall", .cls "Hall", .mkr "Hall", .noat "Hall" "queues", .noat "Hall" "taking", .meth "Hall" "start", .glo "InvalidHall", .glo "BreachError", .glo "BadAct", .glo "InvalidChoice", .glo "InvalidCore", .glo "InvalidHouse", .glo "InvalidLevel", .glo "InvalidSupply", .glo "InvalidTask", .glo "TooLarge", .exc "InvalidHall", .exm "InvalidHall" "BreachError" true], [("MOST_TASKS", gv_MOST_TASKS), ("RULES", gv_RULES), ("MOST_QUEUES", gv_MOST_QUEUES)], ["Taking"], []⟩
def fv : Fv := ⟨fx, ftab, [.ecc "InvalidHall", .isT "InvalidHall" "InvalidHall" true, .isT "InvalidHall" "BreachError" true, .isTy "InvalidHall" "ValueError" true, .isT "InvalidHall" "BadAct" false, .isT "InvalidHall" "InvalidChoice" false, .isT "InvalidHall" "InvalidCore" false, .isT "InvalidHall" "InvalidHouse" false, .isT "InvalidHall" "InvalidLevel" false, .isT "InvalidHall" "InvalidSupply" false, .isT "InvalidHall" "InvalidTask" false, .isT "InvalidHall" "TooLarge" false], [], "/claim/cut.py"⟩
def clK (K : PySem.W.Frag) : Nat → Option (Addr × List Str) := fun i => if i = 7 then some (He.ga K "Taking", ["least", "rules"]) else if i = 8 then some (He.ga K "Hall", ["queues", "taking"]) else if i = 210 then some (He.ga K "InvalidHall", []) else if i = 200 then some (He.ga K "BreachError", []) else if i = 219 then some (He.ga K "BadAct", ["index"]) else if i = 205 then some (He.ga K "InvalidChoice", []) else if i = 206 then some (He.ga K "InvalidCore", []) else if i = 211 then some (He.ga K "InvalidHouse", []) else if i = 209 then some (He.ga K "InvalidLevel", []) else if i = 202 then some (He.ga K "InvalidSupply", []) else if i = 204 then some (He.ga K "InvalidTask", []) else if i = 212 then some (He.ga K "TooLarge", ["bound"]) else none
def looseN : List Str := (["_wall", "BreachError", "InvalidSupply", "InvalidTask", "InvalidChoice", "InvalidCore", "InvalidLevel", "InvalidHall", "InvalidHouse", "TooLarge", "BadAct", "RULES", "MOST_QUEUES", "MOST_TASKS", "Taking", "Hall", "_law_cell", "_law_draws", "_law_whole", "_law_alone", "_law_taking", "_law_put", "_law_book", "_law_good_book", "_law_queues", "_law_good_queues", "_law_book_refused", "_law_hall_refused", "_law_book_told", "_law_rows_told"] : List Str) ++ (["_law_hall_told"] : List Str)
abbrev Rw : PySem.W.OpenRow := PySem.W.OpenLaw.row PySem.Challenge.rw_firstbreach_k58_taking_books_and_halls
end Pf
set_option Elab.async false
set_option linter.all false
set_option maxRecDepth 100000
set_option maxHeartbeats 0
namespace Pf
open PySem L2 M
def asL : List Addr := [2, 3, 6, 4, 21, 31, 44, 56, 68, 80, 92, 104, 116, 137, 158, 161, 183, 247, 258, 265, 272, 279, 286, 293, 298, 303, 308, 315, 322, 329, 334, 339, 344, 349, 0, 20, 30, 43, 55, 67, 79, 91, 103, 115, 136, 157, 182, 246, 257, 264, 271, 278, 285, 292, 297, 302, 307, 314, 321, 328, 333, 338, 343, 348, 15, 16, 17, 18, 19, 29, 32, 42, 54, 66, 78, 90, 102, 114, 134, 135, 155, 156, 173, 180, 181, 184, 185, 199, 206, 211, 218, 223, 230, 237, 244, 245, 248, 249, 252, 253, 254, 255, 256, 259, 260, 261, 262, 263, 266, 267, 268, 269, 270, 273, 274, 275, 276, 277, 280, 281, 282, 283, 284, 287, 288, 289, 290, 291, 294, 295, 296, 299, 300, 301, 304, 305, 306, 309, 310, 311, 312, 313, 316, 317, 318, 319, 320, 323, 324, 325, 326, 327, 330, 331, 332, 335, 336, 337, 340, 341, 342, 345, 346, 347, 133, 122, 154, 143, 172, 179, 198, 205, 210, 217, 222, 229, 236, 243, 128, 129, 130, 131, 132, 149, 150, 151, 152, 153, 169, 170, 171, 174, 175, 176, 177, 178, 195, 196, 197, 200, 201, 202, 203, 204, 207, 208, 209, 212, 213, 214, 215, 216, 219, 220, 221, 224, 225, 226, 227, 228, 231, 232, 233, 234, 235, 238, 239, 240, 241, 242]
abbrev hk : PySem.W.Hook := hookVL asL fv fn
def ob (s : PySem.W.SharedT) : AlV := obsVL asL fv fn (HandSHeadRun.getT s)
theorem ob_eq (s : PySem.W.SharedT) : ob s = hk.obs s.abs := obsVL_eq (HandSHeadRun.getT_eq s)
theorem runParts {σ α β γ : Type} {x : Option σ} {f1 : σ → α} {f2 : σ → β} {f3 : σ → γ} {a : α} {b : β} {c : γ} (h1 : x.map (fun s => (f1 s, f2 s)) = some (a, b)) (h2 : x.map (fun s => f3 s) = some c) : x.map (fun s => (f1 s, f2 s, f3 s)) = some (a, b, c) := by
  cases x with
  | none => cases h1
  | some s =>
    have e1 : (f1 s, f2 s) = (a, b) := Option.some.inj h1
    have e2 : f3 s = c := Option.some.inj h2
    cases e1; cases e2; rfl
section
open HandSHeadRun PySem.W
theorem run2 (w : World) (os : OsState) : (endF (stepQ (denQ tabQ) Rw.prog w) 4000 Rw.prog w os).map (fun s => ob s) = some (valL fv fn w) := by kernel_rfl
theorem run1 (w : World) (os : OsState) : (endF (stepQ (denQ tabQ) Rw.prog w) 4000 Rw.prog w os).map (fun s => (looksF Rw.prog (boot_heap w.params) s.abs, seenQ (PySem.W.view Rw.prog [34]) looseN (importedModules Rw.prog.main.body) (fun s => xlAt (PySem.W.view Rw.prog [34]) [] s && recOk Rw.toRowW.records s) s.abs)) = some (true, openGood (PySem.W.view Rw.prog [34]) looseN) := by kernel_rfl
theorem run (w : World) : RunEq Rw (PySem.W.view Rw.prog [34]) hk ob 4000 looseN w := fun os => runParts (run1 w os) ((run2 w os).trans (by rw [valL_eq]; rfl))
end
end Pf
set_option Elab.async false
set_option linter.all false
set_option maxRecDepth 100000
set_option maxHeartbeats 4000000
namespace M
open PySem L2
section
variable {X : Cx} {c : Cf} {a b e o : Expr} {f g h : FE} {pos apos : Pos} {x : Str} {den : List D → R D}
theorem d_callXS {lv m n : Nat} {p : Pos} {es : List Expr} {fa : FA} (F : CalleeX X.prog X.w X.K X.mg X.base c.k lv x n false den) (hr : Room m X.A) (hle : lv ≤ m) (tk : L2N.Takes X c.W) (ha : PA' X c false (e :: es) fa) (hl : Len n fa) (hg : Gl X x := by rfl) (hdb : (x == ("__debug__" : Str)) = false := by decide)
    (hs : starEach (e :: es) X.env = (false, eval e X.env) :: starEach es X.env := by rfl) (hs2 : ((backTo pos (starEach es X.env)).any fun x => x.1) = false := by rfl) : PE' X c .st (.Call (.Name x p) (e :: es) [] pos) (eCX den fa) := d_callX F hr hle tk ha hl hg hdb hs hs2
end
end M
set_option Elab.async false
set_option linter.all false
set_option maxRecDepth 100000
set_option maxHeartbeats 4000000
namespace M
open PySem L2
structure MakerXD (P : Program) (w : World) (K : PySem.W.Frag) (mg : Str → Option Value) (base : Heap) (k : Kn) (lv : Nat) (x : Str) (ci n : Nat) (dd : List D) (den : List D → R D) : Prop where
  ex : ∃ (C f : Addr) (fd : FuncData) (ps nm : List Str) (dvs : List V) (ds : List Value), k.cl ci = some (C, nm) ∧ Mk K C f ∧ FnOk P w K mg base (L2N.CX P w) lv f fd ps (SpN k ci (n + dd.length + 1) den) ∧ mg x = some (.ref C) ∧ Binds K fd ps ds ∧ Vals dvs ds ∧ ∀ G, RDs k G dd dvs
structure CmethX (P : Program) (w : World) (K : PySem.W.Frag) (mg : Str → Option Value) (base : Heap) (k : Kn) (lv : Nat) (ci : Nat) (m : Str) (n : Nat) (fr : Bool) (den : List D → R D) : Prop where
  ex : ∃ (C p g : Addr) (mc : Value) (fd : FuncData) (ps nm : List Str), ps.length = n ∧ k.cl ci = some (C, nm) ∧ ClX.CRead K C mc ∧ ClX.CMet K C mc m p g ∧ FnOk P w K mg base (L2N.CX P w) lv g fd ps (SpF k fr n den) ∧ Binds K fd ps []
section
variable {X : Cx} {c : Cf} {kd k1 k2 k3 : Kd} {a b e o : Expr} {f g h : FE} {pos apos : Pos} {fr : Bool} {x : Str} {den : List D → R D} {ci : Nat}
end
end M
set_option Elab.async false
set_option linter.all false
set_option maxRecDepth 100000
set_option maxHeartbeats 4000000
namespace M
open PySem L2 PyProof.Rows
def keyT : D → Option (List Key)
  | .tup ds => if 1 < ds.length ∧ ds.length < 4 ∧ ds.all isStrD = false then keysD ds else none
  | _ => none
section
variable {k : Kn} {G H : Hp}
theorem strs_back : ∀ {ds : List D} {vs : List V}, RDs k G ds vs → (vs.all fun x => match x with | .str _ => true | _ => false) = true → ds.all isStrD = true
  | _, _, .nil, _ => rfl
  | d :: ds, v :: vs, .cons a b, h => by
    rw [List.all_cons, Bool.and_eq_true] at h
    rw [List.all_cons, strs_back b h.2, Bool.and_true]
    have h1 := h.1
    split at h1
    · cases a; rfl
    · cases h1
theorem keyT_now (e : Ex G H) {d : D} {v : V} {q : List Key} (h : keyT d = some q) (n : Now k G H d v) : ∃ b, v = .ref b ∧ H b = some (.tup (q.map kV)) := by
  unfold keyT at h
  split at h
  · rename_i ds
    split at h
    · rename_i hc
      obtain ⟨a, vs, rfl, ha, r⟩ := n.tup
      obtain rfl := keysD_rd h r
      refine ⟨a, rfl, ?_⟩
      rcases ha with ha | ⟨o, its, m, _, _, _, _, _, oc⟩
      · exact e _ _ ha
      · exfalso
        have hl := r.length
        unfold okC at oc
        rw [← hl] at oc
        simp only [Bool.or_eq_true, decide_eq_true_eq] at oc
        rcases oc with z | z | z
        · omega
        · omega
        · rw [strs_back r z] at hc; exact absurd hc.2.2 (by simp)
    · cases h
  · cases h
def dlook (d y : D) : Option (Option D) := match d with
  | .dic ks ds => (keyD y).map fun q => getL ks ds q
  | .dit ks ds => (keyT y).map fun q => getL ks ds q
  | .dkf ks ds => (keyD y).map fun q => getL ks ds q
  | _ => none
theorem dlook_go (e : Ex G H) {d y : D} {u v : V} {o : Option D} (nx : Now k G H d u) (ny : Now k G H y v) (h : dlook d y = some o) :
    ∃ a ov, u = .ref a ∧ DGet H a v ov ∧ (∀ r, o = some r → ∃ w, ov = some w ∧ RD k G r w) ∧ (o = none → ov = none) := by
  cases d with
  | dic ks ds =>
    obtain ⟨q, hq, rfl⟩ := Option.map_eq_some_iff.mp h
    obtain ⟨a, vs, rfl, ha, hl, r⟩ := nx.dic e
    obtain rfl := keyD_now hq ny
    exact ⟨a, _, rfl, DGet.k ha, (getL_val hl r).1, (getL_val hl r).2⟩
  | dit ks ds =>
    obtain ⟨q, hq, rfl⟩ := Option.map_eq_some_iff.mp h
    obtain ⟨a, vs, rfl, ha, hl, r⟩ := nx.dit e
    obtain ⟨b, rfl, hb⟩ := keyT_now e hq ny
    exact ⟨a, _, rfl, DGet.t ha hb, (getL_val hl r).1, (getL_val hl r).2⟩
  | dkf ks ds =>
    obtain ⟨q, hq, rfl⟩ := Option.map_eq_some_iff.mp h
    obtain ⟨a, o, vs, rfl, ha, hl, r⟩ := nx.dkf e
    obtain rfl := keyD_now hq ny
    exact ⟨a, _, rfl, .inl ⟨_, q, .inr ⟨o, ha⟩, rfl, rfl⟩, (getL_val hl r).1, (getL_val hl r).2⟩
  | _ => cases h
end
section
variable {X : Cx} {c : Cf} {kd k1 k2 k3 : Kd} {a b e o : Expr} {f g h : FE} {pos apos cpos : Pos} {fr : Bool} {x : Str} {k : Kn}
theorem ix_dct (hu : X.A.units + 1 < cLine) : IxR X (fun x y H Q => ∃ a v, x = .ref a ∧ DGet H a y (some v) ∧ Q v H) := by
  intro value slice pins s σ H x y v u Q I rx ry h hs
  obtain ⟨a, z, rfl, g, q⟩ := h
  cases (show v = Value.ref a from rx)
  exact tail_any (dict_typeIs I g) PySem.F.slot_dict_getitem.lookup (d_getItem hu I g ry fun w' s3 I3 rw' => ⟨z, H, I3, rw', q⟩) hs
theorem op_dctNotIn (hu : X.A.units + 1 < cLine) : OpR X (compareOp .NotIn) (fun y x H Q => ∃ a o, x = .ref a ∧ DGet H a y o ∧ Q (.bl (!o.isSome)) H) := by
  intro pins s σ H y x u v Q I ry rx h
  obtain ⟨a, z, rfl, g, q⟩ := h
  cases (show v = Value.ref a from rx)
  exact d_notIn hu I g ry fun s3 I3 => ⟨.bl (!z.isSome), H, I3, rfl, q⟩
def ixA (d y : D) : R D := match dlook d y with
  | some (some r) => .ok r
  | some none => .fail
  | none => ixD d y
theorem o_ixA (hk : k.K = X.K) (hu : X.A.units + 65 < cLine) : Ix2 X k ixA := by
  obtain ⟨r0, h0, z0⟩ := o_ix (k := k) hk
  refine ⟨_, (ix_dct (by omega)).or h0, ?_⟩
  intro G H x y u v d e nx ny hg Q q
  unfold ixA at hg
  split at hg
  · rename_i r hl
    cases hg
    obtain ⟨a, ov, rfl, g, h1, _⟩ := dlook_go e nx ny hl
    obtain ⟨w, rfl, rw_⟩ := h1 _ rfl
    exact .inl ⟨a, w, rfl, g, q _ G H (Step.refl e) rw_⟩
  · cases hg
  · exact .inr (z0 G H x y u v d e nx ny hg Q q)
def inA (y d : D) : R D := match dlook d y with
  | some r => .ok (.bl r.isSome)
  | none => inD y d
def notInA (y d : D) : R D := match dlook d y with
  | some r => .ok (.bl (!r.isSome))
  | none => notInD y d
theorem o_notinA (hk : k.K = X.K) (hu : X.A.units + 65 < cLine) : Op2 X k (compareOp .NotIn) .st notInA := by
  obtain ⟨r0, h0, z0⟩ := o_notin (k := k) hk hu
  refine ⟨_, (op_dctNotIn (by omega)).or h0, ?_⟩
  intro G H y x v u d e ny nx hg Q q
  unfold notInA at hg
  split at hg
  · rename_i r hl
    cases hg
    obtain ⟨a, ov, rfl, g, h1, h2⟩ := dlook_go e nx ny hl
    refine .inl ⟨a, ov, rfl, g, ?_⟩
    have : ov.isSome = r.isSome := by
      cases r with
      | none => rw [h2 rfl]; rfl
      | some r => obtain ⟨w, rfl, _⟩ := h1 _ rfl; rfl
    rw [this]
    exact q _ G H (Step.refl e) (.bl _)
  · exact .inr (z0 G H y x v u d e ny nx hg Q q)
def eGet2 (f g h : FE) : FE := fun S => f S >>= fun d => if isDct d then (g S >>= fun y => h S >>= fun z => match dlook d y with
  | some (some r) => .ok r
  | some none => .ok z
  | none => .fail) else .fail
def putA (i : Nat) (S : Env) (m d y : D) : R (Fl × Env) := match m with
  | .dic ks ds => (match keyD y with
    | some q => if ks.Nodup ∧ ks.length < sizeLine then .ok (.nx, S.set i (some ⟨true, .dic (putL ks ds q d).1 (putL ks ds q d).2⟩)) else .fail
    | none => .fail)
  | .dit ks ds => (match keyT y with
    | some q => if ks.Nodup ∧ ks.length < sizeLine then .ok (.nx, S.set i (some ⟨true, .dit (putL ks ds q d).1 (putL ks ds q d).2⟩)) else .fail
    | none => .fail)
  | _ => .fail
def ownD (i : Nat) (S : Env) : R D := match S[i]? with
  | some (some ⟨true, d⟩) => .ok d
  | _ => .fail
def sPutA (i : Nat) (fy f : FE) : FS := fun S => ownD i S >>= fun m => f S >>= fun d => fy S >>= fun y => putA i S m d y
end
end M
set_option Elab.async false
set_option linter.all false
set_option maxRecDepth 100000
set_option maxHeartbeats 4000000
namespace M
open PySem L2
variable {X : Cx} {c : Cf} {kd : Kd} {a : Expr} {t t1 : FT} {fr : Bool} {pos : Pos} {tg tg1 : Expr}
def unown (S : Env) (vs : List Nat) : Bool := vs.all fun i => match S[i]? with | some (some ⟨true, _⟩) => false | _ => true
def lc2F (ga : FG) (t : FT) (fi1 : FI) (ga1 : FG) (t1 : FT) (fe : FE) (vs vs1 : List Nat) (S : Env) : List D → R (List D)
  | [] => .ok []
  | d :: ds => (ga d S).nox >>= fun S1 => if unown S1 vs then (t S1).nox >>= fun b => if b then (fi1 S1).nox >>= fun es => lcF ga1 t1 fe (wipeS S1 vs1) es >>= fun ys => lc2F ga t fi1 ga1 t1 fe vs vs1 S ds >>= fun zs => .ok (ys ++ zs) else lc2F ga t fi1 ga1 t1 fe vs vs1 S ds else .fail
def lc2E (fi : FI) (ga : FG) (t : FT) (fi1 : FI) (ga1 : FG) (t1 : FT) (fe : FE) (vs vs1 : List Nat) : FE := fun S => fi S >>= fun ds => lc2F ga t fi1 ga1 t1 fe vs vs1 (wipeS S vs) ds >>= fun ys => if ys.length ≤ sizeLine then .ok (.lst ys) else .fail
theorem nox_exc {α β : Type} {r : R α} {f : α → R β} {x : Exc} (h : (r.nox >>= f) = .exc x) : ∃ a, r = .ok a ∧ f a = .exc x := by
  cases r with
  | ok a => exact ⟨a, rfl, h⟩
  | exc y => cases h
  | fail => cases h
theorem lc2F_exc {ga : FG} {t : FT} {fi1 : FI} {ga1 : FG} {t1 : FT} {fe : FE} {vs vs1 : List Nat} {S : Env} {x : Exc} : ∀ ds, lc2F ga t fi1 ga1 t1 fe vs vs1 S ds ≠ .exc x
  | [] => by intro h; cases h
  | d :: ds => by
    intro h
    unfold lc2F at h
    obtain ⟨S1, _, h⟩ := nox_exc h
    split at h
    case isFalse => cases h
    obtain ⟨b, _, h⟩ := nox_exc h
    cases b with
    | false => exact lc2F_exc ds h
    | true =>
      rw [if_pos rfl] at h
      obtain ⟨es, _, h⟩ := nox_exc h
      cases e3 : lcF ga1 t1 fe (wipeS S1 vs1) es with
      | exc y => exact lcF_exc _ e3
      | fail => rw [e3] at h; cases h
      | ok ys =>
        rw [e3, R.ok_bind] at h
        cases e4 : lc2F ga t fi1 ga1 t1 fe vs vs1 S ds with
        | ok ys => rw [e4] at h; cases h
        | exc y => exact lc2F_exc ds e4
        | fail => rw [e4] at h; cases h
def lcEnd (ys : List D) : R D := if ys.length ≤ sizeLine then .ok (.lst ys) else .fail
theorem short_of {G H : Hp} {S : Env} {σ : L2.St} {Q : VK} {r : R (List D)} {ac : List D} {y : D} (p : PostE c .fr G S σ H Q (r >>= fun ys => lcEnd (ac ++ y :: ys))) (hx : ∀ x, r ≠ .exc x) : ac.length < sizeLine := by
  cases r with
  | exc x => exact absurd rfl (hx x)
  | fail => exact p.elim
  | ok ys =>
    have p : PostE c .fr G S σ H Q (lcEnd (ac ++ y :: ys)) := p
    unfold lcEnd at p
    by_cases h : (ac ++ y :: ys).length ≤ sizeLine
    · simp at h; omega
    · rw [if_neg h] at p; exact p.elim
theorem own_wipe {S : Env} {σ : L2.St} {i : Nat} {a : Addr} : ∀ vs : List Nat, OwnAt (wipeS S vs) (L2.wipe σ vs) i a → OwnAt S σ i a
  | [], h => h
  | v :: vs, ⟨⟨d, h1⟩, h2⟩ => by
    unfold wipeS at h1
    unfold L2.wipe at h2
    by_cases e : v = i
    · subst e
      have hi := (List.getElem?_eq_some_iff.mp h1).1
      rw [List.getElem?_set_self (by simpa using hi)] at h1; cases h1
    · rw [List.getElem?_set_ne e] at h1 h2
      exact own_wipe vs ⟨⟨d, h1⟩, h2⟩
theorem lc2_go {ki ki1 gs gs1 vs vs1 : List Nat} {fi fi1 : FI} {ga ga1 : FG} {fe : FE} {σ : L2.St} {H : Hp} {Q : VK} {gi gi1 : TG} {tt tt1 : TT} {te : TE} {wi1 : TI} (hg : ∀ v σ H Q, RdG c.nx gs ga v σ H Q → gi v σ H Q) (ht : ∀ σ H Q, RdT c.nx t σ H Q → tt σ H Q)
    (hi1 : ∀ σ H Q, RdI c.nx ki1 fi1 σ H Q → wi1 σ H Q) (hg1 : ∀ v σ H Q, RdG c.nx gs1 ga1 v σ H Q → gi1 v σ H Q) (ht1 : ∀ σ H Q, RdT c.nx t1 σ H Q → tt1 σ H Q) (he : ∀ σ H Q, RdE c.nx .st fe σ H Q → te σ H Q)
    (h1000 : ∀ i ∈ vs, i < 1000) (hgs : ∀ i, i ∈ gs → i ∈ vs) (hgs1 : ∀ i, i ∈ gs1 → i ∈ vs1) (q : RdE c .fr (lc2E fi ga t fi1 ga1 t1 fe vs vs1) σ H Q) : tLc2 (RdI c ki fi) gi tt wi1 gi1 tt1 te vs vs1 σ H Q := by
  obtain ⟨G, S, rel, p⟩ := q
  refine ⟨G, S, rel, ?_⟩
  have p : PostE c .fr G S σ H Q (fi S >>= fun ds => lc2F ga t fi1 ga1 t1 fe vs vs1 (wipeS S vs) ds >>= fun ys => lcEnd ys) := p
  cases e0 : fi S with
  | exc x => rw [e0] at p; exact p
  | fail => rw [e0] at p; exact p
  | ok ds =>
    rw [e0, R.ok_bind] at p
    intro J G1 H1 sp it Dl hD
    have relb := ((rel.grow sp).wipe vs).cw (W := liftX E0)
    have hD0 : H Dl = none := sp.h.free hD
    have keep : ∀ {G2 H2 G6 H6 : Hp} {av : List V}, G2 Dl = none → H2 Dl = some (.lst av) → Step G2 H2 G6 H6 → G6 Dl = none ∧ H6 Dl = some (.lst av) := fun {G2 H2 G6 H6 av} hGD hHD z => by
      refine ⟨?_, z.h _ _ hHD⟩
      cases q : G6 Dl with
      | none => rfl
      | some o =>
        rcases z.gr _ _ q with w | w
        · rw [hGD] at w; cases w
        · rw [hHD] at w; cases w
    refine ⟨fun i m H2 => m = ds.length - i ∧ i ≤ ds.length ∧ ∃ G2 ac av, Step G1 H1 G2 H2 ∧ G2 Dl = none ∧ H2 Dl = some (.lst av) ∧ RDs c.k G2 ac av ∧
        PostE c .fr G S σ H Q (lc2F ga t fi1 ga1 t1 fe vs vs1 (wipeS S vs) (ds.drop i) >>= fun ys => lcEnd (ac ++ ys)),
      ⟨_, rfl, Nat.zero_le _, G1, [], [], Step.new' sp.gh hD, sp.gh.free hD, upd_same, .nil, by simpa using p⟩, ?_⟩
    rintro i m H2 ⟨rfl, hle, G2, ac, av, sp2, hGD, hHD, hr, p2⟩
    have rel2 : Rel c.nx G2 (wipeS S vs) (L2.wipe σ vs) H2 := relb.grow sp2
    have itm := it G2 H2 sp2.g sp2.gh fun j hj x ow => by
      obtain ⟨_, _, o, _, ho, _⟩ := (rel.grow sp).own ow
      rw [ho, sp2.h _ _ ho]
    by_cases hlt : i < ds.length
    · obtain ⟨d, hd⟩ : ∃ d, ds[i]? = some d := ⟨ds[i], List.getElem?_eq_getElem hlt⟩
      have hdrop : ds.drop i = d :: ds.drop (i + 1) := by
        rw [List.drop_eq_getElem_cons hlt]; congr 1; rw [List.getElem?_eq_getElem hlt] at hd; exact Option.some.inj hd
      rw [hdrop] at p2
      obtain ⟨hgo, hy⟩ := itm.2 i d hd
      refine .inr ⟨hgo, fun H' => ∃ G3 ac av, Step G1 H1 G3 H' ∧ G3 Dl = none ∧ H' Dl = some (.lst av) ∧ RDs c.k G3 ac av ∧
        PostE c .fr G S σ H Q (lc2F ga t fi1 ga1 t1 fe vs vs1 (wipeS S vs) (ds.drop (i + 1)) >>= fun ys => lcEnd (ac ++ ys)), fun H' ⟨G3, r3⟩ => ⟨_, by omega, rfl, hlt, G3, r3⟩, fun x H3 hx => ?_⟩
      obtain ⟨G3, sp3, hd3⟩ := hy x H3 hx
      refine hg x _ H3 _ ⟨G3, wipeS S vs, d, rel2.grow sp3, hd3, ?_⟩
      unfold lc2F at p2
      cases e1 : ga d (wipeS S vs) with
      | exc x => rw [e1] at p2; exact p2.elim
      | fail => rw [e1] at p2; exact p2.elim
      | ok S1 =>
        rw [e1, R.nox_ok, R.ok_bind] at p2
        split at p2
        case isFalse => exact p2.elim
        rename_i hun
        intro G4 σ4 H4 sp4 rel4 f4
        refine ⟨wipe_eq (by rw [f4.len, wipe_length]) fun j hj => f4.sg j fun z => hj (hgs j z), ht σ4 H4 _ ⟨G4, S1, rel4, ?_⟩⟩
        cases e2 : t S1 with
        | exc x => rw [e2] at p2; exact p2.elim
        | fail => rw [e2] at p2; exact p2.elim
        | ok b =>
          rw [e2, R.nox_ok, R.ok_bind] at p2
          intro G5 H5 sp5
          have spA : Step G2 H2 G5 H5 := (sp3.trans sp4).trans sp5
          have nA := keep hGD hHD spA
          cases b with
          | false =>
            rw [if_neg Bool.false_ne_true] at p2 ⊢
            exact ⟨G5, ac, av, sp2.trans spA, nA.1, nA.2, hr.mono spA.g, p2⟩
          | true =>
            rw [if_pos rfl] at p2 ⊢
            have rel5 := rel4.grow sp5
            refine hi1 σ4 H5 _ ⟨G5, S1, rel5, ?_⟩
            cases e3 : fi1 S1 with
            | exc x => rw [e3] at p2; exact p2.elim
            | fail => rw [e3] at p2; exact p2.elim
            | ok es =>
              rw [e3, R.nox_ok, R.ok_bind] at p2
              intro J1 G6 H6 sp6 it1
              have spB := spA.trans sp6
              have nB := keep hGD hHD spB
              have rel6 := rel5.grow sp6
              have relc := rel6.wipe vs1
              have noD1 : ∀ (i' : Nat) (a : Addr), OwnAt S1 σ4 i' a → a ≠ Dl := fun i' a ⟨⟨d', z1⟩, z2⟩ e => by
                have hi' : i' ∉ gs := fun hm => by
                  have := List.all_eq_true.mp hun i' (hgs i' hm)
                  rw [z1] at this; cases this
                have hk : i' + 1000 ∉ gs := fun hm => by have := h1000 _ (hgs _ hm); omega
                rw [f4.sl i' hi' hk] at z1
                rw [f4.sg i' hi'] at z2
                obtain ⟨_, _, o, _, ho, _⟩ := relb.own (i := i') (a := a) ⟨⟨d', z1⟩, z2⟩
                rw [e, hD] at ho; cases ho
              have noD : ∀ (i' : Nat) (a : Addr), OwnAt (wipeS S1 vs1) (L2.wipe σ4 vs1) i' a → a ≠ Dl := fun i' a ow => noD1 i' a (own_wipe vs1 ow)
              refine ⟨fun j m H7 => m = es.length - j ∧ j ≤ es.length ∧ ∃ G7 ac1 av1, Step G1 H1 G7 H7 ∧ Ex G6 G7 ∧ (∀ a o, a ≠ Dl → H6 a = some o → H7 a = some o) ∧ (∀ b o, G7 b = some o → G6 b = some o ∨ H6 b = none) ∧ G7 Dl = none ∧ H7 Dl = some (.lst av1) ∧ RDs c.k G7 ac1 av1 ∧
                  PostE c .fr G S σ H Q (lcF ga1 t1 fe (wipeS S1 vs1) (es.drop j) >>= fun ys => lc2F ga t fi1 ga1 t1 fe vs vs1 (wipeS S vs) (ds.drop (i + 1)) >>= fun zs => lcEnd (ac1 ++ (ys ++ zs))),
                ⟨_, rfl, Nat.zero_le _, G6, ac, av, sp2.trans spB, Ex.refl _, fun _ _ _ z => z, fun _ _ z => .inl z, nB.1, nB.2, hr.mono spB.g, ?_⟩, ?_⟩
              · rw [List.drop_zero]
                cases e4 : lcF ga1 t1 fe (wipeS S1 vs1) es with
                | exc x => exact absurd e4 (lcF_exc _)
                | fail => rw [e4] at p2; exact p2.elim
                | ok ys =>
                  rw [e4, R.ok_bind] at p2
                  rw [R.ok_bind]
                  cases e5 : lc2F ga t fi1 ga1 t1 fe vs vs1 (wipeS S vs) (ds.drop (i + 1)) with
                  | exc x => exact absurd e5 (lc2F_exc _)
                  | fail => rw [e5] at p2; exact p2.elim
                  | ok zs => rw [e5] at p2; exact p2
              rintro j m H7 ⟨rfl, hlj, G7, ac1, av1, sp7, xg, xh, xr, nG7, nH7, hr7, p7⟩
              have rel7 : Rel c.nx G7 (wipeS S1 vs1) (L2.wipe σ4 vs1) H7 := by
                refine ⟨relb.st.trans sp7, relc.len, fun i' d' z => ?_, fun i' d' z => ?_, relc.nd⟩
                · obtain ⟨v, z1, z2⟩ := relc.fz i' d' z
                  exact ⟨v, z1, z2.mono xg⟩
                · obtain ⟨a, o, z1, z2, z3, z4, z5⟩ := relc.ow i' d' z
                  refine ⟨a, o, z1, ?_, z3, xh a o (noD i' a ⟨⟨_, z⟩, z1⟩) z4, z5.mono xg⟩
                  cases q : G7 a with
                  | none => rfl
                  | some u =>
                    rcases xr a u q with w | w
                    · rw [z2] at w; cases w
                    · rw [z4] at w; cases w
              have itm1 := it1 G7 H7 xg sp7.gh fun j' hj' x ow => by
                obtain ⟨_, _, o, _, ho, _⟩ := rel6.own ow
                rw [ho, xh x o (noD1 j' x ow) ho]
              by_cases hlt1 : j < es.length
              · obtain ⟨d1, hd1⟩ : ∃ d, es[j]? = some d := ⟨es[j], List.getElem?_eq_getElem hlt1⟩
                have hdrop1 : es.drop j = d1 :: es.drop (j + 1) := by
                  rw [List.drop_eq_getElem_cons hlt1]; congr 1; rw [List.getElem?_eq_getElem hlt1] at hd1; exact Option.some.inj hd1
                rw [hdrop1] at p7
                obtain ⟨hgo1, hy1⟩ := itm1.2 j d1 hd1
                have nxt : ∀ {G9 H9 H10 : Hp}, Step G7 H7 G9 H9 → H10 Dl ≠ none → (∀ a, a ≠ Dl → H10 a = H9 a) → Step G1 H1 G9 H10 ∧ Ex G6 G9 ∧ (∀ a o, a ≠ Dl → H6 a = some o → H10 a = some o) ∧ (∀ b o, G9 b = some o → G6 b = some o ∨ H6 b = none) := fun {G9 H9 H10} s9 hn h10 => by
                  have sA := sp7.trans s9
                  have nD := keep nG7 nH7 s9
                  refine ⟨⟨sA.g, fun b o z => ?_, fun b o z => ?_, sA.gr⟩, xg.trans s9.g, fun a o ha z => by rw [h10 a ha]; exact s9.h a o (xh a o ha z), fun b o z => ?_⟩
                  · rw [h10 b (ne_of_none z hD)]; exact sA.h b o z
                  · rw [h10 b (ne_of_none z nD.1)]; exact sA.gh b o z
                  · rcases s9.gr b o z with w | w
                    · exact xr b o w
                    · right
                      cases q : H6 b with
                      | none => rfl
                      | some u =>
                        by_cases hb : b = Dl
                        · subst hb; rw [nH7] at w; cases w
                        · rw [xh b u hb q] at w; cases w
                refine .inr ⟨hgo1, fun H' => ∃ G8 ac1 av1, Step G1 H1 G8 H' ∧ Ex G6 G8 ∧ (∀ a o, a ≠ Dl → H6 a = some o → H' a = some o) ∧ (∀ b o, G8 b = some o → G6 b = some o ∨ H6 b = none) ∧ G8 Dl = none ∧ H' Dl = some (.lst av1) ∧ RDs c.k G8 ac1 av1 ∧
                  PostE c .fr G S σ H Q (lcF ga1 t1 fe (wipeS S1 vs1) (es.drop (j + 1)) >>= fun ys => lc2F ga t fi1 ga1 t1 fe vs vs1 (wipeS S vs) (ds.drop (i + 1)) >>= fun zs => lcEnd (ac1 ++ (ys ++ zs))),
                  fun H' ⟨G8, r8⟩ => ⟨_, by omega, rfl, hlt1, G8, r8⟩, fun x H8 hx => ?_⟩
                obtain ⟨G8, sp8, hd8⟩ := hy1 x H8 hx
                refine hg1 x _ H8 _ ⟨G8, wipeS S1 vs1, d1, rel7.grow sp8, hd8, ?_⟩
                unfold lcF at p7
                cases f1 : ga1 d1 (wipeS S1 vs1) with
                | exc x => rw [f1] at p7; exact p7.elim
                | fail => rw [f1] at p7; exact p7.elim
                | ok S3 =>
                  rw [f1, R.nox_ok, R.ok_bind] at p7
                  intro G9 σ9 H9 sp9 rel9 fr9
                  refine ⟨wipe_eq (by rw [fr9.len, wipe_length]) fun j hj => fr9.sg j fun z => hj (hgs1 j z), ht1 σ9 H9 _ ⟨G9, S3, rel9, ?_⟩⟩
                  cases f2 : t1 S3 with
                  | exc x => rw [f2] at p7; exact p7.elim
                  | fail => rw [f2] at p7; exact p7.elim
                  | ok b1 =>
                    rw [f2, R.nox_ok, R.ok_bind] at p7
                    intro Ga Ha spa
                    have sC : Step G7 H7 Ga Ha := (sp8.trans sp9).trans spa
                    have nC := keep nG7 nH7 sC
                    cases b1 with
                    | false =>
                      rw [if_neg Bool.false_ne_true] at p7 ⊢
                      obtain ⟨k1, k2, k3, k4⟩ := nxt (H10 := Ha) sC (by rw [nC.2]; exact fun z => nomatch z) fun _ _ => rfl
                      exact ⟨Ga, ac1, av1, k1, k2, k3, k4, nC.1, nC.2, hr7.mono sC.g, p7⟩
                    | true =>
                      rw [if_pos rfl] at p7 ⊢
                      refine he σ9 Ha _ ⟨Ga, S3, rel9.grow spa, ?_⟩
                      cases f3 : fe S3 with
                      | exc x => rw [f3] at p7; exact p7.elim
                      | fail => rw [f3] at p7; exact p7.elim
                      | ok y =>
                        rw [f3, R.nox_ok, R.ok_bind] at p7
                        intro v Gb Hb spb hv
                        have sD := sC.trans spb
                        have nD := keep nG7 nH7 sD
                        have p8 : PostE c .fr G S σ H Q (lcF ga1 t1 fe (wipeS S1 vs1) (es.drop (j + 1)) >>= fun ys => lc2F ga t fi1 ga1 t1 fe vs vs1 (wipeS S vs) (ds.drop (i + 1)) >>= fun zs => lcEnd (ac1 ++ y :: (ys ++ zs))) := by
                          cases e4 : lcF ga1 t1 fe (wipeS S1 vs1) (es.drop (j + 1)) with
                          | exc x => exact absurd e4 (lcF_exc _)
                          | fail => rw [e4] at p7; exact p7.elim
                          | ok ys => rw [e4] at p7; simpa using p7
                        have hsh : ac1.length < sizeLine := by
                          cases e4 : lcF ga1 t1 fe (wipeS S1 vs1) (es.drop (j + 1)) with
                          | exc x => exact absurd e4 (lcF_exc _)
                          | fail => rw [e4] at p8; exact p8.elim
                          | ok ys =>
                            rw [e4, R.ok_bind] at p8
                            cases e5 : lc2F ga t fi1 ga1 t1 fe vs vs1 (wipeS S vs) (ds.drop (i + 1)) with
                            | exc x => exact absurd e5 (lc2F_exc _)
                            | fail => rw [e5] at p8; exact p8.elim
                            | ok zs => rw [e5] at p8; exact short_of (r := .ok (ys ++ zs)) p8 fun _ z => nomatch z
                        refine ⟨av1, nD.2, by rw [← hr7.length]; exact hsh, ?_⟩
                        obtain ⟨k1, k2, k3, k4⟩ := nxt (H10 := upd Hb Dl (.lst (av1 ++ [v]))) sD (by rw [upd_same]; exact fun z => nomatch z) fun _ ha => upd_ne ha
                        refine ⟨Gb, ac1 ++ [y], av1 ++ [v], k1, k2, k3, k4, nD.1, upd_same, (hr7.mono sD.g).append (.cons hv .nil), ?_⟩
                        have e : ∀ zs : List D, ac1 ++ [y] ++ zs = ac1 ++ y :: zs := fun zs => by simp
                        simp only [e]
                        exact p8
              · have hj : j = es.length := by omega
                subst hj
                rw [List.drop_length] at p7
                exact .inl ⟨itm1.1 _ (Nat.le_refl _), G7, ac1, av1, sp7, nG7, nH7, hr7, p7⟩
    · have hi : i = ds.length := by omega
      subst hi
      rw [List.drop_length] at p2
      refine .inl ⟨itm.1 _ (Nat.le_refl _), ?_⟩
      have p2 : PostE c .fr G S σ H Q (lcEnd (ac ++ [])) := p2
      rw [List.append_nil] at p2
      unfold lcEnd at p2
      by_cases hz : ac.length ≤ sizeLine
      · rw [if_pos hz] at p2
        exact p2 _ G2 H2 (sp.trans sp2) ⟨Dl, _, rfl, hGD, hD0, hHD, .lst hr⟩
      · rw [if_neg hz] at p2; exact p2.elim
theorem d_lc2 {elt iter iter1 : Expr} {ifs ifs1 : List Expr} {scope : Scope} (own : List (Str × Nat)) (vs1 : List Nat) {ki gs ki1 gs1 : List Nat} {fi fi1 : FI} {ga ga1 : FG} {fe : FE} (hc : X.calm = true) (hN : X.N.Nodup) (hi : PI' X c ki tg iter fi) (ok : BlkOk X.N X.env.scope scope own)
    (hg : ∀ (s : Shared) (H : Hp) (C : Addr) (cl : List (Str × Addr)) (fp : List Addr), PG' (X.blk s H scope (compEnvC scope cl C X.env) fp) c.nx gs tg ga) (ht : ∀ (s : Shared) (H : Hp) (C : Addr) (cl : List (Str × Addr)) (fp : List Addr), PTs' (X.blk s H scope (compEnvC scope cl C X.env) fp) c.nx ifs t)
    (hi1 : ∀ (s : Shared) (H : Hp) (C : Addr) (cl : List (Str × Addr)) (fp : List Addr), PI' (X.blk s H scope (compEnvC scope cl C X.env) fp) c.nx ki1 tg1 iter1 fi1)
    (hg1 : ∀ (s : Shared) (H : Hp) (C : Addr) (cl : List (Str × Addr)) (fp : List Addr), PG' (X.blk s H scope (compEnvC scope cl C X.env) fp) c.nx gs1 tg1 ga1) (ht1 : ∀ (s : Shared) (H : Hp) (C : Addr) (cl : List (Str × Addr)) (fp : List Addr), PTs' (X.blk s H scope (compEnvC scope cl C X.env) fp) c.nx ifs1 t1)
    (he : ∀ (s : Shared) (H : Hp) (C : Addr) (cl : List (Str × Addr)) (fp : List Addr), PE' (X.blk s H scope (compEnvC scope cl C X.env) fp) c.nx .st elt fe) (hv : ∀ i ∈ vs1, i ∈ own.map (·.2) := by decide) (h1000 : ∀ i ∈ own.map (·.2), i < 1000 := by decide) (hgs : ∀ i, i ∈ gs → i ∈ own.map (·.2) := by decide) (hgs1 : ∀ i, i ∈ gs1 → i ∈ vs1 := by decide) (hs : ∀ x, foldedSetIterable iter X.env x = pure x := by intro _; rfl) (hs1 : ∀ env x, foldedSetIterable iter1 env x = pure x := by intro _ _; rfl) :
    PE' X c .fr (.ListComp elt [⟨tg, iter, ifs, 0⟩, ⟨tg1, iter1, ifs1, 0⟩] scope pos) (lc2E fi ga t fi1 ga1 t1 fe (own.map (·.2)) vs1) :=
  peI (pe_lc2 hc hN hi ok hv hg ht hi1 hg1 ht1 he hs hs1) fun σ H Q q => lc2_go (fun _ _ _ _ z => z) (fun _ _ _ z => z) (fun _ _ _ z => z) (fun _ _ _ _ z => z) (fun _ _ _ z => z) (fun _ _ _ z => z) h1000 hgs hgs1 q
end M
set_option Elab.async false
set_option linter.all false
set_option maxRecDepth 100000
set_option maxHeartbeats 4000000
namespace M
open PySem L2 PySem.Spec PyProof.Rows
section
variable {prog : Program} {w : World} {A : Around} {R : Result → Shared → Prop} {s : Shared} {elt t0 i0 t1 i1 : Expr} {ifs0 ifs1 : List Expr} {scope : Scope} {pos : Pos} {it acc : Value} {env : PySem.Env}
end
section
variable {τ κ : Type}
variable {X : Cx}
end
end M
set_option Elab.async false
set_option linter.all false
set_option maxRecDepth 100000
set_option maxHeartbeats 4000000
namespace M
open PySem L2
theorem strict_unique {xs ys : List Int} (h1 : xs.Pairwise (· < ·)) (h2 : ys.Pairwise (· < ·)) (h : ∀ k, k ∈ xs ↔ k ∈ ys) : xs = ys := by
  have n1 : xs.Nodup := h1.imp fun h e => by omega
  have n2 : ys.Nodup := h2.imp fun h e => by omega
  have p : xs.Perm ys := (List.perm_ext_iff_of_nodup n1 n2).mpr h
  exact p.eq_of_pairwise (fun a b _ _ h1 h2 => by omega) h1 h2
variable {c : Cf} {kd : Kd} {a : Expr} {t t1 : FT} {fr : Bool} {pos : Pos} {tg tg1 : Expr}
end M
set_option Elab.async false
set_option linter.all false
set_option maxRecDepth 100000
set_option maxHeartbeats 4000000
namespace M
open PySem L2 PySem.Spec PyProof.Rows
section
variable {X : Cx} {pins : List (Addr × Obj)} {σ : L2.St} {H H' : Hp} {s : Shared} {a : Addr} {y v : V} {u r : Value} {A : Around} {E : Value → Shared → Prop}
end
structure DK (κ : Type) [DecidableEq κ] where
  key : D → Option κ
  mkd : List κ → List D → D
  ho : List (κ × V) → HO
  put : ∀ {k : Kn} {G H : Hp} {a : Addr} {d : D} {y v : V} {q : κ} {kvs : List (κ × V)}, Ex G H → key d = some q → RD k G d y → H a = some (ho kvs) → kvs.length < sizeLine → DPut H a y v (upd H a (ho (putK kvs q v)))
  cont : ∀ {k : Kn} {G : Hp} {ks : List κ} {ds : List D} {vs : List V}, ks.length = ds.length → RDs k G ds vs → Cont k G (mkd ks ds) (ho (ks.zip vs))
  new : ∀ {P : Program} {w : World} {H : Hp} (h : Heap), sysModules < h.objs.size → ObjOk P w H (h.push { cls := .type "dict", data := .dict #[] }) h.objs.size (ho [])
section
variable {κ : Type} [DecidableEq κ] {X : Cx}
end
end M
set_option Elab.async false
set_option linter.all false
set_option maxRecDepth 100000
set_option maxHeartbeats 4000000
namespace M
open PySem L2
section
variable {κ : Type} [DecidableEq κ]
end
section
variable {κ : Type} [DecidableEq κ]
end
end M
set_option Elab.async false
set_option linter.all false
set_option maxRecDepth 100000
set_option maxHeartbeats 4000000
namespace M
open PySem L2
variable {X : Cx} {c : Cf} {kd k1 k2 k3 : Kd} {e o : Expr} {f g h : FE} {pos apos cpos : Pos} {k : Kn}
def isLst : D → Bool
  | .lst _ => true
  | _ => false
end M
set_option Elab.async false
set_option linter.all false
set_option maxRecDepth 100000
set_option maxHeartbeats 4000000
namespace M
open PySem L2 PySem.W
section
variable {prog : Program} {w : World} {A : Around} {E : Value → Shared → Prop} {s : Shared} {K : PySem.W.Frag} {a C f : Addr} {ox : Obj} {od : Option Obj} {x : Value}
end
section
variable {X : Cx} {k : Kn} {lv m' ci : Nat} {den : List D → R D}
end
section
variable {X : Cx} {c : Cf} {a b : Expr} {f g : FE} {pos : Pos} {den : List D → R D}
def hasB (neg : Bool) : D → R D
  | .bl b => .ok (.bl (b != neg))
  | _ => .fail
def eHas (ci : Nat) (den : List D → R D) (neg : Bool) (f g : FE) : FE := fun S => f S >>= fun x => g S >>= fun o => if o.isObj ci then (den [o, x]).nox >>= hasB neg else .fail
end
end M
set_option Elab.async false
set_option linter.all false
set_option maxRecDepth 100000
set_option maxHeartbeats 4000000
namespace M
open PySem L2 PyProof.Rows
open PySem.Sem (wp)
def boolD : D → R D
  | .lst ds => .ok (.bl (!ds.isEmpty))
  | .tup ds => .ok (.bl (!ds.isEmpty))
  | .bl b => .ok (.bl b)
  | .int i => .ok (.bl (i != 0))
  | _ => .fail
section
variable {X : Cx} {k : Kn}
end
end M
set_option Elab.async false
set_option linter.all false
set_option maxRecDepth 100000
set_option maxHeartbeats 4000000
namespace M
open PySem L2 RZ
end M
set_option Elab.async false
set_option linter.all false
set_option maxRecDepth 100000
set_option maxHeartbeats 4000000
namespace M
open PySem L2
section
variable {X : Cx} {c : Cf} {kd k1 k2 k3 : Kd} {a b e o : Expr} {f g h : FE} {pos apos : Pos} {fr : Bool} {x : Str} {den : List D → R D} {ci : Nat}
end
end M
set_option Elab.async false
set_option linter.all false
set_option maxRecDepth 100000
set_option maxHeartbeats 4000000
namespace M
open PySem L2
section
variable {X : Cx} {c : Cf} {k : Kn} {kd k1 k2 k3 : Kd} {a b e o : Expr} {f g h : FE} {pos apos cpos p' : Pos} {fr : Bool} {x y : Str} {den : List D → R D}
end
end M
set_option Elab.async false
set_option linter.all false
set_option maxRecDepth 100000
set_option maxHeartbeats 4000000
namespace M
open PySem L2
structure MakerXK (P : Program) (w : World) (K : PySem.W.Frag) (mg : Str → Option Value) (base : Heap) (k : Kn) (lv : Nat) (x : Str) (ci n : Nat) (ks : List Str) (den : List D → R D) : Prop where
  ex : ∃ (C f : Addr) (fd : FuncData) (ps nm : List Str) (g : List Value → List Value → List Value), k.cl ci = some (C, nm) ∧ Mk K C f ∧ FnOk P w K mg base (L2N.CX P w) lv f fd ps (SpN k ci (n + ks.length + 1) den) ∧ mg x = some (.ref C) ∧ KBn K fd ps (n + 1) ks g (fun vs zs => vs ++ zs)
section
variable {X : Cx} {c : Cf} {kd k1 k2 k3 : Kd} {a b e o : Expr} {f g h : FE} {pos apos : Pos} {fr : Bool} {x : Str} {den : List D → R D} {ci : Nat}
def eCXK (o : List D → R D) (fa fk : FA) : FE := fun S => fa S >>= fun as => fk S >>= fun bs => o (as ++ bs)
end
end M
set_option Elab.async false
set_option linter.all false
set_option maxRecDepth 100000
set_option maxHeartbeats 4000000
namespace M
open PySem L2
section
variable {X : Cx} {c : Cf} {a b : Expr} {f g : FE} {pos : Pos} {fr : Bool} {x y : Str}
def sParO (i j : Nat) (f g : FE) : FS := fun S => f S >>= fun d => g S >>= fun e => .ok (.nx, (S.set i (some ⟨true, d⟩)).set j (some ⟨true, e⟩))
end
end M
set_option Elab.async false
set_option linter.all false
set_option maxRecDepth 100000
set_option maxHeartbeats 4000000
namespace M
open PySem L2
mutual
def noL : D → Bool
  | .lst _ => false
  | .scr _ => false
  | .tup xs => noLs xs
  | .dic _ _ => false
  | .dit _ xs => noLs xs
  | .dkf _ xs => noLs xs
  | .dig _ _ => false
  | .dgf _ _ => false
  | .obj _ xs => noLs xs
  | _ => true
def noLs : List D → Bool
  | [] => true
  | x :: xs => noL x && noLs xs
end
def noC : D → Bool
  | .lst xs => noLs xs
  | .dic _ xs => noLs xs
  | .dit _ xs => noLs xs
  | .obj _ xs => noLs xs
  | .dig _ _ => false
  | .dgf _ _ => false
  | _ => false
def noK : Kd → D → Bool
  | .st => noL
  | .fr => noC
  | .bo => fun _ => false
def Lnt : HO → Bool
  | .lst _ => true
  | .dK _ => true
  | _ => false
def Lnd (G Gp : Hp) : Prop := ∀ b, Gp b = G b ∨ (G b = none ∧ ∃ o, Gp b = some o ∧ Lnt o = true)
def unL (G G' : Hp) : Hp := fun b => match G b with
  | some o => some o
  | none => match G' b with
    | some o => if Lnt o then none else some o
    | none => none
theorem unL_old {G G' : Hp} {b : Addr} {o : HO} (h : G b = some o) : unL G G' b = some o := by unfold unL; rw [h]
theorem unL_keep {G G' : Hp} (e : Ex G G') {b : Addr} {o : HO} (h : G' b = some o) (hn : Lnt o = false) : unL G G' b = some o := by
  unfold unL
  cases g : G b with
  | some u => have := e b u g; rw [h] at this; cases this; rfl
  | none =>
    rw [h]
    dsimp only
    rw [if_neg (by rw [hn]; decide)]
theorem unL_sub {G G' : Hp} (e : Ex G G') {b : Addr} {o : HO} (h : unL G G' b = some o) : G' b = some o ∧ (G b = some o ∨ (G b = none ∧ Lnt o = false)) := by
  unfold unL at h
  cases g : G b with
  | some u => rw [g] at h; cases h; exact ⟨e b _ g, .inl rfl⟩
  | none =>
    rw [g] at h
    cases g' : G' b with
    | none => rw [g'] at h; cases h
    | some u =>
      rw [g'] at h
      dsimp only at h
      by_cases hl : Lnt u = true
      · rw [if_pos hl] at h; cases h
      · rw [if_neg hl] at h; cases h
        exact ⟨rfl, .inr ⟨rfl, by simpa using hl⟩⟩
theorem unL_none {G G' : Hp} (e : Ex G G') {b : Addr} (h : G' b = none) : unL G G' b = none := by
  cases q : unL G G' b with
  | none => rfl
  | some o => have := (unL_sub e q).1; rw [h] at this; cases this
mutual
theorem RD.unL {k : Kn} {G G' : Hp} (e : Ex G G') : ∀ {d : D} {v : V}, noL d = true → RD k G' d v → RD k (M.unL G G') d v
  | _, _, _, .non => .non
  | _, _, _, .bl b => .bl b
  | _, _, _, .int i => .int i
  | _, _, _, .str x => .str x
  | _, _, _, .ty n => .ty n
  | _, _, h, .tup s r => .tup (by
      rcases s with s | s
      · exact .inl (unL_keep e s rfl)
      · exact .inr s) (RDs.unL e (by simpa only [noL] using h) r)
  | _, _, h, .lst _ _ => by simp [noL] at h
  | _, _, h, .scr _ => by simp [noL] at h
  | _, _, _, .cls h => .cls h
  | _, _, h, .dic _ _ _ => by simp [noL] at h
  | _, _, h, .dig _ _ _ _ => by simp [noL] at h
  | _, _, h, .dgf _ _ _ _ => by simp [noL] at h
  | _, _, h, .dit s l r => .dit (unL_keep e s rfl) l (RDs.unL e (by simpa only [noL] using h) r)
  | _, _, h, .dkf s l r => .dkf (unL_keep e s rfl) l (RDs.unL e (by simpa only [noL] using h) r)
  | _, _, h, .obj c s r => .obj c (unL_keep e s rfl) (RDs.unL e (by simpa only [noL] using h) r)
theorem RDs.unL {k : Kn} {G G' : Hp} (e : Ex G G') : ∀ {ds : List D} {vs : List V}, noLs ds = true → RDs k G' ds vs → RDs k (M.unL G G') ds vs
  | _, _, _, .nil => .nil
  | _, _, h, .cons a b => by
    simp only [noLs, Bool.and_eq_true] at h
    exact .cons (RD.unL e h.1 a) (RDs.unL e h.2 b)
end
theorem Cont.unL {k : Kn} {G G' : Hp} (e : Ex G G') {d : D} {o : HO} (h : noC d = true) (c : Cont k G' d o) : Cont k (M.unL G G') d o := by
  cases c with
  | lst r => exact .lst (r.unL e (by simpa only [noC] using h))
  | dic l r => exact .dic l (r.unL e (by simpa only [noC] using h))
  | dit l r => exact .dit l (r.unL e (by simpa only [noC] using h))
  | dig l kk r => simp [noC] at h
  | obj q r => exact .obj q (r.unL e (by simpa only [noC] using h))
theorem Step.unL {G H Gp G' H' : Hp} (e : Ex G Gp) (l : Lnd G Gp) (s : Step Gp H G' H') : Step G H (M.unL G G') H' where
  g := fun b o h => unL_old h
  h := s.h
  gh := fun b o h => s.gh b o (unL_sub (e.trans s.g) h).1
  gr := fun b o h => by
    obtain ⟨h1, h2⟩ := unL_sub (e.trans s.g) h
    rcases h2 with h2 | ⟨h2, h3⟩
    · exact .inl h2
    · rcases s.gr b o h1 with q | q
      · rcases l b with z | ⟨z, u, z2, z3⟩
        · rw [q, h2] at z; cases z
        · rw [q] at z2; cases z2; rw [h3] at z3; cases z3
      · exact .inr q
def fzL1 (S : Env) (i : Nat) : Option Env := match S[i]? with
  | some (some ⟨true, .lst ds⟩) => some (S.set i (some ⟨false, .lst ds⟩))
  | some (some ⟨true, .dic ks ds⟩) => some (S.set i (some ⟨false, .dic ks ds⟩))
  | some (some ⟨false, _⟩) => some S
  | _ => none
def fzL : Env → List Nat → Option Env
  | S, [] => some S
  | S, i :: is => match fzL1 S i with
    | some S' => fzL S' is
    | none => none
section
variable {c : Cf} {G H : Hp} {S S' : Env} {σ : St}
theorem Rel.frzLd (r : Rel c G S σ H) {i : Nat} {d : D} (hd : S[i]? = some (some ⟨true, d⟩)) (hl : ∀ o, Cont c.k G d o → Lnt o = true) : ∃ G', Ex G G' ∧ Lnd G G' ∧ Rel c G' (S.set i (some ⟨false, d⟩)) σ H := by
  obtain ⟨a, o, e, g, h0, ho, ct⟩ := r.ow i _ hd
  have ow : OwnAt S σ i a := ⟨⟨_, hd⟩, e⟩
  have ex : Ex G (upd G a o) := Ex.new g
  have hi : i < S.length := (List.getElem?_eq_some_iff.mp hd).1
  refine ⟨upd G a _, ex, fun b => ?_, ⟨r.st.frz ho h0 g, by rw [List.length_set]; exact r.len, fun j d' q => ?_, fun j d' q => ?_, fun j l b q1 q2 => ?_⟩⟩
  · by_cases hb : b = a
    · subst hb; exact .inr ⟨g, o, upd_same, hl o ct⟩
    · exact .inl (upd_ne hb)
  · by_cases hj : i = j
    · subst hj
      rw [List.getElem?_set_self hi] at q; cases q
      exact ⟨_, e, (ct.mono ex).rd upd_same⟩
    · rw [List.getElem?_set_ne hj] at q
      obtain ⟨v, e', q'⟩ := r.fz j d' q
      exact ⟨v, e', q'.mono ex⟩
  · by_cases hj : i = j
    · subst hj
      rw [List.getElem?_set_self hi] at q; cases q
    · rw [List.getElem?_set_ne hj] at q
      obtain ⟨b, u, e', g', h0', ho', ct'⟩ := r.ow j d' q
      have hb : b ≠ a := fun z => hj (r.nd i j a ow ⟨⟨d', q⟩, by rw [← z]; exact e'⟩)
      exact ⟨b, u, e', by rw [upd_ne hb]; exact g', h0', ho', ct'.mono ex⟩
  · have back : ∀ {m : Nat}, OwnAt (S.set i (some ⟨false, d⟩)) σ m b → OwnAt S σ m b := fun {m} hm => by
      obtain ⟨⟨d', q⟩, z⟩ := hm
      by_cases hj : i = m
      · subst hj; rw [List.getElem?_set_self hi] at q; cases q
      · rw [List.getElem?_set_ne hj] at q; exact ⟨⟨d', q⟩, z⟩
    exact r.nd j l b (back q1) (back q2)
theorem Rel.frzL1 (r : Rel c G S σ H) {i : Nat} (h : fzL1 S i = some S') : ∃ G', Ex G G' ∧ Lnd G G' ∧ Rel c G' S' σ H := by
  unfold fzL1 at h
  split at h
  · rename_i ds hd
    cases h
    exact r.frzLd hd fun o ct => by cases ct; rfl
  · rename_i ks ds hd
    cases h
    exact r.frzLd hd fun o ct => by cases ct; rfl
  · cases h; exact ⟨G, Ex.refl _, fun b => .inl rfl, r⟩
  · cases h
theorem Rel.frzL : ∀ {is : List Nat} {G : Hp} {S : Env}, Rel c G S σ H → fzL S is = some S' → ∃ G', Ex G G' ∧ Lnd G G' ∧ Rel c G' S' σ H
  | [], G, S, r, h => by simp only [fzL] at h; cases h; exact ⟨G, Ex.refl _, fun b => .inl rfl, r⟩
  | i :: is, G, S, r, h => by
    simp only [fzL] at h
    split at h
    · rename_i S1 e1
      obtain ⟨G1, x1, l1, r1⟩ := r.frzL1 e1
      obtain ⟨G2, x2, l2, r2⟩ := Rel.frzL r1 h
      refine ⟨G2, x1.trans x2, fun b => ?_, r2⟩
      rcases l2 b with z | ⟨z, vs, z2⟩
      · rw [z]; exact l1 b
      · rcases l1 b with y | ⟨y, ws, y2⟩
        · exact .inr ⟨by rw [← y]; exact z, vs, z2⟩
        · exact .inr ⟨y, vs, z2⟩
    · cases h
end
def eBw (kd : Kd) (is : List Nat) (f : FE) : FE := fun S => match fzL S is with
  | some S' => f S' >>= fun d => if noK kd d then .ok d else .fail
  | none => .fail
theorem d_bw {X : Cx} {c : Cf} {kd : Kd} {e : Expr} {f : FE} (is : List Nat) (h : PE' X c kd e f) : PE' X c kd e (eBw kd is f) :=
  peI h fun σ H Q ⟨G, S, rel, p⟩ => by
    unfold eBw at p
    split at p
    · rename_i S' hS
      obtain ⟨Gp, ex, ld, rel'⟩ := rel.frzL hS
      refine ⟨Gp, S', rel', ?_⟩
      cases e1 : f S' with
      | exc x => rw [e1] at p; exact p
      | fail => rw [e1] at p; exact p
      | ok d =>
        rw [e1, R.ok_bind] at p
        intro v G' H' s q
        by_cases hk : noK kd d = true
        · rw [if_pos hk] at p
          refine p v (unL G G') H' (s.unL ex ld) ?_
          have e2 : Ex G G' := ex.trans s.g
          cases kd with
          | st => exact RD.unL e2 hk q
          | bo => cases hk
          | fr => obtain ⟨a, o, rfl, hg, hn, ha, ct⟩ := q; exact ⟨a, o, rfl, unL_none e2 hg, hn, ha, ct.unL e2 hk⟩
        · rw [if_neg hk] at p; exact p.elim
    · exact p.elim
end M
set_option Elab.async false
set_option linter.all false
set_option maxRecDepth 100000
set_option maxHeartbeats 4000000
namespace M
open PySem L2 PyProof.Rows
theorem cxUpN {P : Program} {w : World} : StX.CXUp (L2N.CX P w) := by
  rintro outer s H s2 H2 E e s' un kp ho ⟨a, B, H', cls, d, ea, fl, hok, ub, na, os, ag, he⟩
  refine ⟨a, B, H', cls, d, ea, fl, hok, ⟨fun b o q n hb => ub.keep b o (kp b o q) (un.free b o q n (by simp)) hb, fun b o q hb => ub.slot b o (kp b o q) hb, fun b o q n => ub.free b o (kp b o q) (un.free b o q n (by simp)),
    fun b o q hb => ub.there b o (kp b o q) hb, fun b xs q => ub.tups b xs (un.tups b xs q), fun b o xs q => ub.frzs b o xs (un.frzs b o xs q), fun b ps q => ?_⟩, na, os.trans ho, ag, he⟩
  obtain ⟨m1, e1⟩ := un.tbls b ps q
  obtain ⟨m2, e2⟩ := ub.tbls b _ e1
  exact ⟨m1 ++ m2, by rw [e2, Array.append_assoc]⟩
def KwT {α : Type} (D : Addr) : List (Str × Value) → Sem α → Sem α → Prop
  | [], t, r => t = r
  | q :: l, t, r => ∃ (β γ : Type) (k1 : Option Value → Sem β) (k2 : β → Sem γ) (k3 : γ → Sem α) (a : β), t = ((nsGet D q.1 >>= k1) >>= k2) >>= k3 ∧ k1 (some q.2) = pure a ∧ KwT D l (k2 a >>= k3) r
theorem KwT.run {α : Type} {K : PySem.W.Frag} {M : Model} {A : Around} {D : Addr} {Q : α → Shared → Prop} {E : Value → Shared → Prop} {s : Shared} (X : K.In s.heap) {r : Sem α} (h : wpAny M A r Q E s) : ∀ {l : List (Str × Value)} {t : Sem α}, (∀ q ∈ l, PySem.W.nsIn K D q.1 = some (some q.2)) → KwT D l t r → wpAny M A t Q E s
  | [], t, _, e => by cases (show t = r from e); exact h
  | q :: l, t, hl, ⟨β, γ, k1, k2, k3, a, e1, e2, e3⟩ => by
    have ih := KwT.run X h (fun p hp => hl p (List.mem_cons_of_mem _ hp)) e3
    have l1 : PySem.W.Looks M s.heap (nsGet D q.1 >>= k1) a := (PySem.W.looks_nsIn X (hl q (List.mem_cons_self ..))).andThen (PySem.W.Looks.of_pure e2)
    rw [e1, bind_assoc]
    exact wpAny_bind (l1.here ih)
def StarB (K : PySem.W.Frag) (fd : FuncData) (ps : List Str) (pv : Str) (m : Nat) (ks : List Str) (g : List Value → List Value → List Value) : Prop :=
  ∀ (M : Model) (A : Around) (Ex : Value → Shared → Prop) (Q : List (Str × Value) → Shared → Prop) (s : Shared) (us rest ws : List Value), K.In s.heap → us.length = m → ws.length = ks.length →
    wpAny M A (newTuple rest) (fun t s' => Q (ps.zip (g us ws) ++ [(pv, t)]) s') Ex s → wpAny M A (bindArgs fd ⟨us ++ rest, ks.zip ws⟩) Q Ex s
section
variable {K : PySem.W.Frag} {x qual : Str} {params : Arguments} {body : List Stmt} {scope : Scope} {dvs : List V} {kws : List (Str × V)} {f : Addr} {fd : FuncData} {ps : List Str} {pv : Str}
theorem tail_star {M : Model} {A : Around} {Ex : Value → Shared → Prop} {Q : List (Str × Value) → Shared → Prop} {s : Shared} {rest : List Value} {l : List (Str × Value)} (h : wpAny M A (newTuple rest) (fun t s' => Q (l ++ [(pv, t)]) s') Ex s) :
    wpAny M A (newTuple rest >>= fun t => pure (l ++ [(pv, t)])) Q Ex s := wpAny_bind (wpAny_mono h (fun _ _ q => wpAny_pure q) fun _ _ q => q)
theorem starB0 (F : FunD K x qual params body scope [] kws f fd) (m : Nat)
    (h : ∀ (kV doc pm : Value) (an : Option Addr) (cdv ct : Value) (us rest : List Value), us.length = m → bindArgs (PySem.W.fnOf x qual params body scope .none kV doc pm an cdv ct) ⟨us ++ rest, []⟩ = (newTuple rest >>= fun t => pure (ps.zip us ++ [(pv, t)]))) : StarB K fd ps pv m [] (fun us _ => us) := by
  obtain ⟨oc, od, dV, kV, doc, pm, an, cdv, ct, osl, rfl, lk, hcd, hD, hK⟩ := F.ex
  rcases hD with ⟨_, rfl⟩ | ⟨e, _⟩
  · intro M A Ex Q s us rest ws X l1 l2 hq
    have : ws = [] := List.eq_nil_of_length_eq_zero l2
    subst this
    rw [List.zip_nil_right, h kV doc pm an cdv ct us rest l1]
    exact tail_star hq
  · exact absurd rfl e
end
def FnStar (P : Program) (w : World) (K : PySem.W.Frag) (mg : Str → Option Value) (base : Heap) (CX : CXT) (lv : Nat) (f : Addr) (m : Nat) (ks : List Str) (gV : List V → List V → List V) (sp : Sp) : Prop :=
  ∀ (A : Around) (outer : List PySem.Env) (s : Shared) (H : Hp) (us rs ws : List Value) (vs xs zs : List V) (Q : VK) (E : XK), Room lv A → Env0 P w K mg base A outer s H → Vals vs us → Vals xs rs → Vals zs ws → us.length = m → ws.length = ks.length → xs.length ≤ sizeLine →
    (∀ p, H p = none → sp (gV vs zs ++ [.ref p]) (upd H p (.tup xs)) Q E) → codeAny (model P w) A (.call (.ref f) ⟨us ++ rs, ks.zip ws⟩) (CR CX outer P w H s Q E) s
section
variable {CX : CXT} {P : Program} {w : World} {K : PySem.W.Frag} {mg : Str → Option Value} {base : Heap} {k : Nat} {x qual : Str} {params : Arguments} {body : List Stmt} {scope : Scope} {dvs : List V} {kws : List (Str × V)} {f : Addr} {fd : FuncData} {N ps : List Str} {pv : Str} {sp : Sp}
theorem fn_starX (F : FunD K x qual params body scope dvs kws f fd) (S : FnScope N (ps ++ [pv]) scope) (hCX : StX.CXUp CX) {m : Nat} {ks : List Str} {g : List Value → List Value → List Value} {gV : List V → List V → List V} (hb : StarB K fd ps pv m ks g)
    (hrel : ∀ {vs : List V} {us : List Value} {zs : List V} {ws : List Value}, Vals vs us → Vals zs ws → Vals (gV vs zs) (g us ws)) (hlen : ∀ us ws : List Value, us.length = m → ws.length = ks.length → (g us ws).length = ps.length)
    (hbody : ∀ (cdv : Value) (A : Around) (outer : List PySem.Env) (s : Shared) (H : Hp) (vs : List V) (Q : VK) (E : XK), Room k (A.deeper (envOfC qual scope s.heap.objs.size f cdv)) → sp vs H Q E →
      ∃ t, PSs (cxOf CX P w K mg base N qual scope f cdv A outer s H E) body t ∧ t { nx := fun _ H' => Q .non H', rt := Q } (L2.start N vs) H) : FnStar P w K mg base CX (k + 1) f m ks gV sp := by
  obtain ⟨oc, od, dV, kV, doc, pm, an, cdv, ct, osl, rfl, lk, hcd, _, _⟩ := F.ex
  intro A outer s H us rs ws vs xs zs Q E hr e0 r1 r2 r3 l1 l2 hz hq
  have hn : H s.heap.objs.size = Option.none := e0.hok.fresh (Nat.le_refl _)
  have KX : K.In s.heap := e0.mod.kin.keeps fun b o e => (e0.bs b o e).1
  have rg := hrel r1 r3
  have lg := hlen us ws l1 l2
  have lv : (gV vs zs).length = ps.length := rg.length.trans lg
  refine StX.run_bnd lk hcd S hr e0 (G := fun as H2 => ∃ p, H p = Option.none ∧ as = gV vs zs ++ [V.ref p] ∧ H2 = upd H p (.tup xs)) (fun A' Ex Q' h => ?_) fun s2 H2 as ⟨p, hp, ex, eH⟩ hr' => ?_
  · refine hb _ _ _ _ s us rs ws KX l1 l2 (wpAny_newTuple ?_ (by rw [← r2.length]; exact hz))
    have new : ObjOk P w (upd H s.heap.objs.size (.tup xs)) (s.heap.push ({ cls := .type "tuple", data := .seq rs.toArray } : Obj)) s.heap.objs.size (.tup xs) := ⟨hz, rs, r2, ⟨_, Heap.get?_push_size _ rfl, rfl, _, rfl⟩⟩
    have un := StX.un_laid (fs := frs outer) (s := s) (o := ({ cls := .type "tuple", data := .seq rs.toArray } : Obj)) (u := .tup xs) hn
    have z := h _ _ (gV vs zs ++ [V.ref s.heap.objs.size]) (g us ws ++ [Value.ref s.heap.objs.size]) (StX.env0_laid e0 new) un rfl (fun e s' => hCX outer s H _ _ E e s' un (fun b o q => Heap.get?_push_of_some _ q) rfl) (rg.append (.cons rfl .nil))
      (by rw [List.length_append, List.length_append, lv] <;> rfl) ⟨_, hn, rfl, rfl⟩
    rw [List.zip_append lg.symm] at z
    exact z
  · subst ex eH
    exact hbody cdv A outer s2 _ _ Q E hr' (hq p hp)
theorem init_okS {k : Kn} {as : List Nat} {lv ci : Nat} {s : FS} (F : FunD k.K x qual params body scope dvs kws f fd) (S : FnScope N (ps ++ [pv]) scope) (h0 : 0 ∉ as) {m : Nat} {ks : List Str} {g : List Value → List Value → List Value} {gV : List V → List V → List V} (hb0 : StarB k.K fd ps pv m ks g)
    (hrel : ∀ {vs : List V} {us : List Value} {zs : List V} {ws : List Value}, Vals vs us → Vals zs ws → Vals (gV vs zs) (g us ws)) (hlen : ∀ us ws : List Value, us.length = m → ws.length = ks.length → (g us ws).length = ps.length)
    (hb : ∀ (cdv : Value) (A : Around) (outer : List PySem.Env) (sh : Shared) (H H0 G0 : Hp) (E : XK), Room lv (A.deeper (PyProof.Rows.envOfC qual scope sh.heap.objs.size f cdv)) → L2N.Takes (cxOf (L2N.CX P w) P w k.K mg base N qual scope f cdv A outer sh H E) (liftX E) →
      PB' (cxOf (L2N.CX P w) P w k.K mg base N qual scope f cdv A outer sh H E) ⟨k, H0, G0, liftX E⟩ false as body s) :
    FnStar P w k.K mg base (L2N.CX P w) (lv + 1) f m ks gV (SpN k ci (ps.length + 1) (runN N.length ci s)) := by
  refine fn_starX F S cxUpN hb0 hrel hlen fun cdv A outer sh H vs Q E hr q => ?_
  have q' : SpN k ci (ps ++ [pv]).length (runN N.length ci s) vs H Q E := by rw [List.length_append]; exact q
  exact body_init (X := cxOf (L2N.CX P w) P w k.K mg base N qual scope f cdv A outer sh H E) h0 (fun H0 G0 => hb cdv A outer sh H H0 G0 E hr (L2N.takes_of rfl rfl rfl rfl)) q
end
def mergeK {α : Type} : List Bool → List α → List α → List α
  | true :: bs, _ :: ds, g :: gs => g :: mergeK bs ds gs
  | false :: bs, d :: ds, gs => d :: mergeK bs ds gs
  | _, _, _ => []
theorem mergeK_rds {k : Kn} {G : Hp} : ∀ {bs : List Bool} {ds gs : List D} {vs us : List V}, RDs k G ds vs → RDs k G gs us → RDs k G (mergeK bs ds gs) (mergeK bs vs us)
  | [], _, _, _, _, _, _ => by simp only [mergeK]; exact .nil
  | true :: bs, _, _, _, _, .nil, _ => by simp only [mergeK]; exact .nil
  | false :: bs, _, _, _, _, .nil, _ => by simp only [mergeK]; exact .nil
  | true :: bs, _, _, _, _, .cons _ r, .nil => by simp only [mergeK]; exact .nil
  | true :: bs, _, _, _, _, .cons _ r, .cons a q => by simp only [mergeK]; exact .cons a (mergeK_rds r q)
  | false :: bs, _, _, _, _, .cons a r, q => by simp only [mergeK]; exact .cons a (mergeK_rds r q)
structure MakerXS (P : Program) (w : World) (K : PySem.W.Frag) (mg : Str → Option Value) (base : Heap) (k : Kn) (lv : Nat) (x : Str) (ci n : Nat) (mask : List Bool) (ks : List Str) (dd : List D) (den : List D → R D) : Prop where
  ex : ∃ (C f : Addr) (nm : List Str) (dvs : List V), k.cl ci = some (C, nm) ∧ Mk K C f ∧ mg x = some (.ref C) ∧ (∀ G, RDs k G dd dvs) ∧ dd.length = mask.length ∧ (mask.filter id).length = ks.length ∧
    FnStar P w K mg base (L2N.CX P w) lv f (n + 1) ks (fun vs zs => vs ++ mergeK mask dvs zs) (SpN k ci (n + 1 + mask.length + 1) den)
theorem mergeK_len {α : Type} : ∀ {bs : List Bool} {ds gs : List α}, ds.length = bs.length → (bs.filter id).length = gs.length → (mergeK bs ds gs).length = bs.length
  | [], _, _, _, _ => rfl
  | true :: bs, [], _, h, _ => by simp at h
  | false :: bs, [], _, h, _ => by simp at h
  | true :: bs, _ :: ds, [], _, h => by simp at h
  | true :: bs, _ :: ds, _ :: gs, h1, h2 => by
    simp only [mergeK, List.length_cons]
    rw [mergeK_len (by simpa using h1) (by simpa using h2)]
  | false :: bs, _ :: ds, gs, h1, h2 => by
    simp only [mergeK, List.length_cons]
    rw [mergeK_len (by simpa using h1) (by simpa using h2)]
section
variable {X : Cx} {c : Cf} {kd k1 k2 k3 : Kd} {a b e o : Expr} {f g h : FE} {pos apos : Pos} {fr : Bool} {x : Str} {den : List D → R D} {ci : Nat}
theorem run_makeSt {CX : CXT} {k m : Nat} {C f : Addr} {ks : List Str} {sp : Sp} {E : XK} {gV : List V → List V → List V} {pins : List (Addr × Obj)} {σ : L2.St} {H : Hp} {s : Shared} {Q : VK} {us rs ws : List Value} {vs xs zs : List V} (Mm : Mk X.K C f) (F : FnStar X.prog X.w X.K X.mg X.base CX k f (m + 1) ks gV sp) (hr : Room (k + 1) X.A)
    (hx : ∀ (H : Hp) (s : Shared) (e : Value) (s' : Shared), L2.Inv X pins σ H s → CX X.stack H s E e s' → X.xe e s') (I : L2.Inv X pins σ H s) (r : Vals vs us) (rx : Vals xs rs) (rz : Vals zs ws) (l1 : us.length = m) (l2 : ws.length = ks.length) (hz : xs.length ≤ sizeLine)
    (h : ∀ x dx p, H x = none → H dx = none → dx ≠ x → upd (upd H dx (.own x)) x (.ins C dx []) p = none → sp (gV (.ref x :: vs) zs ++ [.ref p]) (upd (upd (upd H dx (.own x)) x (.ins C dx [])) p (.tup xs)) (fun v H2 => v = .non ∧ Q (.ref x) H2) E) :
    wpAny (model X.prog X.w) X.A (call (.ref C) (us ++ rs) (ks.zip ws)) (EP X pins σ Q) X.xe s := by
  have hq := h (s.heap.objs.size + 1) s.heap.objs.size
  have I2 := L2.Inv.made (C := C) I
  have r1 : Vals (V.ref (s.heap.objs.size + 1) :: vs) (Value.ref (s.heap.objs.size + 1) :: us) := .cons rfl r
  refine wpAny_call (make_map (f := f) I.kIn Mm.makes Mm.init (beq_iff_eq.mp Mm.fn) (codeAny_mono (F _ X.stack _ _ (Value.ref (s.heap.objs.size + 1) :: us) rs ws _ _ _ _ E (hr.make C (us ++ rs) (ks.zip ws))
    (I2.env0.make C (us ++ rs) (ks.zip ws)) r1 rx rz (by rw [List.length_cons, l1]) l2 hz fun p hp => hq p (I.hok.fresh (Nat.le_succ _)) (I.hok.fresh (Nat.le_refl _)) (Nat.ne_of_lt (Nat.lt_succ_self _)) hp) fun r s' hq' => ?_))
  cases r with
  | error e => exact hx _ _ e s' I2 hq'
  | ok fl =>
    cases fl with
    | ret u =>
      obtain ⟨v, H', I3, rv, ev, q3⟩ := I2.after hq'
      subst ev
      exact ⟨rv, ⟨V.ref (s.heap.objs.size + 1), H', I3, rfl, q3⟩⟩
    | next => exact False.elim hq'
    | brk => exact False.elim hq'
    | cont => exact False.elim hq'
def tMakeSt (C : Addr) (m n : Nat) (gV : List V → List V → List V) (sp : Sp) (E : L2.St → XK) (t tk : TA) : TE := fun σ H Q => t σ H fun ys H1 => tk σ H1 fun zs H2 => m ≤ ys.length ∧ zs.length = n ∧ (ys.drop m).length ≤ sizeLine ∧ ∀ x dx p, H2 x = none → H2 dx = none → dx ≠ x → upd (upd H2 dx (.own x)) x (.ins C dx []) p = none →
  sp (gV (.ref x :: ys.take m) zs ++ [.ref p]) (upd (upd (upd H2 dx (.own x)) x (.ins C dx [])) p (.tup (ys.drop m))) (fun v H3 => v = .non ∧ Q (.ref x) H3) (E σ)
theorem vals_take {vs : List V} {us : List Value} (r : Vals vs us) (n : Nat) : Vals (vs.take n) (us.take n) ∧ Vals (vs.drop n) (us.drop n) := by
  induction r generalizing n with
  | nil => simp; exact .nil
  | cons a r ih =>
    cases n with
    | zero => simp; exact ⟨.nil, .cons a r⟩
    | succ n => simp; exact ⟨.cons a (ih n).1, (ih n).2⟩
theorem pe_makeSt {CX : CXT} {E : L2.St → XK} {k m : Nat} {C f : Addr} {ks : List Str} {sp : Sp} {p : Pos} {es : List Expr} {kws : List Keyword} {t tk : TA} {gV : List V → List V → List V} (Mm : Mk X.K C f) (F : FnStar X.prog X.w X.K X.mg X.base CX k f (m + 1) ks gV sp) (hr : Room (k + 1) X.A) (hg : Gl X x) (hm : X.mg x = some (.ref C)) (hx : ∀ σ, PassesAt CX X σ (E σ))
    (ha : PA X (e :: es) t) (hkw : PK X kws tk)
    (hall : (backToKw pos (keywordEach kws X.env)).all (·.1.isSome) = true := by rfl) (hks : (backToKw pos (keywordEach kws X.env)).filterMap (·.1) = ks := by rfl) (hdb : (x == ("__debug__" : Str)) = false := by decide)
    (he : starEach (e :: es) X.env = (false, eval e X.env) :: starEach es X.env := by rfl) (hpl : ((backTo pos (starEach (e :: es) X.env)).any (·.1) || (backToKw pos (keywordEach kws X.env)).any (·.1.isNone)) = false := by rfl) :
    PE X (.Call (.Name x p) (e :: es) kws pos) (tMakeSt C m ks.length gV sp E t tk) := by
  refine ⟨fun pins s σ H Q I h => ?_⟩
  refine wpAny_Call_Name_kw (ld_glob I hg hm ?_ hdb)
  refine PySem.W.callWith_KW (h₀ := X.base) I.ok.mod.kin Mm.kp hall (thn (ha.run pos pins s σ H _ I h) fun us s1 ⟨vs, H1, I1, r, q⟩ => ?_) hpl he
  refine thn (hkw.run pos pins s1 σ H1 _ I1 q) fun ws s2 ⟨zs, H2, I2, rz, l0, l2, hz, q2⟩ => ⟨I2.kIn, ?_⟩
  rw [hks]
  have rt := vals_take r m
  have := run_makeSt Mm F hr (fun H s e s' => hx σ pins H s e s') I2 rt.1 rt.2 rz (by rw [List.length_take, ← r.length]; omega) (rz.length.symm.trans l2) hz q2
  rwa [List.take_append_drop] at this
def eCXS (n : Nat) (mask : List Bool) (dd : List D) (o : List D → R D) (fa fk : FA) : FE := fun S => fa S >>= fun as => fk S >>= fun bs => if n ≤ as.length ∧ as.length ≤ sizeLine then o (as.take n ++ mergeK mask dd bs ++ [.tup (as.drop n)]) else .fail
theorem d_makerXS {lv m' : Nat} {n : Nat} {mask : List Bool} {ks : List Str} {dd : List D} {p : Pos} {es : List Expr} {kws : List Keyword} {fa fk : FA} (F : MakerXS X.prog X.w X.K X.mg X.base c.k lv x ci n mask ks dd den) (hr : Room m' X.A) (hle : lv + 1 ≤ m') (tk : L2N.Takes X c.W) (ha : PA' X c false (e :: es) fa) (hk : PK' X c kws fk) (hkl : Len ks.length fk) (hg : Gl X x := by rfl)
    (hall : (backToKw pos (keywordEach kws X.env)).all (·.1.isSome) = true := by rfl) (hks : (backToKw pos (keywordEach kws X.env)).filterMap (·.1) = ks := by rfl) (hdb : (x == ("__debug__" : Str)) = false := by decide)
    (he : starEach (e :: es) X.env = (false, eval e X.env) :: starEach es X.env := by rfl) (hpl : ((backTo pos (starEach (e :: es) X.env)).any (·.1) || (backToKw pos (keywordEach kws X.env)).any (·.1.isNone)) = false := by rfl) :
    PE' X c .fr (.Call (.Name x p) (e :: es) kws pos) (eCXS n mask dd den fa fk) := by
  obtain ⟨C, f, nm, dvs, hcl, mk, hm, hdd, hdl, hml, ok⟩ := F.ex
  refine peI (pe_makeSt mk ok (hr.mono hle) hg hm (fun σ => L2N.passAt tk σ) ha hk hall hks hdb he hpl) fun σ H Q ⟨G, S, rel, p⟩ => ?_
  have p : PostE c .fr G S σ H Q (fa S >>= fun as => fk S >>= fun bs => if n ≤ as.length ∧ as.length ≤ sizeLine then den (as.take n ++ mergeK mask dd bs ++ [.tup (as.drop n)]) else .fail) := p
  refine ⟨G, S, rel, ?_⟩
  cases e1 : fa S with
  | exc x => rw [e1] at p; exact p
  | fail => rw [e1] at p; exact p
  | ok as =>
    rw [e1] at p
    intro vs G1 H1 s1 q1
    refine ⟨G1, S, rel.grow s1, ?_⟩
    have p : PostE c .fr G S σ H Q (fk S >>= fun bs => if n ≤ as.length ∧ as.length ≤ sizeLine then den (as.take n ++ mergeK mask dd bs ++ [.tup (as.drop n)]) else .fail) := p
    cases e2 : fk S with
    | exc x => rw [e2] at p; exact p
    | fail => rw [e2] at p; exact p
    | ok bs =>
      rw [e2] at p
      have p : PostE c .fr G S σ H Q (if n ≤ as.length ∧ as.length ≤ sizeLine then den (as.take n ++ mergeK mask dd bs ++ [.tup (as.drop n)]) else .fail) := p
      by_cases hc : n ≤ as.length ∧ as.length ≤ sizeLine
      · rw [if_pos hc] at p
        intro zs G2 H2 s2 q2
        have q1 : RDs c.k G1 as vs := q1
        have q2 : RDs c.k G2 bs zs := q2
        have l1 := q1.length
        have l2 := hkl S bs e2
        refine ⟨by rw [← l1]; exact hc.1, by rw [← q2.length]; exact l2, by rw [List.length_drop, ← l1]; omega, fun x dx t hx hdx hne ht => ?_⟩
        have sp := s1.trans s2
        have q1' := q1.mono s2.g
        have hgx : G2 x = none := s2.gh.free hx
        have ex0 : Ex H2 (upd (upd H2 dx (.own x)) x (.ins C dx [])) := (Ex.new hdx).upd hx
        have ht2 : H2 t = none := ex0.free ht
        have hgt : G2 t = none := s2.gh.free ht2
        have htx : x ≠ t := fun z => by rw [z, upd_same] at ht; cases ht
        have hG3 : Ex G2 (upd G2 t (.tup (vs.drop n))) := Ex.new hgt
        have ex1 : Ex H2 (upd (upd (upd H2 dx (.own x)) x (.ins C dx [])) t (.tup (vs.drop n))) := ex0.upd ht2
        have exG : Ex (upd G2 t (.tup (vs.drop n))) (upd (upd (upd H2 dx (.own x)) x (.ins C dx [])) t (.tup (vs.drop n))) := fun b o q => by
          by_cases hb : b = t
          · subst hb; rw [upd_same] at q ⊢; exact q
          · rw [upd_ne hb] at q ⊢; exact ex0 _ _ (s2.gh _ _ q)
        have q3 : RDs c.k (upd G2 t (.tup (vs.drop n))) (as.take n ++ mergeK mask dd bs ++ [.tup (as.drop n)]) (vs.take n ++ mergeK mask dvs zs ++ [.ref t]) :=
          (((q1'.take n).mono hG3).append ((mergeK_rds (hdd _) (q2.mono hG3)))).append (.cons (.tup (SqU.of upd_same) ((q1'.drop n).mono hG3)) .nil)
        have ll : (V.ref x :: (vs.take n ++ mergeK mask dvs zs ++ [V.ref t])).length = n + 1 + mask.length + 1 := by
          rw [List.length_cons, ← q3.length, List.length_append, List.length_append, List.length_take, mergeK_len hdl (hml.trans l2.symm)]
          simp only [List.length_cons, List.length_nil]; omega
        refine ⟨ll, x, vs.take n ++ mergeK mask dvs zs ++ [.ref t], upd G2 t (.tup (vs.drop n)), _, C, dx, nm, rfl, hcl, by rw [upd_ne htx]; exact upd_same, by rw [upd_ne htx]; exact hgx, exG, q3, ?_⟩
        have back : ∀ {b : Addr} {u : HO}, upd G2 t (.tup (vs.drop n)) b = some u → G2 b = some u ∨ H2 b = none := fun {b u} q => by
          by_cases hb : b = t
          · subst hb; exact .inr ht2
          · rw [upd_ne hb] at q; exact .inl q
        cases e3 : den (as.take n ++ mergeK mask dd bs ++ [.tup (as.drop n)]) with
        | ok d =>
          rw [e3] at p
          intro G' H' o ex hk gh hgx' gr ho ct
          refine ⟨rfl, p _ G' H' (sp.trans ⟨hG3.trans ex, fun b u q => hk b u (ne_of_none q hx) (ex1 b u q), gh, fun b u q => ?_⟩) ⟨x, o, rfl, hgx', sp.h.free hx, ho, ct⟩⟩
          rcases gr b u q with z | z
          · exact back z
          · exact .inr (ex1.free z)
        | exc y =>
          rw [e3] at p
          have p : PX c σ y := p
          intro _ cls da G' H' s3 xr
          have exl : Ex H2 (less (upd (upd (upd H2 dx (.own x)) x (.ins C dx [])) t (.tup (vs.drop n))) x) := fun b u q => by
            rw [less_ne (ne_of_none q hx)]; exact ex1 b u q
          refine p cls da G' H' ((rel.grow sp).st.trans ⟨hG3.trans s3.g, fun b u q => s3.h b u (exl b u q), s3.gh, fun b u q => ?_⟩) xr
          rcases s3.gr b u q with z | z
          · exact back z
          · exact .inr (exl.free z)
        | fail => rw [e3] at p; exact p.elim
      · rw [if_neg hc] at p; exact fun zs G2 H2 s2 q2 => p.elim
end
end M
namespace M
open PySem L2
end M
set_option Elab.async false
set_option linter.all false
set_option maxRecDepth 100000
set_option maxHeartbeats 4000000
namespace M
open PySem L2
def PostM (k : Kn) (x : Addr) (G0 H : Hp) (Q : VK) : R (D × D) → Prop
  | .ok (r, d) => ∀ v G' H' o, Ex G0 G' → (∀ b u, b ≠ x → H b = some u → H' b = some u) → Ex G' H' → G' x = none → (∀ b u, G' b = some u → G0 b = some u ∨ H b = none) → H' x = some o → Cont k G' d o → RD k G' r v → Q v H'
  | _ => False
def SpM (k : Kn) (n j : Nat) (den : List D → R (D × D)) : Sp := fun vs H Q E => vs.length = n ∧ ∃ x G0 ds d0 o0, vs[j]? = some (.ref x) ∧ ds[j]? = some d0 ∧ ds.length = vs.length ∧ (∀ (i : Nat) (d : D), ds[i]? = some d → i ≠ j → ∃ v, vs[i]? = some v ∧ RD k G0 d v) ∧
  H x = some o0 ∧ G0 x = none ∧ Ex G0 H ∧ Cont k G0 d0 o0 ∧ PostM k x G0 H Q (den ds)
section
variable {P : Program} {w : World} {K : PySem.W.Frag} {mg : Str → Option Value} {base : Heap}
end
structure MethodM (P : Program) (w : World) (K : PySem.W.Frag) (mg : Str → Option Value) (base : Heap) (k : Kn) (lv : Nat) (ci : Nat) (m : Str) (n : Nat) (den : List D → R (D × D)) : Prop where
  ex : ∃ (C f : Addr) (fd : FuncData) (ps nm : List Str), ps.length = n ∧ k.cl ci = some (C, nm) ∧ m ∉ nm ∧ Cls K C ∧ Meth K C m f ∧ FnOk P w K mg base CX0 lv f fd ps (SpM k n 1 den) ∧ Binds K fd ps []
section
variable {X : Cx} {c : Cf} {o : Expr} {f : FE} {pos apos spos : Pos} {fr : Bool} {den : List D → R (D × D)}
end
end M
set_option Elab.async false
set_option linter.all false
set_option maxRecDepth 100000
set_option maxHeartbeats 4000000
namespace M
open PySem PySem.Spec PyProof.Rows L2
theorem tuple_mul1 (l : Addr) (items : Array Value) (n : Nat) (sl : Array (Option Value)) (dd : Option Addr) (u : Tok) :
    Meets (Builtin.«tuple.__mul__» ⟨[.ref l, .int 1 u], []⟩) (fun _ R s => s.heap.get? l = some { cls := .type "tuple", dict := dd, data := .seq items n, slots := sl } ∧ R (.ok (.ret (Value.ref l))) s) :=
  .of_wp fun prog w A R s h => by
    obtain ⟨hp, g, d, tk, os⟩ := s
    obtain ⟨hl, h⟩ := h
    have f1 := AutoSeq1.idx_int
    have c1 : (items.isEmpty || (1 : Int) == 1) = true := by rw [Bool.or_comm]; rfl
    wp_walk using wpAny_loadPart' hl
    exact ⟨_, rfl, h⟩
theorem tuple_mul0 (l : Addr) (items : Array Value) (n : Nat) (sl : Array (Option Value)) (dd : Option Addr) (u : Tok) (c1 : (items.isEmpty || (0 : Int) == 1) = false) :
    Meets (Builtin.«tuple.__mul__» ⟨[.ref l, .int 0 u], []⟩) (fun _ R s => s.heap.get? l = some { cls := .type "tuple", dict := dd, data := .seq items n, slots := sl } ∧
      R (.ok (.ret (Value.ref s.heap.objs.size))) { s with heap := s.heap.push { cls := Value.type "tuple", data := Data.seq #[] }, toks := s.toks }) :=
  .of_wp fun prog w A R s h => by
    obtain ⟨hp, g, d, tk, os⟩ := s
    obtain ⟨hl, h⟩ := h
    have f1 := AutoSeq1.idx_int
    wp_walk using wpAny_loadPart' hl
    repeat (first
      | (refine wpAny_ite_false (decide_eq_false (by rw [c1]; exact Bool.false_ne_true)) ?_; wp_walk using wpAny_loadPart' hl))
    exact ⟨_, rfl, h⟩
def rRepT1 (K : PySem.W.Frag) : R2 := fun x y H Q => ∃ l xs, x = .ref l ∧ y = .int 1 ∧ SqT K H l xs ∧ Q (.ref l) H
def rRepT0 (K : PySem.W.Frag) : R2 := fun x y H Q => ∃ l xs, x = .ref l ∧ y = .int 0 ∧ SqT K H l xs ∧ xs ≠ [] ∧ ∀ p, H p = none → Q (.ref p) (upd H p (.tup []))
section
variable {X : Cx}
theorem op_repT1 : OpR X (binaryOp .Mult) (rRepT1 X.K) := by
  intro pins s σ H x y v u Q I rx ry h
  obtain ⟨l, xs, rfl, rfl, hT, q⟩ := h
  cases rx
  obtain ⟨t, rfl⟩ := ry
  obtain ⟨its, r, ⟨⟨cls, dd, data, sl⟩, ho, hc, n, hd⟩, hs⟩ := I.tuple hT
  simp only at hc hd
  subst hc hd
  refine wpAny_binaryOp_repeat_ref (T := "tuple") (U := "int") (by decide) ⟨_, ho, rfl⟩ (fun s' => typeIs_int s' 1 t) noFill_tuple_mul F.fills_int_mul F.slot_int_rmul repeat_tuple F.slot_int_index.lookup
    (call_meets F.slot_int_rmul (typeIs_int s 1 t) F.entry_int_rmul (F.args_int_rmul_2 _ _) (int_rmul_tuple 1 t l its.toArray n dd sl)
      ⟨ho, rfl, ⟨_, ho, rfl⟩, call_meets F.slot_tuple_mul ⟨_, ho, rfl⟩ F.entry_tuple_mul (F.args_tuple_mul_2 _ _) (tuple_mul1 l its.toArray n sl dd t) ⟨ho, ?_⟩⟩)
  exact ⟨.ref l, H, I, rfl, q⟩
theorem op_repT0 : OpR X (binaryOp .Mult) (rRepT0 X.K) := by
  intro pins s σ H x y v u Q I rx ry h
  obtain ⟨l, xs, rfl, rfl, hT, hne, q⟩ := h
  cases rx
  obtain ⟨t, rfl⟩ := ry
  obtain ⟨its, r, ⟨⟨cls, dd, data, sl⟩, ho, hc, n, hd⟩, hs⟩ := I.tuple hT
  simp only at hc hd
  subst hc hd
  have hn : its ≠ [] := fun e => hne (by
    rw [e] at r
    exact List.eq_nil_of_length_eq_zero r.length)
  have c1 : (its.toArray.isEmpty || (0 : Int) == 1) = false := by
    cases its with
    | nil => exact absurd rfl hn
    | cons a b => rfl
  refine wpAny_binaryOp_repeat_ref (T := "tuple") (U := "int") (by decide) ⟨_, ho, rfl⟩ (fun s' => typeIs_int s' 0 t) noFill_tuple_mul F.fills_int_mul F.slot_int_rmul repeat_tuple F.slot_int_index.lookup
    (call_meets F.slot_int_rmul (typeIs_int s 0 t) F.entry_int_rmul (F.args_int_rmul_2 _ _) (int_rmul_tuple 0 t l its.toArray n dd sl)
      ⟨ho, rfl, ⟨_, ho, rfl⟩, call_meets F.slot_tuple_mul ⟨_, ho, rfl⟩ F.entry_tuple_mul (F.args_tuple_mul_2 _ _) (tuple_mul0 l its.toArray n sl dd t c1) ⟨ho, ?_⟩⟩)
  refine ⟨.ref s.heap.objs.size, _, I.laid (t' := s.toks) (o := .tup []) (fun b ob q => Heap.get?_push_of_some _ q) (Nat.le_refl _) ?_, rfl, q _ (I.hok.fresh (Nat.le_refl _))⟩
  exact ⟨Nat.zero_le _, _, .nil, IsTup.new _ _⟩
end
def mulT : D → D → R D
  | .tup xs, .int j => if j = 1 then .ok (.tup xs) else if j = 0 ∧ xs ≠ [] then .ok (.tup []) else mulD (.tup xs) (.int j)
  | x, y => mulD x y
theorem o_mulT {X : Cx} {k : Kn} (hk : k.K = X.K) : Op2 X k (binaryOp .Mult) .st mulT := by
  obtain ⟨r0, h0, z0⟩ := o_mul (k := k) (X := X) hk
  refine ⟨_, op_repT1.or (op_repT0.or h0), ?_⟩
  intro G H x y u v d e nx ny hg Q q
  unfold mulT at hg
  split at hg
  · rename_i xs j
    split at hg
    · rename_i hj
      cases hg; subst hj
      obtain rfl := ny.int
      obtain ⟨a, vs, rfl, ha, r⟩ := nx.tup
      exact .inl ⟨a, vs, rfl, rfl, hk ▸ e.sqT ha.t, q _ _ _ (Step.refl e) (.tup ha r)⟩
    · split at hg
      · rename_i hj
        cases hg
        obtain ⟨rfl, hne⟩ := hj
        obtain rfl := ny.int
        obtain ⟨a, vs, rfl, ha, r⟩ := nx.tup
        refine .inr (.inl ⟨a, vs, rfl, rfl, hk ▸ e.sqT ha.t, fun z => hne ?_, fun p hp => q _ _ _ (Step.new e hp) (.tup (SqU.of upd_same) .nil)⟩)
        subst z; cases r; rfl
      · exact .inr (.inr (z0 G H _ _ u v d e nx ny hg Q q))
  · exact .inr (.inr (z0 G H _ _ u v d e nx ny hg Q q))
end M
set_option Elab.async false
set_option linter.all false
set_option maxRecDepth 100000
set_option maxHeartbeats 4000000
namespace M
open PySem L2
theorem unitsH {k : Nat} {A : Around} (r : L2H.RoomH k A) : A.units + 64 < cLine := by have := r.un; omega
theorem units5H {k : Nat} {A : Around} (r : L2H.RoomH k A) : A.units + 65 < cLine := by have := r.un; omega
structure CalleeH (P : Program) (w : World) (K : PySem.W.Frag) (mg : Str → Option Value) (base : Heap) (k : Kn) (lv : Nat) (x : Str) (n : Nat) (den : List D → R D) : Prop where
  ex : ∃ (f : Addr) (fd : FuncData) (ps : List Str), ps.length = n ∧ L2H.FnH P w K mg base CX0 lv f fd ps (SpF k false n den) ∧ mg x = some (.ref f) ∧ PySem.W.keepIn K (.ref f) = true ∧ Binds K fd ps []
section
variable {P : Program} {w : World} {K : PySem.W.Frag} {mg : Str → Option Value} {base : Heap}
end
section
variable {X : Cx} {c : Cf} {k : Kn} {e : Expr} {pos : Pos} {den : List D → R D}
end
section
variable {X : Cx} {c : Cf} {pos : Pos} {s : FS} {as bs : List Nat}
theorem roomS {k : Nat} {A : Around} {o : Option Value} (r : Room k A) : L2H.RoomH k (A.mark o) := ⟨r.dp, r.un⟩
end
end M
set_option Elab.async false
set_option linter.all false
set_option maxRecDepth 100000
set_option maxHeartbeats 4000000
namespace M
open PySem
section
variable {prog : Program} {w : World} {A : Around} {R : GenEnd} {Y : Protocol} {n : Nat} {s₀ : Shared} {c : Code} {fs : List Frame} {s : Shared} {env : PySem.Env} {K : Flow → Sem Fin} {J : Value → Sem Fin} {gd : Bool → Bool} {lv : List Value → List Value}
end
end M
set_option Elab.async false
set_option linter.all false
set_option maxRecDepth 100000
set_option maxHeartbeats 4000000
namespace M
open PySem L2 PySem.Spec PyProof.Rows
section
variable {X : Cx}
end
end M
set_option Elab.async false
set_option linter.all false
set_option maxRecDepth 100000
set_option maxHeartbeats 4000000
namespace M
open PySem L2
abbrev FY := Env → R (Fl × Env × List D)
section
variable {X : Cx} {c : Cf} {k1 : Kd} {e : Expr} {f : FE} {pos : Pos} {as bs : List Nat} {s : FS} {y z : FY} {st : Stmt} {sts : List Stmt}
end
end M
set_option Elab.async false
set_option linter.all false
set_option maxRecDepth 100000
set_option maxHeartbeats 4000000
namespace M
open PySem L2
def PostGn (k : Kn) (G0 H : Hp) (Q : List V → Hp → Prop) (E : XK) : R (List D) → Prop
  | .ok ds => ds.length ≤ sizeLine ∧ ∀ vs G' H', Step G0 H G' H' → RDs k G' ds vs → Q vs H'
  | .exc x => PXs ⟨k, H, G0, liftX E⟩ x
  | .fail => False
def SpGn (k : Kn) (n : Nat) (den : List D → R (List D)) : SpG := fun vs H Q E => vs.length = n ∧ ∃ G0 ds, Ex G0 H ∧ RDs k G0 ds vs ∧ PostGn k G0 H Q E (den ds)
section
variable {P : Program} {w : World} {K : PySem.W.Frag} {mg : Str → Option Value} {base : Heap}
end
end M
set_option Elab.async false
set_option linter.all false
set_option maxRecDepth 100000
set_option maxHeartbeats 4000000
namespace M
open PySem L2
structure GMethod (P : Program) (w : World) (K : PySem.W.Frag) (mg : Str → Option Value) (base : Heap) (k : Kn) (lv : Nat) (ci : Nat) (m : Str) (n : Nat) (den : List D → R (List D)) : Prop where
  ex : ∃ (C f : Addr) (fd : FuncData) (ps nm : List Str), ps.length = n ∧ k.cl ci = some (C, nm) ∧ m ∉ nm ∧ Cls K C ∧ Meth K C m f ∧ GFn P w K mg base lv f fd ps (SpGn k n den) ∧ Binds K fd ps []
section
variable {X : Cx} {c : Cf} {e o : Expr} {f : FE} {pos apos pos' : Pos} {den : List D → R (List D)}
def lstE (out : List D) : R D := if out.length ≤ sizeLine then .ok (.lst out) else .fail
def eLM (ci : Nat) (den : List D → R (List D)) (f : FE) (fa : FA) : FE := fun S => f S >>= fun o => if o.isObj ci then fa S >>= fun ds => (den (o :: ds)).nox >>= fun out => lstE out else .fail
end
end M
set_option Elab.async false
set_option linter.all false
set_option maxRecDepth 100000
set_option maxHeartbeats 4000000
namespace M
open PySem L2
section
variable {X : Cx} {c : Cf} {kd k1 k2 k3 : Kd} {a b e o : Expr} {f g h : FE} {pos apos cpos p' : Pos} {fr : Bool} {x : Str}
theorem RDs.scr {k : Kn} {G : Hp} : ∀ ns : List Int, RDs k G (ns.map D.int) (ns.map V.int)
  | [] => .nil
  | n :: ns => .cons (.int n) (RDs.scr ns)
end
end M
set_option Elab.async false
set_option linter.all false
set_option maxRecDepth 100000
set_option maxHeartbeats 4000000
namespace M
open PySem L2
section
variable {X : Cx} {c : Cf} {kd k1 k2 k3 : Kd} {a b e tg : Expr} {f g h : FE} {t u : FT} {pos : Pos} {fr : Bool} {as bs : List Nat} {s r : FS} {st : Stmt} {sts : List Stmt}
mutual
def nlD : D → Bool
  | .non | .bl _ | .int _ | .str _ | .ty _ | .cls _ => true
  | .tup ds => nlDs ds
  | .obj _ ds => nlDs ds
  | _ => false
def nlDs : List D → Bool
  | [] => true
  | d :: ds => nlD d && nlDs ds
end
mutual
theorem RD.nl {k : Kn} {G G' : Hp} {l : Addr} {xs : List V} (hl : G l = some (.lst xs)) (e : ∀ b o, b ≠ l → G b = some o → G' b = some o) : ∀ {d : D} {v : V}, nlD d = true → RD k G d v → RD k G' d v
  | _, _, _, .non => .non
  | _, _, _, .bl b => .bl b
  | _, _, _, .int i => .int i
  | _, _, _, .str x => .str x
  | _, _, _, .ty n => .ty n
  | _, _, _, .cls h => .cls h
  | _, _, n, .tup (a := a) h r => .tup (by
      rcases h with h | h
      · exact .inl (e a _ (fun z => by rw [z, hl] at h; cases h) h)
      · exact .inr h) (RDs.nl hl e (show nlDs _ = true from n) r)
  | _, _, n, .obj (a := a) c h r => .obj c (e a _ (fun z => by rw [z, hl] at h; cases h) h) (RDs.nl hl e (show nlDs _ = true from n) r)
  | _, _, n, .lst h r => Bool.noConfusion n
  | _, _, n, .scr h => Bool.noConfusion n
  | _, _, n, .dic h l r => Bool.noConfusion n
  | _, _, n, .dit h l r => Bool.noConfusion n
  | _, _, n, .dkf h l r => Bool.noConfusion n
  | _, _, n, .dig h l kk r => Bool.noConfusion n
  | _, _, n, .dgf h l kk r => Bool.noConfusion n
theorem RDs.nl {k : Kn} {G G' : Hp} {l : Addr} {xs : List V} (hl : G l = some (.lst xs)) (e : ∀ b o, b ≠ l → G b = some o → G' b = some o) : ∀ {ds : List D} {vs : List V}, nlDs ds = true → RDs k G ds vs → RDs k G' ds vs
  | _, _, _, .nil => .nil
  | d :: ds, _, n, .cons a b => by
    have n : (nlD d && nlDs ds) = true := n
    rw [Bool.and_eq_true] at n
    exact .cons (RD.nl hl e n.1 a) (RDs.nl hl e n.2 b)
end
structure Trk (c : Cf) (i : Nat) (ch : List Nat) (G : Hp) (S : Env) (σ : St) (H : Hp) : Prop where
  ex : ∃ (G1 : Hp) (a : Addr) (vs : List V), Ex c.G0 G1 ∧ Ex G1 G ∧ (∃ d, S[i]? = some (some ⟨true, d⟩)) ∧ σ[i]? = some (some (.ref a)) ∧ H a = some (.lst vs) ∧ (∀ v ∈ vs, ∃ l, v = .ref l ∧ G1 l = none) ∧ vs.Nodup ∧
    ∀ (j : Nat) (d : D), j ∉ ch → j + 1000 ∉ ch → j ≠ i → S[j]? = some (some ⟨false, d⟩) → ∃ v, σ[j]? = some (some v) ∧ RD c.k G1 d v
theorem Trk.mv {i : Nat} {ch : List Nat} {G G' H H' : Hp} {S S' : Env} {σ σ' : St} (h : Trk c i ch G S σ H) (hg : Ex G G') (fm : Frm as S σ H S' σ' H') (h1 : i ∉ as) (h2 : i + 1000 ∉ as) : Trk c i (ch ++ as) G' S' σ' H' := by
  obtain ⟨G1, a, vs, e0, e1, ⟨d, hd⟩, hs, hH, hn, nd, hf⟩ := h.ex
  refine ⟨G1, a, vs, e0, e1.trans hg, ⟨d, by rw [fm.sl i h1 h2]; exact hd⟩, by rw [fm.sg i h1]; exact hs, ?_, hn, nd, fun j d' q1 q2 q3 q4 => ?_⟩
  · rw [fm.ow i a h1 h2 ⟨⟨d, hd⟩, hs⟩]; exact hH
  · simp only [List.mem_append, not_or] at q1 q2
    rw [fm.sl j q1.2 q2.2] at q4
    rw [fm.sg j q1.2]
    exact hf j d' q1.1 q2.1 q3 q4
theorem Trk.sub {i : Nat} {ch ch' : List Nat} {G H : Hp} {S : Env} {σ : St} (h : Trk c i ch G S σ H) (hs : ∀ j, j ∈ ch → j ∈ ch') : Trk c i ch' G S σ H := by
  obtain ⟨G1, a, vs, e0, e1, e2, e3, e4, e5, e6, hf⟩ := h.ex
  exact ⟨G1, a, vs, e0, e1, e2, e3, e4, e5, e6, fun j d q1 q2 q3 q4 => hf j d (fun z => q1 (hs _ z)) (fun z => q2 (hs _ z)) q3 q4⟩
def RdK (c : Cf) (fr : Bool) (as : List Nat) (i : Nat) (ch : List Nat) (f : FS) : TS := fun Dn σ H => ∃ G S, Rel c G S σ H ∧ Trk c i ch G S σ H ∧ PostS c fr as G S σ H Dn (f S)
def PostP (c : Cf) (fr : Bool) (as : List Nat) (i : Nat) (ch : List Nat) (G : Hp) (S : Env) (σ : St) (H : Hp) (Dn : Ends) : R (Fl × Env) → Prop
  | .ok (.nx, S') => ∀ G' σ' H', Ex G G' → Rel c G' S' σ' H' → Frm as S σ H S' σ' H' → Trk c i ch G' S' σ' H' → Dn.nx σ' H'
  | .ok (.bk, S') => ∀ G' σ' H', Ex G G' → Rel c G' S' σ' H' → Frm as S σ H S' σ' H' → Dn.bk σ' H'
  | .ok (.ct, S') => ∀ G' σ' H', Ex G G' → Rel c G' S' σ' H' → Frm as S σ H S' σ' H' → Dn.ct σ' H'
  | .ok (.rt d, S') => ∀ v G' H', Step c.G0 c.H0 G' H' → RV c fr G' H' d v → OwR c.k as S' σ G' H' → Dn.rt v H'
  | .exc x => PXs c x
  | .fail => False
def RdP (c : Cf) (fr : Bool) (as : List Nat) (i : Nat) (ch : List Nat) (f : FS) : TS := fun Dn σ H => ∃ G S, Rel c G S σ H ∧ PostP c fr as i ch G S σ H Dn (f S)
theorem b_consK {i : Nat} {ch : List Nat} (h1 : PS' X c fr as st s) (h2 : PSs X sts (RdK c fr bs i (ch ++ as) r)) (n1 : i ∉ as := by decide) (n2 : i + 1000 ∉ as := by decide) : PSs X (st :: sts) (RdK c fr (as ++ bs) i ch (sSeq s r)) :=
  pssI (pss_cons h1 h2) fun Dn σ H ⟨G, S, rel, tk, p⟩ => ⟨G, S, rel, by
    have p : PostS c fr (as ++ bs) G S σ H Dn (s S >>= fun z => match z.1 with | .nx => r z.2 | _ => .ok z) := p
    cases e1 : s S with
    | exc x => rw [e1] at p; exact p
    | fail => rw [e1] at p; exact p
    | ok z =>
      rw [e1] at p
      obtain ⟨fl, S1⟩ := z
      cases fl with
      | nx => exact fun G1 σ1 H1 ex r1 f1 => ⟨G1, S1, r1, tk.mv ex f1 n1 n2, PostS.mv (as := as) (bs := bs) ex f1 (fun i => List.mem_append.mp) p⟩
      | bk => exact PostS.sub (fun i q => List.mem_append_left _ q) p
      | ct => exact PostS.sub (fun i q => List.mem_append_left _ q) p
      | rt d => exact PostS.sub (fun i q => List.mem_append_left _ q) p⟩
theorem b_ifK {i : Nat} {ch : List Nat} {cc : Expr} {aa : List Stmt} (hc : PT' X c cc t) (ha : PSs X aa (RdP c fr as i ch s)) (h2 : PSs X sts (RdK c fr bs i ch r)) : PSs X (.If cc aa [] pos :: sts) (RdK c fr (as ++ bs) i ch (sSeq (sIf t s sNil) r)) :=
  pssI (pss_cons (ps_if (u := RdK c fr [] i ch sNil) hc ha (pssI pss_nil fun Dn σ H ⟨G, S, rel, tk, p⟩ => p G σ H (Ex.refl _) rel (Frm.refl _ _ _ _))) h2) fun Dn σ H ⟨G, S, rel, tk, p⟩ => by
    have p : PostS c fr (as ++ bs) G S σ H Dn ((t S >>= fun b => if b then s S else sNil S) >>= fun z => match z.1 with | .nx => r z.2 | _ => .ok z) := p
    have p : PostS c fr (as ++ bs) G S σ H Dn (t S >>= fun b => (if b then s S else sNil S) >>= fun z => match z.1 with | .nx => r z.2 | _ => .ok z) := by
      cases e1 : t S <;> rw [e1] at p <;> exact p
    refine rdT_go (g := fun b => (if b then s S else sNil S) >>= fun z => match z.1 with | .nx => r z.2 | _ => .ok z) (Post := PostS c fr (as ++ bs) G S σ H Dn) rel p (fun _ z => z _) (fun z => z) fun b G' H' sp p1 => ?_
    have tk' : Trk c i ch G' S σ H' := (tk.mv sp.g (Frm.step (as := []) rel sp) (by simp) (by simp)).sub (fun j q => by simpa using q)
    have p1 := PostS.gr rel sp p1
    cases b with
    | false =>
      have p1 : PostS c fr (as ++ bs) G' S σ H' Dn (r S) := p1
      exact ⟨G', S, rel.grow sp, tk', fun G2 σ2 H2 ex r2 f2 => ⟨G2, S, r2, (tk'.mv ex f2 (by simp) (by simp)).sub (fun j q => by simpa using q), PostS.mv (as := as) (bs := bs) ex (f2.mono (fun j q => by simp at q)) (fun i => List.mem_append.mp) p1⟩⟩
    | true =>
      rw [if_pos rfl] at p1 ⊢
      refine ⟨G', S, rel.grow sp, ?_⟩
      cases e1 : s S with
      | exc x => rw [e1] at p1; exact p1
      | fail => rw [e1] at p1; exact p1
      | ok z =>
        rw [e1] at p1
        obtain ⟨fl, S1⟩ := z
        cases fl with
        | nx => exact fun G1 σ1 H1 ex r1 f1 tk1 => ⟨G1, S1, r1, tk1, PostS.mv (as := as) (bs := bs) ex f1 (fun i => List.mem_append.mp) p1⟩
        | bk => exact PostS.sub (fun i q => List.mem_append_left _ q) p1
        | ct => exact PostS.sub (fun i q => List.mem_append_left _ q) p1
        | rt d => exact PostS.sub (fun i q => List.mem_append_left _ q) p1
theorem b_consP {i : Nat} {ch : List Nat} (h1 : PS' X c fr as st s) (h2 : PSs X sts (RdP c fr bs i ch r)) : PSs X (st :: sts) (RdP c fr (as ++ bs) i ch (sSeq s r)) :=
  pssI (pss_cons h1 h2) fun Dn σ H ⟨G, S, rel, p⟩ => ⟨G, S, rel, by
    have p : PostP c fr (as ++ bs) i ch G S σ H Dn (s S >>= fun z => match z.1 with | .nx => r z.2 | _ => .ok z) := p
    cases e1 : s S with
    | exc x => rw [e1] at p; exact p
    | fail => rw [e1] at p; exact p
    | ok z =>
      rw [e1] at p
      obtain ⟨fl, S1⟩ := z
      cases fl with
      | nx =>
        intro G1 σ1 H1 ex r1 f1
        refine ⟨G1, S1, r1, ?_⟩
        have p : PostP c fr (as ++ bs) i ch G S σ H Dn (r S1) := p
        cases e2 : r S1 with
        | exc x => rw [e2] at p; exact p
        | fail => rw [e2] at p; exact p
        | ok z =>
          rw [e2] at p
          obtain ⟨fl, S2⟩ := z
          cases fl with
          | nx => exact fun G2 σ2 H2 e r2 f2 => p G2 σ2 H2 (ex.trans e) r2 (f1.trans f2)
          | bk => exact fun G2 σ2 H2 e r2 f2 => p G2 σ2 H2 (ex.trans e) r2 (f1.trans f2)
          | ct => exact fun G2 σ2 H2 e r2 f2 => p G2 σ2 H2 (ex.trans e) r2 (f1.trans f2)
          | rt d => exact fun v G2 H2 st rv ow => p v G2 H2 st rv (ow.mv f1)
      | bk => exact fun G2 σ2 H2 e r2 f2 => p G2 σ2 H2 e r2 (f2.mono fun i q => List.mem_append_left _ q)
      | ct => exact fun G2 σ2 H2 e r2 f2 => p G2 σ2 H2 e r2 (f2.mono fun i q => List.mem_append_left _ q)
      | rt d => exact fun v G2 H2 st rv ow => p v G2 H2 st rv (ow.sub fun i q => List.mem_append_left _ q)⟩
def PostLF (c : Cf) (G : Hp) (S : Env) (σ : St) (H : Hp) (Q : VK) : R D → Prop
  | .ok (.lst ys) => ∀ (a : Addr) (vs : List V) (G' H' : Hp), Step G H G' H' → G' a = none → H a = none → H' a = some (.lst vs) → RDs c.k G' ys vs → (∀ v ∈ vs, ∃ l, v = .ref l ∧ H l = none) → vs.Nodup → Q (.ref a) H'
  | .exc x => PX c σ x
  | _ => False
theorem lc_goF {ki gs vs : List Nat} {fi : FI} {ga : FG} {fe : FE} {G H : Hp} {S : Env} {σ : St} {Q : VK} {gi : TG} {tt : TT} {te : TE} (hg : ∀ v σ H Q, RdG c.nx gs ga v σ H Q → gi v σ H Q) (ht : ∀ σ H Q, RdT c.nx t σ H Q → tt σ H Q) (he : ∀ σ H Q, RdE c.nx .fr fe σ H Q → te σ H Q)
    (hgs : ∀ i, i ∈ gs → i ∈ vs) (rel : Rel c G S σ H) (p : PostLF c G S σ H Q (lcE fi ga t fe vs S)) : tLc (RdI c ki fi) gi tt te vs σ H Q := by
  refine ⟨G, S, rel, ?_⟩
  have p : PostLF c G S σ H Q (fi S >>= fun ds => if ds.length ≤ sizeLine then lcF ga t fe (wipeS S vs) ds >>= fun ys => .ok (.lst ys) else .fail) := p
  cases e0 : fi S with
  | exc x => rw [e0] at p; exact p
  | fail => rw [e0] at p; exact p
  | ok ds =>
    rw [e0, R.ok_bind] at p
    by_cases hz : ds.length ≤ sizeLine
    · rw [if_pos hz] at p
      intro J G1 H1 sp it Dl hD
      have relb := ((rel.grow sp).wipe vs).cw (W := liftX E0)
      have hD0 : H Dl = none := sp.h.free hD
      refine ⟨fun i m H2 => m = ds.length - i ∧ i ≤ ds.length ∧ ∃ G2 ac av, Step G1 H1 G2 H2 ∧ G2 Dl = none ∧ H2 Dl = some (.lst av) ∧ RDs c.k G2 ac av ∧ ac.length ≤ i ∧ (∀ v ∈ av, ∃ l o, v = .ref l ∧ H1 l = none ∧ l ≠ Dl ∧ G2 l = some o) ∧ av.Nodup ∧
          PostLF c G S σ H Q (lcF ga t fe (wipeS S vs) (ds.drop i) >>= fun ys => .ok (.lst (ac ++ ys))),
        ⟨_, rfl, Nat.zero_le _, G1, [], [], Step.new' sp.gh hD, sp.gh.free hD, upd_same, .nil, Nat.zero_le _, (fun v hv => absurd hv (List.not_mem_nil)), List.nodup_nil, by simpa using p⟩, ?_⟩
      rintro i m H2 ⟨rfl, hle, G2, ac, av, sp2, hGD, hHD, hr, hal, hfr, hnd, p2⟩
      have rel2 : Rel c.nx G2 (wipeS S vs) (L2.wipe σ vs) H2 := relb.grow sp2
      have itm := it G2 H2 sp2.g sp2.gh fun j hj x ow => by
        obtain ⟨_, _, o, _, ho, _⟩ := (rel.grow sp).own ow
        rw [ho, sp2.h _ _ ho]
      by_cases hlt : i < ds.length
      · obtain ⟨d, hd⟩ : ∃ d, ds[i]? = some d := ⟨ds[i], List.getElem?_eq_getElem hlt⟩
        have hdrop : ds.drop i = d :: ds.drop (i + 1) := by
          rw [List.drop_eq_getElem_cons hlt]; congr 1; rw [List.getElem?_eq_getElem hlt] at hd; exact Option.some.inj hd
        rw [hdrop] at p2
        obtain ⟨hgo, hy⟩ := itm.2 i d hd
        refine .inr ⟨hgo, fun H' => ∃ G3 ac av, Step G1 H1 G3 H' ∧ G3 Dl = none ∧ H' Dl = some (.lst av) ∧ RDs c.k G3 ac av ∧ ac.length ≤ i + 1 ∧ (∀ v ∈ av, ∃ l o, v = .ref l ∧ H1 l = none ∧ l ≠ Dl ∧ G3 l = some o) ∧ av.Nodup ∧
          PostLF c G S σ H Q (lcF ga t fe (wipeS S vs) (ds.drop (i + 1)) >>= fun ys => .ok (.lst (ac ++ ys))), fun H' ⟨G3, r3⟩ => ⟨_, by omega, rfl, hlt, G3, r3⟩, fun x H3 hx => ?_⟩
        obtain ⟨G3, sp3, hd3⟩ := hy x H3 hx
        refine hg x _ H3 _ ⟨G3, wipeS S vs, d, rel2.grow sp3, hd3, ?_⟩
        unfold lcF at p2
        cases e1 : ga d (wipeS S vs) with
        | exc x => rw [e1] at p2; exact p2.elim
        | fail => rw [e1] at p2; exact p2.elim
        | ok S1 =>
          rw [e1, R.nox_ok, R.ok_bind] at p2
          intro G4 σ4 H4 sp4 rel4 f4
          refine ⟨wipe_eq (by rw [f4.len, wipe_length]) fun j hj => f4.sg j fun z => hj (hgs j z), ht σ4 H4 _ ⟨G4, S1, rel4, ?_⟩⟩
          cases e2 : t S1 with
          | exc x => rw [e2] at p2; exact p2.elim
          | fail => rw [e2] at p2; exact p2.elim
          | ok b =>
            rw [e2, R.nox_ok, R.ok_bind] at p2
            intro G5 H5 sp5
            have spA : Step G2 H2 G5 H5 := (sp3.trans sp4).trans sp5
            have nD : ∀ {G6 H6 : Hp}, Step G2 H2 G6 H6 → G6 Dl = none ∧ H6 Dl = some (.lst av) := fun {G6 H6} z => by
              refine ⟨?_, z.h _ _ hHD⟩
              cases q : G6 Dl with
              | none => rfl
              | some o =>
                rcases z.gr _ _ q with w | w
                · rw [hGD] at w; cases w
                · rw [hHD] at w; cases w
            cases b with
            | false =>
              rw [if_neg Bool.false_ne_true] at p2 ⊢
              exact ⟨G5, ac, av, sp2.trans spA, (nD spA).1, (nD spA).2, hr.mono spA.g, by omega, fun v hv => let ⟨l, o, q1, q2, q3, q4⟩ := hfr v hv; ⟨l, o, q1, q2, q3, spA.g _ _ q4⟩, hnd, p2⟩
            | true =>
              rw [if_pos rfl] at p2 ⊢
              refine he σ4 H5 _ ⟨G5, S1, rel4.grow sp5, ?_⟩
              cases e3 : fe S1 with
              | exc x => rw [e3] at p2; exact p2.elim
              | fail => rw [e3] at p2; exact p2.elim
              | ok y =>
                rw [e3, R.nox_ok, R.ok_bind] at p2
                intro v G6 H6 sp6 hv
                obtain ⟨pp, po, rfl, hg6, h5, h6, ct⟩ := hv
                have spF : Step G5 H5 (upd G6 pp po) H6 := sp6.frz h6 h5 hg6
                have spB := spA.trans spF
                have hp2 : H2 pp = none := spA.h.free h5
                have hp1 : H1 pp = none := sp2.h.free hp2
                have hpD : pp ≠ Dl := fun z => by rw [z, hHD] at hp2; cases hp2
                refine ⟨av, (nD spB).2, by rw [← hr.length]; omega, ?_⟩
                have spC : Step G1 H1 (upd G6 pp po) (upd H6 Dl (.lst (av ++ [.ref pp]))) := by
                  have z := sp2.trans spB
                  exact ⟨z.g, z.h.upd hD, z.gh.upd (nD spB).1, z.gr⟩
                refine ⟨_, ac ++ [y], av ++ [.ref pp], spC, (nD spB).1, upd_same, (hr.mono spB.g).append (.cons ((ct.mono (Ex.new hg6)).rd upd_same) .nil), by rw [List.length_append]; simp; omega, fun v hv => ?_, ?_, ?_⟩
                · rcases List.mem_append.mp hv with hv | hv
                  · obtain ⟨l, o, q1, q2, q3, q4⟩ := hfr v hv
                    exact ⟨l, o, q1, q2, q3, spB.g _ _ q4⟩
                  · rw [List.mem_singleton.mp hv]
                    exact ⟨pp, po, rfl, hp1, hpD, upd_same⟩
                · rw [List.nodup_append]
                  refine ⟨hnd, by simp, fun x hx y hy z => ?_⟩
                  rw [List.mem_singleton] at hy
                  rw [z, hy] at hx
                  obtain ⟨l, o, q1, q2, q3, q4⟩ := hfr _ hx
                  cases q1
                  have := sp2.gh _ _ q4
                  rw [hp2] at this; cases this
                · cases e4 : lcF ga t fe (wipeS S vs) (ds.drop (i + 1)) with
                  | exc x => exact absurd e4 (lcF_exc _)
                  | fail => rw [e4] at p2; exact p2.elim
                  | ok ys => rw [e4] at p2; simpa using p2
      · have hi : i = ds.length := by omega
        subst hi
        rw [List.drop_length] at p2
        refine .inl ⟨itm.1 _ (Nat.le_refl _), ?_⟩
        have p2 : PostLF c G S σ H Q (.ok (.lst (ac ++ []))) := p2
        rw [List.append_nil] at p2
        exact p2 _ _ G2 H2 (sp.trans sp2) hGD hD0 hHD hr (fun v hv => let ⟨l, o, q1, q2, q3, q4⟩ := hfr v hv; ⟨l, q1, sp.h.free q2⟩) hnd
    · rw [if_neg hz] at p; exact p.elim
def sOwnK (i : Nat) (f : FE) : FS := fun S => if i < S.length then sOwn i f S else .fail
theorem lcE_lst {fi : FI} {ga : FG} {t : FT} {fe : FE} {vs : List Nat} {S : Env} {d : D} (h : lcE fi ga t fe vs S = .ok d) : ∃ ys, d = .lst ys := by
  unfold lcE at h
  cases e0 : fi S with
  | exc x => rw [e0] at h; cases h
  | fail => rw [e0] at h; cases h
  | ok ds =>
    rw [e0, R.ok_bind] at h
    by_cases hz : ds.length ≤ sizeLine
    · rw [if_pos hz] at h
      cases e1 : lcF ga t fe (wipeS S vs) ds with
      | exc x => rw [e1] at h; cases h
      | fail => rw [e1] at h; cases h
      | ok ys => rw [e1] at h; cases h; exact ⟨ys, rfl⟩
    · rw [if_neg hz] at h; cases h
theorem Trk.new {i : Nat} {G G' H H' : Hp} {S : Env} {σ : St} {a : Addr} {vs : List V} {ys : List D} (rel : Rel c G S σ H) (hi : i < S.length) (sp : Step G H G' H') (ha : H' a = some (.lst vs)) (hf : ∀ v ∈ vs, ∃ l, v = .ref l ∧ H l = none) (hnd : vs.Nodup) :
    Trk c i [] G' (S.set i (some ⟨true, .lst ys⟩)) (σ.set i (some (.ref a))) H' := by
  refine ⟨G, a, vs, rel.st.g, sp.g, ⟨_, List.getElem?_set_self hi⟩, List.getElem?_set_self (by rw [← rel.len]; exact hi), ha, fun v hv => ?_, hnd, fun j d _ _ q3 q4 => ?_⟩
  · obtain ⟨l, e, hl⟩ := hf v hv
    exact ⟨l, e, rel.st.gh.free hl⟩
  · rw [List.getElem?_set_ne (fun z => q3 z.symm)] at q4 ⊢
    exact rel.fz j d q4
theorem own_goK {i : Nat} {fi : FI} {ga : FG} {fe : FE} {vs : List Nat} {G H : Hp} {S : Env} {σ : St} {Q : V → Hp → Prop} (rel : Rel c G S σ H)
    (hx : ∀ x, lcE fi ga t fe vs S = .exc x → PX c σ x) (hf : lcE fi ga t fe vs S ≠ .fail) (hi : i < S.length)
    (k : ∀ ys a G' H', lcE fi ga t fe vs S = .ok (.lst ys) → Ex G G' → Rel c G' (S.set i (some ⟨true, .lst ys⟩)) (σ.set i (some (.ref a))) H' → Frm [i] S σ H (S.set i (some ⟨true, .lst ys⟩)) (σ.set i (some (.ref a))) H' → Trk c i [] G' (S.set i (some ⟨true, .lst ys⟩)) (σ.set i (some (.ref a))) H' → Q (.ref a) H') :
    PostLF c G S σ H Q (lcE fi ga t fe vs S) := by
  cases e : lcE fi ga t fe vs S with
  | exc x => exact hx x e
  | fail => exact absurd e hf
  | ok d =>
    obtain ⟨ys, rfl⟩ := lcE_lst e
    intro a us G' H' sp hg hn ha hr hfr hnd
    refine k ys a G' H' e sp.g ((rel.grow sp).setO i ha hg (rel.st.h.free hn) (.lst hr) (fun j ow => ?_) (fun _ _ => rfl)) ?_ (Trk.new rel hi sp ha hfr hnd)
    · obtain ⟨_, _, u, _, q, _⟩ := rel.own ow
      rw [hn] at q; cases q
    · exact ((Frm.step (as := []) rel sp).trans (Frm.set i _ _)).mono (fun j q => by simpa using q)
section
variable {y : Str} {py spos : Pos} {elt iter : Expr} {ifs : List Expr} {scope : Scope}
theorem b_lcK (i : Nat) (own : List (Str × Nat)) {ki gs : List Nat} {fi : FI} {ga : FG} {fe : FE} (hc : X.calm = true) (hN : X.N.Nodup) (hi : PI' X c ki tg iter fi) (ok : BlkOk X.N X.env.scope scope own)
    (hg : ∀ (s : Shared) (H : Hp) (C : Addr) (cl : List (Str × Addr)) (fp : List Addr), PG' (X.blk s H scope (compEnvC scope cl C X.env) fp) c.nx gs tg ga) (ht : ∀ (s : Shared) (H : Hp) (C : Addr) (cl : List (Str × Addr)) (fp : List Addr), PTs' (X.blk s H scope (compEnvC scope cl C X.env) fp) c.nx ifs t)
    (he : ∀ (s : Shared) (H : Hp) (C : Addr) (cl : List (Str × Addr)) (fp : List Addr), PE' (X.blk s H scope (compEnvC scope cl C X.env) fp) c.nx .fr elt fe) (h2 : PSs X sts (RdK c fr bs i [] r)) (hy : X.N[i]? = some y := by rfl) (hyl : X.env.scope.names.lookup y = some .local := by rfl)
    (hsw : swapsWith (.ListComp elt [⟨tg, iter, ifs, 0⟩] scope pos) (some (.Name y py)) spos.line X.env = pure true := by exact sw_true rfl rfl rfl (by decide +kernel)) (hgs : ∀ i, i ∈ gs → i ∈ own.map (·.2) := by decide) (hs : ∀ x, foldedSetIterable iter X.env x = pure x := by intro _; rfl) :
    PB' X c fr ([i] ++ bs) (.Assign [.Name y py] (.ListComp elt [⟨tg, iter, ifs, 0⟩] scope pos) spos :: sts) (sSeq (sOwnK i (lcE fi ga t fe (own.map (·.2)))) r) :=
  pssI (pss_cons (ps_setLc hc hN hy hyl hsw hi ok hg ht he hs) h2) fun Dn σ H ⟨G, S, rel, p⟩ => by
    have p : PostS c fr ([i] ++ bs) G S σ H Dn ((if i < S.length then sOwn i (lcE fi ga t fe (own.map (·.2))) S else .fail) >>= fun z => match z.1 with | .nx => r z.2 | _ => .ok z) := p
    by_cases hl : i < S.length
    · rw [if_pos hl] at p
      have p : PostS c fr ([i] ++ bs) G S σ H Dn ((lcE fi ga t fe (own.map (·.2)) S >>= fun d => R.ok (Fl.nx, S.set i (some ⟨true, d⟩))) >>= fun z => match z.1 with | .nx => r z.2 | _ => .ok z) := p
      show tLc (RdI c ki fi) (RdG c.nx gs ga) (RdT c.nx t) (RdE c.nx .fr fe) (own.map (·.2)) σ H (fun x H1 => RdK c fr bs i [] r Dn (σ.set i (some x)) H1)
      refine lc_goF (fun _ _ _ _ z => z) (fun _ _ _ z => z) (fun _ _ _ z => z) hgs rel (own_goK rel (fun x e => ?_) (fun e => ?_) hl fun ys a G' H' e ex rel' fm tk => ?_)
      · rw [e] at p; exact p σ
      · rw [e] at p; exact p.elim
      · rw [e] at p
        exact ⟨G', _, rel', tk, PostS.mv (as := [i]) (bs := bs) ex fm (fun i => List.mem_append.mp) p⟩
    · rw [if_neg hl] at p; exact p.elim
theorem b_lcP (i : Nat) (own : List (Str × Nat)) {ch : List Nat} {ki gs : List Nat} {fi : FI} {ga : FG} {fe : FE} (hc : X.calm = true) (hN : X.N.Nodup) (hi : PI' X c ki tg iter fi) (ok : BlkOk X.N X.env.scope scope own)
    (hg : ∀ (s : Shared) (H : Hp) (C : Addr) (cl : List (Str × Addr)) (fp : List Addr), PG' (X.blk s H scope (compEnvC scope cl C X.env) fp) c.nx gs tg ga) (ht : ∀ (s : Shared) (H : Hp) (C : Addr) (cl : List (Str × Addr)) (fp : List Addr), PTs' (X.blk s H scope (compEnvC scope cl C X.env) fp) c.nx ifs t)
    (he : ∀ (s : Shared) (H : Hp) (C : Addr) (cl : List (Str × Addr)) (fp : List Addr), PE' (X.blk s H scope (compEnvC scope cl C X.env) fp) c.nx .fr elt fe) (hy : X.N[i]? = some y := by rfl) (hyl : X.env.scope.names.lookup y = some .local := by rfl)
    (hsw : swapsWith (.ListComp elt [⟨tg, iter, ifs, 0⟩] scope pos) (some (.Name y py)) spos.line X.env = pure true := by exact sw_true rfl rfl rfl (by decide +kernel)) (hgs : ∀ i, i ∈ gs → i ∈ own.map (·.2) := by decide) (hs : ∀ x, foldedSetIterable iter X.env x = pure x := by intro _; rfl) :
    PSs X [.Assign [.Name y py] (.ListComp elt [⟨tg, iter, ifs, 0⟩] scope pos) spos] (RdP c fr [i] i ch (sOwnK i (lcE fi ga t fe (own.map (·.2))))) :=
  pssI (pss_one (ps_setLc hc hN hy hyl hsw hi ok hg ht he hs)) fun Dn σ H ⟨G, S, rel, p⟩ => by
    have p : PostP c fr [i] i ch G S σ H Dn (if i < S.length then sOwn i (lcE fi ga t fe (own.map (·.2))) S else .fail) := p
    by_cases hl : i < S.length
    · rw [if_pos hl] at p
      have p : PostP c fr [i] i ch G S σ H Dn (lcE fi ga t fe (own.map (·.2)) S >>= fun d => R.ok (Fl.nx, S.set i (some ⟨true, d⟩))) := p
      refine lc_goF (fun _ _ _ _ z => z) (fun _ _ _ z => z) (fun _ _ _ z => z) hgs rel (own_goK rel (fun x e => ?_) (fun e => ?_) hl fun ys a G' H' e ex rel' fm tk => ?_)
      · rw [e] at p; exact p σ
      · rw [e] at p; exact p.elim
      · rw [e] at p
        exact p G' _ H' ex rel' fm (tk.sub fun j q => nomatch q)
    · rw [if_neg hl] at p; exact p.elim
end
def onlyRt : R (Fl × Env) → R (Fl × Env)
  | .ok (.rt d, S) => .ok (.rt d, S)
  | .exc x => .exc x
  | _ => .fail
def slOk (i : Nat) (ch : List Nat) (j : Nat) : Option Sl → Bool
  | none => true
  | some ⟨false, d⟩ => j == i || (!(ch.contains j) && !(ch.contains (j + 1000))) || nlD d
  | some ⟨true, .lst es⟩ => j == i || nlDs es
  | some ⟨true, _⟩ => j == i
def okNap (i : Nat) (ch : List Nat) : Nat → Env → Bool
  | _, [] => true
  | j, s :: S => slOk i ch j s && okNap i ch (j + 1) S
def llB : List D → Bool
  | [] => true
  | .lst es :: ds => nlDs es && llB ds
  | _ => false
def sNap (i : Nat) (ch : List Nat) (f : FE) (r : FS) : FS := fun S => ownL i S >>= fun ds => match ds with
  | .lst es :: ds' => if (okNap i ch 0 S && (nlDs es && llB ds')) = true then f S >>= fun d => if nlD d = true ∧ es.length < sizeLine then onlyRt (r (S.set i (some ⟨true, .lst (.lst (es ++ [d]) :: ds')⟩))) else .fail else .fail
  | _ => .fail
theorem okNap_at {i : Nat} {ch : List Nat} : ∀ {S : Env} {m j : Nat} {s : Option Sl}, okNap i ch m S = true → S[j]? = some s → slOk i ch (m + j) s = true
  | [], _, _, _, _, h => by simp at h
  | s :: S, m, 0, s', h, e => by
    have h : (slOk i ch m s && okNap i ch (m + 1) S) = true := h
    rw [Bool.and_eq_true] at h
    have e : s = s' := by simpa using e
    rw [← e]; exact h.1
  | s :: S, m, j + 1, s', h, e => by
    have h : (slOk i ch m s && okNap i ch (m + 1) S) = true := h
    rw [Bool.and_eq_true] at h
    have := okNap_at (j := j) h.2 (by simpa using e)
    rw [show m + (j + 1) = m + 1 + j by omega]; exact this
theorem llB_nl {k : Kn} {G G' : Hp} {l : Addr} {xs : List V} (hl : G l = some (.lst xs)) (e : ∀ b o, b ≠ l → G b = some o → G' b = some o) : ∀ {ds : List D} {vs : List V}, llB ds = true → V.ref l ∉ vs → RDs k G ds vs → RDs k G' ds vs
  | _, _, _, _, .nil => .nil
  | d :: ds, v :: vs, h, hn, .cons a b => by
    cases d with
    | lst es =>
      have h : (nlDs es && llB ds) = true := h
      rw [Bool.and_eq_true] at h
      cases a with
      | lst q r => exact .cons (.lst (e _ _ (fun z => hn (by rw [z]; simp)) q) (RDs.nl hl e h.1 r)) (llB_nl hl e h.2 (fun z => hn (List.mem_cons_of_mem _ z)) b)
    | _ => cases h
theorem Rel.nap {i : Nat} {ch : List Nat} {G H : Hp} {S : Env} {σ : St} {es ds' : List D} {d : D} {v : V} (rel : Rel c G S σ H) (tk : Trk c i ch G S σ H) (hS : S[i]? = some (some ⟨true, .lst (.lst es :: ds')⟩)) (ok : okNap i ch 0 S = true) (h1 : nlDs es = true) (h2 : llB ds' = true) (hd : nlD d = true) (rd : RD c.k G d v) :
    ∃ (a l0 : Addr) (vs0 xs : List V), σ[i]? = some (some (.ref a)) ∧ H a = some (.lst (.ref l0 :: vs0)) ∧ H l0 = some (.lst xs) ∧ es.length = xs.length ∧ ∃ G', Rel c G' (S.set i (some ⟨true, .lst (.lst (es ++ [d]) :: ds')⟩)) σ (upd H l0 (.lst (xs ++ [v]))) := by
  obtain ⟨G1, a, vs, e0, e1, _, hs, hH, hn, nd, hf⟩ := tk.ex
  obtain ⟨a', o, es', hg, h0, ho, ct⟩ := rel.ow i _ hS
  rw [hs] at es'; cases es'
  rw [hH] at ho; cases ho
  cases ct with
  | lst r =>
    cases r with
    | @cons _ _ v0 vs0 r0 rs =>
      cases r0 with
      | @lst _ l0 xs hl re =>
        have hl0 : G1 l0 = none := by
          obtain ⟨l, e, hl⟩ := hn _ (List.mem_cons_self ..)
          cases e; exact hl
        have hlH : H l0 = some (.lst xs) := rel.st.gh _ _ hl
        have hG0 : c.G0 l0 = none := e0.free hl0
        have hH0 : c.H0 l0 = none := by
          rcases rel.st.gr _ _ hl with z | z
          · rw [hG0] at z; cases z
          · exact z
        have hne : a ≠ l0 := fun z => by rw [z, hl] at hg; cases hg
        have hnm : V.ref l0 ∉ vs0 := (List.nodup_cons.mp nd).1
        have hi : i < S.length := (List.getElem?_eq_some_iff.mp hS).1
        have up : ∀ b o, b ≠ l0 → G b = some o → upd G l0 (.lst (xs ++ [v])) b = some o := fun b o hb e => by rw [upd_ne hb]; exact e
        refine ⟨a, l0, vs0, xs, hs, hH, hlH, re.length, upd G l0 (.lst (xs ++ [v])), ⟨⟨fun b o e => ?_, fun b o e => ?_, fun b o e => ?_, fun b o e => ?_⟩, by rw [List.length_set]; exact rel.len, fun j d' q => ?_, fun j d' q => ?_, fun j j' b q1 q2 => ?_⟩⟩
        · rw [upd_ne (ne_of_none e hG0)]; exact rel.st.g _ _ e
        · rw [upd_ne (ne_of_none e hH0)]; exact rel.st.h _ _ e
        · by_cases hb : b = l0
          · subst hb; rw [upd_same] at e ⊢; exact e
          · rw [upd_ne hb] at e ⊢; exact rel.st.gh _ _ e
        · by_cases hb : b = l0
          · subst hb; exact .inr hH0
          · rw [upd_ne hb] at e; exact rel.st.gr _ _ e
        · by_cases hj : i = j
          · subst hj; rw [List.getElem?_set_self hi] at q; cases q
          · rw [List.getElem?_set_ne hj] at q
            have hk := okNap_at ok q
            rw [Nat.zero_add] at hk
            have hk : (j == i || (!(ch.contains j) && !(ch.contains (j + 1000))) || nlD d') = true := hk
            rw [Bool.or_eq_true, Bool.or_eq_true] at hk
            rcases hk with (hk | hk) | hk
            · exact absurd (show j = i by simpa using hk) (fun z => hj z.symm)
            · rw [Bool.and_eq_true] at hk
              obtain ⟨u, q1, q2⟩ := hf j d' (by simpa using hk.1) (by simpa using hk.2) (fun z => hj z.symm) q
              exact ⟨u, q1, q2.mono fun b o e => up b o (fun z => by rw [z, hl0] at e; cases e) (e1 _ _ e)⟩
            · obtain ⟨u, q1, q2⟩ := rel.fz j d' q
              exact ⟨u, q1, RD.nl hl up hk q2⟩
        · by_cases hj : i = j
          · subst hj
            rw [List.getElem?_set_self hi] at q; cases q
            refine ⟨a, _, hs, by rw [upd_ne hne]; exact hg, h0, by rw [upd_ne hne]; exact hH, .lst (.cons (.lst upd_same ((RDs.nl hl up h1 re).append (.cons (RD.nl hl up hd rd) .nil))) (llB_nl hl up h2 hnm rs))⟩
          · rw [List.getElem?_set_ne hj] at q
            have hk := okNap_at ok q
            rw [Nat.zero_add] at hk
            obtain ⟨b, o, q1, q2, q3, q4, q5⟩ := rel.ow j d' q
            have hb : b ≠ l0 := fun z => by rw [z, hl] at q2; cases q2
            have hji : ¬ (j == i) = true := by simpa using fun z : j = i => hj z.symm
            refine ⟨b, o, q1, by rw [upd_ne hb]; exact q2, q3, by rw [upd_ne hb]; exact q4, ?_⟩
            cases d' with
            | lst es2 =>
              have hk : (j == i || nlDs es2) = true := hk
              rw [Bool.or_eq_true] at hk
              cases q5 with
              | lst r5 => exact .lst (RDs.nl hl up (hk.resolve_left hji) r5)
            | _ => exact absurd hk hji
        · have back : ∀ {m : Nat}, OwnAt (S.set i (some ⟨true, .lst (.lst (es ++ [d]) :: ds')⟩)) σ m b → OwnAt S σ m b := fun {m} hm => by
            obtain ⟨⟨d', q⟩, z⟩ := hm
            by_cases hj : i = m
            · subst hj; exact ⟨⟨_, hS⟩, z⟩
            · rw [List.getElem?_set_ne hj] at q; exact ⟨⟨d', q⟩, z⟩
          exact rel.nd j j' b (back q1) (back q2)
theorem atI_hd {α : Type} {x : α} {xs : List α} : L2.atI (x :: xs) 0 = some x := by
  unfold L2.atI L2.ixN
  rw [if_pos (by decide), if_pos (by rw [List.length_cons]; omega)]
  rfl
theorem b_nap (i : Nat) {ch : List Nat} {x : Str} {p' p1 p2 apos cpos : Pos} {kk : Nat} (he : PE' X c .st e f) (h2 : PB' X c fr bs sts r) (hN : X.N[i]? = some x := by rfl) (hv : Vis X.env.scope x := by first | exact Or.inl rfl | exact Or.inr (Or.inl rfl) | exact Or.inr (Or.inr rfl)) (hd : (x == ("__debug__" : Str)) = false := by decide)
    (hcd : (x == ("__classdict__" : Str)) = false := by decide) (h3 : starEach [e] X.env = [(false, eval e X.env)] := by rfl) (hl : (apos.endLine == cpos.line) = true := by rfl)
    (hs : swapsWith (.Call (.Attribute (.Subscript (.Name x p') (.Constant (.int 0) kk p1) p2) "append" apos) [e] [] cpos) none pos.line X.env = pure false := by rfl) :
    PSs X (.Expr (.Call (.Attribute (.Subscript (.Name x p') (.Constant (.int 0) kk p1) p2) "append" apos) [e] [] cpos) pos :: sts) (RdK c fr bs i ch (sNap i ch f r)) :=
  pssI (pss_cons (ps_expr (pe_bm PySem.F.plainAttrs_list PySem.F.slot_list_append PySem.F.type_list_append mt_append (pe_ix ix_list (pe_var hN hv hd hcd) pe_int (fun _ _ => rfl)) (pa_cons he pa_nil h3) rfl (by rw [h3]; rfl) hl h3 rfl) hs) h2) fun Dn σ H ⟨G, S, rel, tk, p⟩ => by
    have p : PostS c fr bs G S σ H Dn (sNap i ch f r S) := p
    unfold sNap at p
    cases e0 : ownL i S with
    | exc x => exact absurd e0 ownL_exc
    | fail => rw [e0] at p; exact p.elim
    | ok ds =>
      rw [e0, R.ok_bind] at p
      have hS := ownL_of e0
      split at p
      · rename_i es ds'
        by_cases hok : (okNap i ch 0 S && (nlDs es && llB ds')) = true
        · rw [if_pos hok] at p
          rw [Bool.and_eq_true, Bool.and_eq_true] at hok
          obtain ⟨ok, h1, h2'⟩ := hok
          obtain ⟨a, l0, vs0, xs, q1, q2, q3, q4, _⟩ := Rel.nap (d := .non) (v := .non) rel tk hS ok h1 h2' rfl .non
          refine ⟨_, q1, a, _, 0, V.ref l0, rfl, rfl, SqL.of q2, atI_hd, .inl ⟨rfl, xs, SqL.of q3⟩, ?_⟩
          refine rdE_go (g := fun d => if nlD d = true ∧ es.length < sizeLine then onlyRt (r (S.set i (some ⟨true, .lst (.lst (es ++ [d]) :: ds')⟩))) else .fail) (Post := PostS c fr bs G S σ H Dn) rel p (fun _ z => z _) (fun z => z) fun d v G' H' sp q p1 => ?_
          by_cases hc : nlD d = true ∧ es.length < sizeLine
          · rw [if_pos hc] at p1
            have rel' := rel.grow sp
            have tk' : Trk c i ch G' S σ H' := (tk.mv sp.g (Frm.step (as := []) rel sp) (by simp) (by simp)).sub (fun j q => by simpa using q)
            obtain ⟨a', l0', vs0', xs', r1, r2, r3, r4, G2, rel2⟩ := Rel.nap rel' tk' hS ok h1 h2' hc.1 q
            rw [q1] at r1; cases r1
            rw [sp.h _ _ q2] at r2; cases r2
            rw [sp.h _ _ q3] at r3; cases r3
            refine ⟨l0, xs, v, rfl, rfl, sp.h _ _ q3, by rw [← q4]; exact hc.2, G2, _, rel2, ?_⟩
            cases e1 : r (S.set i (some ⟨true, .lst (.lst (es ++ [d]) :: ds')⟩)) with
            | exc x => rw [e1] at p1; exact p1
            | fail => rw [e1] at p1; exact p1.elim
            | ok z =>
              rw [e1] at p1
              obtain ⟨fl, S2⟩ := z
              cases fl with
              | nx => exact p1.elim
              | bk => exact p1.elim
              | ct => exact p1.elim
              | rt d2 => exact fun v2 G3 H3 st rv ow => p1 v2 G3 H3 st rv ow
          · rw [if_neg hc] at p1; exact p1.elim
        · rw [if_neg hok] at p; exact p.elim
      · exact p.elim
end
end M
set_option Elab.async false
set_option linter.all false
set_option maxRecDepth 100000
set_option maxHeartbeats 4000000
namespace M
open PySem L2 PyProof.Rows
section
variable {prog : Program} {w : World} {A : Around} {E : Value → Shared → Prop} {s : Shared}
theorem lend_hot {it l x1 : Addr} {i : Nat} {items : Array Value} {Q : Option Value → Shared → Prop} (hot : HotX.HotAt A x1 s.heap) (hit : s.heap.IsListIter it l i) (hl : s.heap.IsList l items) (hx : items[i]? = none) (hne : x1 ≠ it)
    (hQ : ∀ h', (∀ b o, b ≠ it → s.heap.get? b = some o → h'.get? b = some o) → Q none { s with heap := h' }) : wpAny (model prog w) A (pyNext (.ref it)) Q E s := by
  obtain ⟨o, ho, hc, hd⟩ := id hit
  obtain ⟨ol, hol, _, nl, hdl⟩ := hl
  obtain ⟨hh, o1, vs1, h1, d1, c1⟩ := hot
  unfold pyNext
  refine wpAny_bind (wpAny_attempt (wpAny_callSpecial?_slot (name := Str.ofString "__next__") hit.typeIs slot_listiter_next
    (wpAny_call_entry slot_listiter_next hit.typeIs entry_listiter_next ?_ (args_listiter_next _))))
  show wpAny _ _ (field (.ref it) 0 >>= _) _ _ s
  refine wpAny_bind (wpAny_field ho hd (x := .ref l) rfl ?_)
  show wpAny _ _ (if (Value.ref l == Value.none) = true then _ else _) _ _ s
  rw [if_neg (show ¬ ((Value.ref l == Value.none) = true) from Bool.false_ne_true)]
  show wpAny _ _ (field (.ref it) 1 >>= _) _ _ s
  refine wpAny_bind (wpAny_field ho hd (x := .int i 0) rfl ?_)
  show wpAny _ _ (seqItems? (.ref l) >>= _) _ _ s
  refine wpAny_bind (wpAny_seqItems hol hdl ?_)
  simp only [Int.toNat_natCast, hx]
  refine wpAny_bind (wpAny_rule (wpAny_bind (wpAny_setField ho hd (by simp) ?_)))
  show wpAny _ _ (newExc (.type "StopIteration") [] >>= _) _ _ _
  refine wpAny_bind ?_
  simp only [newExc, newTuple]
  refine wpAny_bind (wpAny_newObj_type ?_ (by size_fits))
  refine wpAny_bind (m := firstArgMember _ _) (wpAny_of_eq (a := Value.none) (by first | rfl | (simp only [firstArgMember]; rfl)) ?_)
  refine wpAny_newObj_type ?_ (by size_fits)
  have keep : ∀ b o, b ≠ it → s.heap.get? b = some o → (s.heap.update it (Obj.mapFields (·.setIfInBounds 0 .none))).get? b = some o := fun b o hb e => by
    rw [Heap.get?_update_other _ _ (Ne.symm hb)]; exact e
  refine HotX.raiseNew_hot ⟨hh, o1, vs1, Heap.get?_push_of_some _ (Heap.get?_push_of_some _ (keep _ _ hne h1)), d1, c1⟩ (Nat.ne_of_lt (Heap.lt_size (Heap.get?_push_of_some _ (keep _ _ hne h1)))) (Heap.get?_push_size _ rfl) rfl (by first | (simp; done) | (simp; omega) | (simp only [Array.size_append]; simp; omega)) ?_
  refine wpAny_bind (wpAny_isInstance (T := "StopIteration") (b := true) ⟨_, Heap.get?_update_self _ (Heap.get?_push_size _ rfl) rfl, rfl⟩ isSubtype_stop ?_)
  refine wpAny_pure (hQ _ fun b o hb e => ?_)
  rw [Heap.get?_update_other _ _ (Nat.ne_of_gt (Heap.lt_size (Heap.get?_push_of_some _ (keep _ _ hb e))))]
  exact Heap.get?_push_of_some _ (Heap.get?_push_of_some _ (keep _ _ hb e))
theorem hot_keep {x1 : Addr} {h h' : Heap} (hot : HotX.HotAt A x1 h) (e : ∀ o, h.get? x1 = some o → h'.get? x1 = some o) : HotX.HotAt A x1 h' := by
  obtain ⟨hh, o1, vs1, h1, d1, c1⟩ := hot
  exact ⟨hh, o1, vs1, e _ h1, d1, c1⟩
theorem walks_hot {I ax x1 : Addr} (hne : ax ≠ I) (hx : x1 ≠ I) (items : Array Value) :
    Walks prog w A I [I, ax, x1] [I] items.size (fun i v => items[i]? = some v) (fun i h => h.IsListIter I ax i ∧ h.IsList ax items ∧ HotX.HotAt A x1 h) where
  sub := fun b hb => by simp at hb; simp [hb]
  frame := fun _ _ _ st hk => ⟨st.1.at fun o e => hk I (by simp) o e, st.2.1.at fun o e => hk ax (by simp) o e, hot_keep st.2.2 fun o e => hk x1 (by simp) o e⟩
  item := fun i s Q E hi st hQ => by
    refine wpAny_pyNext_list_item st.1 st.2.1 (x := items[i]) (by simp [hi]) fun h' hit' hs' => ?_
    exact hQ _ h' s.toks (by simp [hi]) ⟨hit', st.2.1.extBut hs'.extBut hne, hot_keep st.2.2 fun o e => hs'.extBut x1 o hx e⟩ fun b o hb e => hs'.extBut b o (fun h => hb (by simp [h])) e
  done := fun s Q E st hQ => lend_hot st.2.2 st.1 st.2.1 (by simp) hx fun h' he' => hQ h' s.toks fun b o hb e => he' b o (fun h => hb (by simp [h])) e
  self := fun _ _ _ _ st hQ => wpAny_pyIter_listiter st.1 hQ
end
section
variable {X : Cx} {k : Kn}
theorem cr_anyH (hc : L2H.HotC X) : CallR X (.builtin "any") (rAny X.K) := by
  intro pins s σ H vs us Q I r h
  obtain ⟨a, bs, rfl, hs, q⟩ := h
  obtain ⟨its, rv, hl, _⟩ := I.list hs
  obtain ⟨x1, hot⟩ := hc.at I
  rw [Vals.ref1 r]
  have hb := rv.bls
  refine call_any_walk (iter_any hl.isList fun s₂ e2 st hne => ?_)
  subst e2
  have hx : x1 ≠ s.heap.objs.size := by
    obtain ⟨_, o1, _, h1, _, _⟩ := hot
    exact Nat.ne_of_lt (Heap.lt_size h1)
  have hot' : HotX.HotAt X.A.in1 x1 (s.heap.push { cls := .type "list_iterator", data := .fields #[.ref a, .int 0 0] }) := by
    obtain ⟨hh, o1, vs1, h1, d1, c1⟩ := hot
    exact ⟨hh, o1, vs1, Heap.get?_push_of_some _ h1, d1, c1⟩
  refine ⟨_, _, _, _, _, _, _, rfl, walks_hot (A := X.A.in1) hne hx its.toArray, ⟨st.1, st.2, hot'⟩, truth_bools hb, fun h' tk hk => ?_⟩
  refine ⟨.bl _, H, I.kept fun b o eo => hk b o (fun hmem => ?_) (Heap.get?_push_of_some _ eo), ?_, q⟩
  · rcases List.mem_cons.mp hmem with e1 | hmem
    · exact absurd (e1 ▸ Heap.lt_size eo) (Nat.lt_irrefl _)
    · cases hmem
  · show Value.bool _ = Value.bool _
    rw [← L2.any_range, hb, List.size_toArray, List.length_map]
theorem c_anyH (hc : L2H.HotC X) : ClR X k (.builtin "any") .st (f1 anyD) := cl1 (cr_anyH hc) fun G H x v d e n hg Q p => by
  cases x <;> simp only [anyD] at hg <;> first | (cases hg; done) | skip
  split at hg
  · rename_i ns hn
    cases hg; obtain ⟨a, vs, rfl, ha, r⟩ := n.lst e
    have := asB_of r hn; subst this
    exact ⟨a, ns, rfl, SqL.of ha, p _ G H (Step.refl e) (.bl _)⟩
  · cases hg
end
end M
set_option Elab.async false
set_option linter.all false
set_option maxRecDepth 100000
set_option maxHeartbeats 4000000
namespace M
open PySem L2 PyProof.Rows
def txsOf : List D → Option (List Str)
  | [] => some []
  | .str x :: ds => (txsOf ds).map (x :: ·)
  | _ => none
theorem txs_rd {k : Kn} {G : Hp} : ∀ {ds : List D} {vs : List V} {ts : List Str}, RDs k G ds vs → txsOf ds = some ts → vs = ts.map V.str
  | [], _, _, .nil, h => by cases h; rfl
  | d :: ds, _, ts, .cons a b, h => by
    cases d with
    | str x =>
      cases a
      have h : (txsOf ds).map (x :: ·) = some ts := h
      cases e : txsOf ds with
      | none => rw [e] at h; cases h
      | some us =>
        rw [e] at h
        cases h
        rw [txs_rd b e]; rfl
    | _ => cases h
theorem txs_map {α : Type} (f : α → Str) : ∀ l : List α, txsOf (l.map fun a => .str (f a)) = some (l.map f)
  | [] => rfl
  | a :: l => by
    show (txsOf (l.map fun a => .str (f a))).map (f a :: ·) = _
    rw [txs_map f l]; rfl
def cntD (x y : D) : R D := match x, y with
  | .lst ds, .str t => match txsOf ds with
    | some ts => .ok (.int ((ts.filter fun z => decide (z = t)).length : Nat))
    | none => .fail
  | _, _ => .fail
theorem dpAll_txs {K : PySem.W.Frag} {H : Hp} : ∀ ts : List Str, DpAll K H (ts.map V.str) (ts.map PyData.str)
  | [] => .nil
  | t :: ts => .cons (.str t) (dpAll_txs ts)
theorem plain_txs : ∀ ts : List Str, PyData.plainAll (ts.map PyData.str) = true
  | [] => rfl
  | t :: ts => by
    show (PyData.plain (.str t) && PyData.plainAll (ts.map PyData.str)) = true
    rw [plain_txs ts]; rfl
theorem cnt_txs (t : Str) : ∀ ts : List Str, (ts.map PyData.str).countP (fun y => PyData.eqv y (.str t)) = (ts.filter fun z => decide (z = t)).length
  | [] => rfl
  | z :: ts => by
    have e : PyData.eqv (.str z) (.str t) = decide (z = t) := by
      show (z == t) = _
      by_cases h : z = t
      · subst h; simp
      · simp [h]
    rw [List.map_cons, List.countP_cons, cnt_txs t ts, List.filter_cons, e]
    by_cases h : z = t <;> simp [h]
section
variable {X : Cx} {c : Cf} {k1 k2 : Kd} {e o : Expr} {f g : FE} {apos cpos : Pos}
def rCntT (K : PySem.W.Frag) : V → List V → Hp → VK → Prop := fun x xs H Q => ∃ (p : Addr) (ts : List Str) (t : Str), x = .ref p ∧ xs = [.str t] ∧ SqL K H p (ts.map V.str) ∧ Q (.int ((ts.filter fun z => decide (z = t)).length : Nat)) H
theorem mt_cntT (hu : X.A.units + 65 < cLine) : MtR X "list.count" (rCntT X.K) := by
  intro pins s σ H x xs v us Q I rx rxs h
  obtain ⟨p, ts, t, rfl, rfl, hs, q⟩ := h
  cases rx
  obtain ⟨u, rfl, ru⟩ := rxs.one
  obtain ⟨its, rv, hl, hlen⟩ := I.list hs
  obtain ⟨as, h4⟩ := Dp.readsAll I _ _ its (dpAll_txs ts) rv
  obtain ⟨bs, h5⟩ := Dp.reads I (.str t) _ u (.str t) ru
  refine PySem.SeqAt.count_list_data (xs := ts.map PyData.str) (d := .str t) hl.isList (by simpa using h4) h5 (plain_txs ts) rfl ?_ ?_
  · have : PyData.depth (.str t) ≤ 1 := by simp [PyData.depth]
    omega
  · rw [cnt_txs]
    exact ⟨.int _, H, I.tok _, ⟨_, rfl⟩, q⟩
def eCnt (f g : FE) : FE := fun S => f S >>= fun x => if isLst x then g S >>= fun y => (cntD x y).nox else .fail
theorem cnt_go {k : Kn} (hk : k.K = X.K) {G H : Hp} {x y : D} {u v : V} {d : D} {Q : VK} (ex : Ex G H) (nx : Now k G H x u) (ny : Now k G H y v) (hg : cntD x y = .ok d) (q : ∀ j : Int, d = .int j → Q (.int j) H) : rCntT X.K u [v] H Q := by
  unfold cntD at hg
  split at hg
  · rename_i ds t
    split at hg
    · rename_i ts hts
      cases hg
      obtain ⟨a, vs, rfl, ha, r⟩ := nx.lst ex
      have ev := txs_rd r hts
      subst ev
      have := ny.str
      subst this
      exact ⟨a, ts, t, rfl, rfl, hk ▸ SqL.of ha, q _ rfl⟩
    · cases hg
  · cases hg
theorem d_cnt (hk : c.k.K = X.K) (hu : X.A.units + 65 < cLine) (ho : PE' X c k1 o f) (he : PE' X c k2 e g)
    (h3 : starEach [e] X.env = [(false, eval e X.env)] := by rfl) (hb : attributeBase o "count" X.env (eval o X.env) = eval o X.env := by rfl) (h2 : (apos.endLine == cpos.line) = true := by rfl) :
    PE' X c .st (.Call (.Attribute o "count" apos) [e] [] cpos) (eCnt f g) :=
  peI (pe_bm PySem.F.plainAttrs_list PySem.F.slot_list_count PySem.F.type_list_count (mt_cntT hu) ho (pa_cons he pa_nil h3) hb (by rw [h3]; rfl) h2 h3 rfl) fun σ H Q ⟨G, S, rel, p⟩ => by
    refine rdE_go (g := fun x => if isLst x then g S >>= fun y => (cntD x y).nox else .fail) (Post := PostE c .st G S σ H Q) rel p (fun _ z => z) (fun z => z) fun d1 v1 G1 H1 s1 q1 p1 => ?_
    by_cases hl : isLst d1 = true
    · rw [if_pos hl] at p1
      have ty : tyV X.K "list" v1 H1 := by
        cases d1 <;> simp only [isLst] at hl <;> first | (cases hl; done) | skip
        obtain ⟨a, vs, rfl, ha, r⟩ := q1.now.lst s1.gh
        exact .inl ⟨rfl, vs, SqL.of ha⟩
      refine ⟨ty, ?_⟩
      refine rdE_go (g := fun y => (cntD d1 y).nox) (Post := PostE c .st G S σ H Q) (rel.grow s1) p1 (fun _ z => z) (fun z => z) fun d2 v2 G2 H2 s2 q2 p2 => ?_
      cases e : cntD d1 d2 with
      | exc x => rw [e] at p2; exact p2.elim
      | fail => rw [e] at p2; exact p2.elim
      | ok d =>
        rw [e] at p2
        refine cnt_go hk s2.gh (q1.now.grow s2) q2.now e fun j hj => ?_
        subst hj
        exact p2 _ G2 H2 (s1.trans s2) (.int _)
    · rw [if_neg hl] at p1; exact p1.elim
end
end M
set_option Elab.async false
set_option linter.all false
set_option maxRecDepth 100000
set_option maxHeartbeats 4000000
namespace L2H
open PySem PySem.Spec PyProof.Rows L2 HotX
structure FnE (P : Program) (w : World) (K : PySem.W.Frag) (mg : Str → Option Value) (base : Heap) (CX : CXT) (k : Nat) (f : Addr) (fd : FuncData) (ps : List Str) (sp : Addr × Obj → Sp) : Prop where
  len : ∀ p vs H Q E, sp p vs H Q E → vs.length = ps.length
  run : ∀ (A : Around) (outer : List Env) (s : Shared) (H : Hp) (args : Args) (us : List Value) (vs : List V) (Q : VK) (E : XK) (p : Addr × Obj), RoomH k A → Hot1 A p → PinOk outer H s p → Env0 P w K mg base A outer s H → BindsTo s fd args (ps.zip us) → Vals vs us → sp p vs H Q E →
    codeAny (model P w) A (.call (.ref f) args) (CR CX outer P w H s Q E) s
theorem fn_ofE {CX : CXT} {P : Program} {w : World} {K : PySem.W.Frag} {mg : Str → Option Value} {base : Heap} {k : Nat} {f : Addr} {name qual : Str} {params : Arguments} {body : List Stmt} {scope : Scope} {dV kV doc pm cdv ct oc : Value} {an od : Option Addr}
    {osl : Array (Option Value)} {N ps : List Str} {sp : Addr × Obj → Sp} (lk : K.lookup f = some ⟨oc, od, .func (PySem.W.fnOf name qual params body scope dV kV doc pm an cdv ct), osl⟩) (hcd : PySem.W.codeIn K cdv qual = true) (S : FnScope N ps scope)
    (len : ∀ p vs H Q E, sp p vs H Q E → vs.length = ps.length)
    (hbody : ∀ (A : Around) (outer : List Env) (s : Shared) (H : Hp) (vs : List V) (Q : VK) (E : XK) (p : Addr × Obj), Hot1 A p → RoomH k (A.deeper (envOfC qual scope s.heap.objs.size f cdv)) → sp p vs H Q E →
      ∃ t, PSs (cxH CX P w K mg base N qual scope f cdv A outer s H E p) body t ∧ t { nx := fun _ H' => Q .non H', rt := Q } (L2.start N vs) H) :
    FnE P w K mg base CX (k + 1) f (PySem.W.fnOf name qual params body scope dV kV doc pm an cdv ct) ps sp := by
  refine ⟨len, fun A outer s H args us vs Q E p hr hot hpin e0 hb r hsp => ?_⟩
  have hl := len _ _ _ _ _ hsp
  have KX : K.In s.heap := e0.mod.kin.keeps fun b o e => (e0.bs b o e).1
  have lim : s.heap.NoLimit := e0.mod.nolimit.keeps fun b o e => (e0.bs b o e).1
  have hkind : ∀ y ∈ ps.zip us, scope.names.lookup y.1 = some .local ∨ (scope.names.lookup y.1 = some .cell ∧ ((cellsFrom (s.heap.objs.size + 1) scope.names []).lookup y.1).isSome = true) := fun ⟨n, v⟩ hy => by
    rcases S.par n (List.of_mem_zip hy).1 with q | q
    · exact .inl q
    · exact .inr ⟨q, PySem.W.cellsFrom_some _ _ _ (.inl q)⟩
  refine codeAny_call_function hr.depth (KX _ _ lk) rfl S.co S.gen rfl (PySem.W.codeRec_of KX hcd) (hb _ _ _ _ ?_)
  refine wpAny_newFunctionEnv_cells S.kind hkind fun env he s1 x => ?_
  subst he
  refine ⟨lim.keeps x.toInCall.keep, codeAny_func ?_⟩
  obtain ⟨t, ht, hq⟩ := hbody A outer s H vs Q E p hot (hr.deeper _) hsp
  have I : Inv (cxH CX P w K mg base N qual scope f cdv A outer s H E p) [] (L2.start N vs) H s1 := inv_startH S hpin e0 hl r x
  refine wpAny_mono (ht.run [] s1 (L2.start N vs) H _ I hq) (fun fl s' hs => ?_) fun e s' hs => hs
  have fin : ∀ {σ' : St} {H' : Hp} {v : V} {u : Value}, Inv (cxH CX P w K mg base N qual scope f cdv A outer s H E p) [] σ' H' s' → RelV v u → Q v H' → CE outer P w H s Q u s' :=
    fun {σ' H' v u} J rv q => ⟨v, H', J.os, J.bare, J.base, J.hok, rv, q⟩
  cases fl with
  | ret u =>
    obtain ⟨v, σ', H', J, rv, q⟩ := hs
    exact fin J rv q
  | next =>
    obtain ⟨σ', H', J, q⟩ := hs
    exact fin (v := V.non) (u := Value.none) J rfl q
  | brk =>
    obtain ⟨_, _, _, q⟩ := hs
    exact False.elim q
  | cont =>
    obtain ⟨_, _, _, q⟩ := hs
    exact False.elim q
section
variable {X : Cx} {CX : CXT} {k : Nat} {f C : Addr} {fd : FuncData} {ps : List Str} {sp : Addr × Obj → Sp} {E : St → XK} {x m : Str} {q pos apos : Pos} {e o : Expr} {es : List Expr} {ta : TE} {t : TA} {p : Addr × Obj}
theorem run_fnE {pins : List (Addr × Obj)} {σ : St} {H : Hp} {s : Shared} {Q : VK} {us : List Value} {vs : List V} (F : FnE X.prog X.w X.K X.mg X.base CX k f fd ps sp) (hr : RoomH k X.A) (hot : Hot1 X.A p) (hp : p ∈ X.pn) (hb : Binds X.K fd ps []) (hx : PassesAt CX X σ (E σ))
    (I : Inv X pins σ H s) (r : Vals vs us) (h : sp p vs H Q (E σ)) : wpAny (model X.prog X.w) X.A (call (.ref f) us) (EP X pins σ Q) X.xe s := by
  have hl : us.length = ps.length := by rw [← r.length]; exact F.len _ _ _ _ _ h
  have b := hb s us I.kIn (by rw [List.append_nil]; exact hl)
  rw [List.append_nil] at b
  have P1 := I.pin p (List.mem_append_left _ hp)
  have hpin : PinOk X.stack H s p := ⟨P1.1, P1.2.1, fun hm => (List.mem_cons.mp (I.stkSub p.1 hm)).elim P1.2.2.1 P1.2.2.2.1, P1.2.2.2.2⟩
  refine wpAny_call (codeAny_mono (F.run X.A X.stack s H ⟨us, []⟩ us vs Q (E σ) p hr hot hpin I.env0 b r h) fun r s' hq => ?_)
  cases r with
  | error e => exact hx pins H s e s' I hq
  | ok fl =>
    cases fl with
    | ret u => exact I.after hq
    | next => exact False.elim hq
    | brk => exact False.elim hq
    | cont => exact False.elim hq
theorem pe_callE (F : FnE X.prog X.w X.K X.mg X.base CX k f fd ps sp) (hr : RoomH k X.A) (hot : Hot1 X.A p) (hp : p ∈ X.pn) (hg : Gl X x) (hm : X.mg x = some (.ref f)) (hk : PySem.W.keepIn X.K (.ref f) = true) (hb : Binds X.K fd ps []) (hx : ∀ σ, PassesAt CX X σ (E σ))
    (ha : PA X (e :: es) t) (hdb : (x == ("__debug__" : Str)) = false := by decide) (he : starEach (e :: es) X.env = (false, eval e X.env) :: starEach es X.env := by rfl) (hpl : (backTo pos (starEach es X.env)).any (·.1) = false := by rfl) :
    PE X (.Call (.Name x q) (e :: es) [] pos) (tCallS (sp p) E t) := by
  refine ⟨fun pins s σ H Q I h => ?_⟩
  refine wpAny_Call_Name_kw (ld_glob I hg hm ?_ hdb)
  refine PySem.W.callWith_K (h₀ := X.base) I.ok.mod.kin hk (thn (ha.run pos pins s σ H _ I h) fun us s1 ⟨vs, H1, I1, r, q⟩ => ⟨I1.kIn, ?_⟩) he hpl
  exact run_fnE F hr hot hp hb (hx σ) I1 r q
end
end L2H
namespace M
open PySem L2
structure HeldE (X : Cx) (k : Kn) (a : Addr) (y : Exc) (H0 G0 : Hp) : Prop where
  ex : ∃ (oe : Obj) (cls : Value) (d : Option Addr), (a, oe) ∈ X.pn ∧ L2H.Hot1 X.A (a, oe) ∧ Zc cls d oe ∧ (∃ vs, oe.data = .fields vs) ∧ XR ⟨k, H0, G0, liftX E0⟩ G0 y cls d H0
theorem HeldE.held {X : Cx} {k : Kn} {a : Addr} {y : Exc} {H0 G0 : Hp} (h : HeldE X k a y H0 G0) : Held X k a y H0 G0 := by
  obtain ⟨oe, cls, d, h1, _, h2, h3, h4⟩ := h.ex
  exact ⟨oe, cls, d, h1, h2, h3, h4⟩
theorem HeldE.hot {X : Cx} {k : Kn} {a : Addr} {y : Exc} {H0 G0 : Hp} (h : HeldE X k a y H0 G0) : L2H.HotC X := by
  obtain ⟨oe, cls, d, h1, h2, _⟩ := h.ex
  exact ⟨(a, oe), h2, h1⟩
def SpE (k : Kn) (n : Nat) (den : Exc → List D → R D) (p : Addr × Obj) : Sp := fun vs H Q E => vs.length = n ∧ ∃ y cls d, Zc cls d p.2 ∧ (∃ vs, p.2.data = .fields vs) ∧ ∃ G0 ds, XR ⟨k, H, G0, liftX E0⟩ G0 y cls d H ∧ Ex G0 H ∧ RDs (k.at p.1) G0 ds vs ∧ PostF (k.at p.1) false G0 H Q E (den y ds)
structure CalleeE (P : Program) (w : World) (K : PySem.W.Frag) (mg : Str → Option Value) (base : Heap) (k : Kn) (lv : Nat) (x : Str) (n : Nat) (den : Exc → List D → R D) : Prop where
  ex : ∃ (f : Addr) (fd : FuncData) (ps : List Str), ps.length = n ∧ L2H.FnE P w K mg base CX0 lv f fd ps (SpE k n den) ∧ mg x = some (.ref f) ∧ PySem.W.keepIn K (.ref f) = true ∧ Binds K fd ps []
section
variable {P : Program} {w : World} {K : PySem.W.Frag} {mg : Str → Option Value} {base : Heap}
theorem fn_okE {k : Kn} {as : List Nat} {x qual : Str} {params : Arguments} {body : List Stmt} {scope : Scope} {dvs : List V} {kws : List (Str × V)} {f : Addr} {fd : FuncData} {N ps : List Str} {lv : Nat} {s : Exc → FS} (F : FunD K x qual params body scope dvs kws f fd) (S : FnScope N ps scope)
    (hb : ∀ (cdv : Value) (A : Around) (outer : List PySem.Env) (sh : Shared) (H G0 : Hp) (p : Addr × Obj) (y : Exc), L2H.RoomH lv (A.deeper (PyProof.Rows.envOfC qual scope sh.heap.objs.size f cdv)) → HeldE (L2H.cxH CX0 P w K mg base N qual scope f cdv A outer sh H E0 p).nox k p.1 y H G0 → PB' (L2H.cxH CX0 P w K mg base N qual scope f cdv A outer sh H E0 p).nox ⟨k.at p.1, H, G0, liftX E0⟩ false as body (s y)) :
    L2H.FnE P w K mg base CX0 (lv + 1) f fd ps (SpE k ps.length (fun y ds => (runF false N.length (s y) ds).nox)) := by
  obtain ⟨oc, od, dV, kV, doc, pm, an, cdv, ct, osl, rfl, lk, hcd, _, _⟩ := F.ex
  refine L2H.fn_ofE lk hcd S (fun p vs H Q E q => q.1) fun A outer sh H vs Q E p hot hr q => ?_
  obtain ⟨hl, y, cls, d, hz, hf, G0, ds, xr, e, r, pp⟩ := q
  have he : HeldE (L2H.cxH CX0 P w K mg base N qual scope f cdv A outer sh H E0 p).nox k p.1 y H G0 := ⟨p.2, cls, d, List.mem_cons_self .., hot, hz, hf, xr⟩
  have hB := hb cdv A outer sh H G0 p y hr he
  refine ⟨_, hB.nox, G0, _, rel_start (c := ⟨k.at p.1, H, G0, liftX E0⟩) e r, ?_⟩
  dsimp only at pp
  unfold runF at pp
  cases e1 : s y (startS N.length ds) with
  | exc x => rw [e1] at pp; exact pp.elim
  | fail => rw [e1] at pp; exact pp.elim
  | ok z =>
    rw [e1] at pp
    obtain ⟨fl, S1⟩ := z
    cases fl with
    | nx => exact fun G' σ' H' _ rel _ => pp .non G' H' rel.st .non
    | bk => exact pp.elim
    | ct => exact pp.elim
    | rt d => exact fun v G' H' st rv _ => pp v G' H' st rv
end
section
variable {X : Cx} {c : Cf} {k : Kn} {e : Expr} {pos : Pos} {den : Exc → List D → R D} {s : FS} {as bs : List Nat}
theorem XR.step {k : Kn} {G0 H0 G H G1 H1 : Hp} {y : Exc} {cls : Value} {d : Option Addr} (xr : XR ⟨k, H0, G0, liftX E0⟩ G0 y cls d H0) (st : Step G0 H0 G H) : XR ⟨k, H, G, liftX E0⟩ G y cls d H := by
  obtain ⟨C, nm, h1, h2, h3⟩ := xr
  refine ⟨C, nm, h1, h2, ?_⟩
  rcases h3 with ⟨a, b, c⟩ | ⟨d', vs, a, b, c, e⟩
  · exact .inl ⟨a, b, c⟩
  · exact .inr ⟨d', vs, a, st.h _ _ b, RDs.mono st.g c, e⟩
def eCHE (y : Exc) (den : Exc → List D → R D) (fa : FA) : FE := fun S => fa S >>= fun ds => (den y ds).nox
theorem d_callE {lv m n : Nat} {a : Addr} {y : Exc} {H0 G0 : Hp} {W : WX} {x : Str} {p : Pos} {es : List Expr} {fa : FA} (F : CalleeE X.prog X.w X.K X.mg X.base k lv x n den) (hr : L2H.RoomH m X.A) (hle : lv ≤ m) (hh : HeldE X k a y H0 G0) (ha : PA' X ⟨k.at a, H0, G0, W⟩ false (e :: es) fa) (hl : Len n fa)
    (hg : Gl X x := by rfl) (hdb : (x == ("__debug__" : Str)) = false := by decide)
    (hs : starEach (e :: es) X.env = (false, eval e X.env) :: starEach es X.env := by rfl) (hs2 : ((backTo pos (starEach es X.env)).any fun x => x.1) = false := by rfl) : PE' X ⟨k.at a, H0, G0, W⟩ .st (.Call (.Name x p) (e :: es) [] pos) (eCHE y den fa) := by
  obtain ⟨f, fd, ps, hn, ok, hm, hk, hb⟩ := F.ex
  obtain ⟨oe, cls, d, hin, hot, hz, hf, xr⟩ := hh.ex
  refine peI (L2H.pe_callE (E := fun _ => E0) (p := (a, oe)) ok (hr.mono hle) hot hin hg hm hk hb (fun σ => fun _ _ _ _ _ _ h => h.elim) ha hdb hs hs2) fun σ H Q ⟨G, S, rel, q⟩ => ?_
  have q : PostE ⟨k.at a, H0, G0, W⟩ .st G S σ H Q (fa S >>= fun ds => (den y ds).nox) := q
  refine ⟨G, S, rel, ?_⟩
  cases e0 : fa S with
  | exc x => rw [e0] at q; exact q
  | fail => rw [e0] at q; exact q
  | ok ds =>
    rw [e0] at q
    intro vs G1 H1 s1 q1
    have q1 : RDs (k.at a) G1 ds vs := q1
    have q : PostE ⟨k.at a, H0, G0, W⟩ .st G S σ H Q (den y ds).nox := q
    refine ⟨by rw [← q1.length]; exact hl S ds e0, y, cls, d, hz, hf, G1, ds, XR.step (G1 := G1) (H1 := H1) xr (rel.grow s1).st, s1.gh, q1, ?_⟩
    cases e1 : den y ds with
    | ok d => rw [e1] at q; exact fun v G' H' s2 r2 => q v G' H' (s1.trans s2) r2
    | exc x => rw [e1] at q; exact q.elim
    | fail => rw [e1] at q; exact q.elim
theorem s_tryE {x n : Str} {i : Nat} {body suite : List Stmt} {b₀ : Stmt} {np pos' : Pos} {hnd : Exc → FS} {mt : Nat → Option Bool} (T : TryC X.K X.mg c.k x mt) (hN : X.N.Nodup) (tk : L2N.Takes X c.W) (h0 : c.k.cl xix = none)
    (hb : ∀ (W : WX) (pn : List (Addr × Obj)) (xe : Value → Shared → Prop) (H0 G0 : Hp), L2N.Takes (X.tr pn xe) W → PassesOwn (model X.prog X.w) X.A X.env xe → PB1' (X.tr pn xe) ⟨c.k, H0, G0, W⟩ false as body s)
    (hsu : ∀ (a : Addr) (oe : Obj) (cls : Value) (d : Option Addr) (pn : List (Addr × Obj)) (H0 G0 : Hp) (y : Exc), Held (X.suite a ((a, oe) :: pn)) c.k a y H0 G0 → HeldE (X.suite a ((a, oe) :: pn)) c.k a y H0 G0 → L2H.HotC (X.suite a ((a, oe) :: pn)) →
      PB' (X.suite a ((a, oe) :: pn)) ⟨c.k.at a, H0, G0, liftX E0⟩ false bs (b₀ :: suite) (hnd y))
    (hi : X.N[i]? = some n := by rfl) (hln : X.env.kindOf n = some .local := by rfl) (hg : Gl X x := by rfl) (hdb : (x == ("__debug__" : Str)) = false := by decide) (hs : X.stack = X.env :: X.outer := by rfl) (hf : X.env.frame = some X.env.locals := by rfl) :
    PS' X c false as (.Try body [.ExceptHandler (some (.Name x np)) (some n) (b₀ :: suite) pos'] [] [] pos) (sTryAs mt i s hnd) := by
  obtain ⟨cv, hm, he⟩ := T.ex
  refine s_tryAs (bs := bs) hs hf hN hi hln ⟨hg, hdb, .inl hm⟩ tk h0 he hb fun a oe cls d pn H0 G0 y hz hv xr => ?_
  have hot : L2H.Hot1 (X.suite a ((a, oe) :: pn)).A (a, oe) := ⟨rfl, by obtain ⟨vs, e⟩ := hv; exact ⟨vs, e, hz.2.2 vs e⟩⟩
  have hh : HeldE (X.suite a ((a, oe) :: pn)) c.k a y H0 G0 := ⟨oe, cls, d, List.mem_cons_self .., hot, hz.zc, hv, xr⟩
  exact hsu a oe cls d pn H0 G0 y hh.held hh hh.hot
end
end M
set_option Elab.async false
set_option linter.all false
set_option maxRecDepth 100000
set_option maxHeartbeats 4000000
namespace Pf
open PySem L2 M
structure Bt (mg : Str → Option Value) : Prop where
  ValueError : mg "ValueError" = none
  abs : mg "abs" = none
  all : mg "all" = none
  any : mg "any" = none
  bool : mg "bool" = none
  int : mg "int" = none
  isinstance : mg "isinstance" = none
  len : mg "len" = none
  list : mg "list" = none
  max : mg "max" = none
  range : mg "range" = none
  set : mg "set" = none
  sorted : mg "sorted" = none
  tuple : mg "tuple" = none
section
variable {P : Program} {w : World} {K : PySem.W.Frag} {mg : Str → Option Value} {base : Heap} {cl : Nat → Option (Addr × List Str)}
def mt_BreachError : Nat → Option Bool := mtOf [(210, true)]
def xtab : Nat → D → Option Bool := xtabOf [((210, .cls 210), true), ((210, .cls 200), true), ((210, .ty "ValueError"), true), ((210, .cls 219), false), ((210, .cls 205), false), ((210, .cls 206), false), ((210, .cls 211), false), ((210, .cls 209), false), ((210, .cls 202), false), ((210, .cls 204), false), ((210, .cls 212), false)]
def m_Taking : FS :=
    (sSeq (sFldN 7 0 0 (eC (f1 tupD) (aC (eW 1) aN)))
    (sSeq (sFldN 7 0 1 (eC (f1 tupD) (aC (eC (f1 srtAD) (aC (eW 2) aN)) aN)))
    (sSeq (sIf (tO (tNo (tB' (e3 leD leD (eI (1)) (eC (f1 lenD) (aC (e1 (fldD 7 0) (eW 0)) aN)) (eG gv_MOST_TASKS)))) (tT' (eC (f1 anyD) (aC (lcE (fun S => (e1 (fldD 7 0) (eW 0)) S >>= itemsD) (gN 3) tY (eNot (e3 leD leD (eI (0)) (eW 3) (eG gv_MOST_TASKS))) [3]) aN)))) (sExc0 210) sNil)
    (sIf (tO (tT' (eC (f1 anyD) (aC (lcE (fun S => (eV 2) S >>= itemsD) (gN 4) tY (e2 notInA (eW 4) (eG gv_RULES)) [4]) aN))) (tB' (e2 ltD (e1 lenSetD (eW 2)) (eC (f1 lenD) (aC (eW 2) aN))))) (sExc0 210) sNil))))
def d_Taking : List D → R D := runN 5 7 m_Taking
theorem sc_Taking : FnScope ["self", "least", "rules", "entry", "rule"] ["self", "least", "rules"] (defScope st_Taking) := ⟨rfl, rfl, rfl, by decide +kernel, rfl, by decide +kernel, by decide +kernel⟩
theorem okS_Taking_ {C f : Addr} {fd : FuncData} (hdd : ∀ G, RDs ⟨K, cl⟩ G [] []) (F : FunD K "__init__" "Taking.__init__" (defArgs st_Taking) (defBody st_Taking) (defScope st_Taking) [] [] f fd) (hcl : cl 7 = some (C, (["least", "rules"] : List Str))) (mk : Mk K C f) (mgf : mg "Taking" = some (.ref C)) (B : Bt mg) (C_Taking : ClsI K ⟨K, cl⟩ 7 (["least", "rules"] : List Str)) (g_MOST_TASKS : Gc mg ⟨K, cl⟩ "MOST_TASKS" gv_MOST_TASKS) (R_InvalidHall : RaO K mg ⟨K, cl⟩ "InvalidHall" 210) (g_RULES : Gc mg ⟨K, cl⟩ "RULES" gv_RULES) : MakerXS P w K mg base ⟨K, cl⟩ 1 "Taking" 7 1 [] [] [] d_Taking := by
  have nd : (["self", "least", "rules", "entry", "rule"] : List Str).Nodup := sc_Taking.nd
  have sb := starB0 (ps := ["self", "least"]) (pv := "rules") F 2 fun _ _ _ _ _ _ us rest hl => match us, rest, hl with | [_, _], [], _ => rfl | [_, _], _ :: _, _ => rfl
  have sr : ∀ {vs : List V} {us : List Value} {zs : List V} {ws : List Value}, Vals vs us → Vals zs ws → Vals (vs ++ M.mergeK [] [] zs) us := fun r _ => by simpa [M.mergeK] using r
  have z := init_okS (P := P) (w := w) (mg := mg) (base := base) (k := ⟨K, cl⟩) (ci := 7) (lv := 0) (as := [1000, 1000]) (s := m_Taking) (N := ["self", "least", "rules", "entry", "rule"]) (ps := ["self", "least"]) (pv := "rules") F sc_Taking (by decide) sb (gV := fun vs zs => vs ++ M.mergeK [] [] zs) sr (by intro us ws l1 l2; simpa using l1) fun cdv A outer sh H H0 G0 E hr tk => by
    have hu := hr.units
    have hu5 := hr.units5
    exact (b_cons (s_fld 7 0 0 C_Taking rfl (d_btyp (c_tup rfl) B.tuple (d_ab (d_w 1) d_an)))
    (b_cons (s_fld 7 0 1 C_Taking rfl (d_btyp (c_tup rfl) B.tuple (d_ab (d_bltn (c_srtA rfl hu) B.sorted (d_ab (d_w 2) d_an)) d_an)))
    (b_cons (s_if (d_pw (d_or (d_not (d_tch (o_le) (o_le) d_int (d_bltn (c_len rfl) B.len (d_ab (d_fld 7 0 C_Taking rfl (d_w 0)) d_an)) (d_g g_MOST_TASKS))) (d_or1 (d_tt rfl (d_bltn (c_any rfl) B.any (d_ab (d_lc [("entry", 3)] rfl nd (i_seq rfl (d_fld 7 0 C_Taking rfl (d_w 0))) (blkOk_by (N := ["self", "least", "rules", "entry", "rule"]) (sc := (defScope st_Taking)) (by decide +kernel)) (fun _ _ _ _ _ => (g_n 3 nd)) (fun _ _ _ _ _ => ts_n) (fun _ _ _ _ _ => (d_vnot (d_ch (o_le) (o_le) d_int (d_w 3) (d_g g_MOST_TASKS))))) d_an)))))) (b_one (s_raise0 R_InvalidHall rfl tk)) b_nil)
    (b_one (s_if (d_pw (d_or (d_tt rfl (d_bltn (c_any rfl) B.any (d_ab (d_lc [("rule", 4)] rfl nd (i_seq rfl (d_v 2)) (blkOk_by (N := ["self", "least", "rules", "entry", "rule"]) (sc := (defScope st_Taking)) (by decide +kernel)) (fun _ _ _ _ _ => (g_n 4 nd)) (fun _ _ _ _ _ => ts_n) (fun _ _ _ _ _ => (d_cmp (o_notinA rfl hu5) (d_w 4) (d_g g_RULES)))) d_an))) (d_or1 (d_tc (o_lt) (d_lenSet rfl rfl hu B.len B.set (d_w 2)) (d_bltn (c_len rfl) B.len (d_ab (d_w 2) d_an)))))) (b_one (s_raise0 R_InvalidHall rfl tk)) b_nil)))))
  exact ⟨C, f, (["least", "rules"] : List Str), [], hcl, mk, mgf, hdd, rfl, rfl, z⟩
def m_Hall : FS :=
    (sSeq (sFldN 8 0 0 (eC (f1 tupD) (aC (lcE (fun S => (eV 1) S >>= itemsD) (gN 4) tY (eC (f1 tupD) (aC (eW 4) aN)) [4]) aN)))
    (sSeq (sFldN 8 0 1 (eV 2))
    (sSeq (sSet 3 (eC (f1 srtAD) (aC (lc2E (fun S => (e1 (fldD 8 0) (eW 0)) S >>= itemsD) (gN 4) tY (fun S => (eV 4) S >>= itemsD) (gN 5) tY (eV 5) [4, 5] [5]) aN)))
    (sSeq (sIf (tNo (tB' (e3 leD leD (eI (1)) (eC (f1 lenD) (aC (e1 (fldD 8 0) (eW 0)) aN)) (eG gv_MOST_QUEUES)))) (sExc0 210) sNil)
    (sIf (tO (tB' (e2 gtD (eC (f1 lenD) (aC (eW 3) aN)) (eG gv_MOST_TASKS))) (tB' (e2 neD (eW 3) (eLstRg (rg1 (eC (f1 lenD) (aC (eW 3) aN))))))) (sExc0 210) sNil)))))
def d_Hall : List D → R D := runN 6 8 m_Hall
theorem sc_Hall : FnScope ["self", "queues", "taking", "tasks", "queue", "task"] ["self", "queues", "taking"] (defScope st_Hall) := ⟨rfl, rfl, rfl, by decide +kernel, rfl, by decide +kernel, by decide +kernel⟩
theorem ok_Hall {C f : Addr} {fd : FuncData} (F : FunD K "__init__" "Hall.__init__" (defArgs st_Hall) (defBody st_Hall) (defScope st_Hall) [] [] f fd) (hcl : cl 8 = some (C, (["queues", "taking"] : List Str))) (mk : Mk K C f) (mgf : mg "Hall" = some (.ref C)) (B : Bt mg) (C_Hall : ClsI K ⟨K, cl⟩ 8 (["queues", "taking"] : List Str)) (g_MOST_QUEUES : Gc mg ⟨K, cl⟩ "MOST_QUEUES" gv_MOST_QUEUES) (R_InvalidHall : RaO K mg ⟨K, cl⟩ "InvalidHall" 210) (g_MOST_TASKS : Gc mg ⟨K, cl⟩ "MOST_TASKS" gv_MOST_TASKS) : MakerX P w K mg base ⟨K, cl⟩ 1 "Hall" 8 2 d_Hall := by
  have nd : (["self", "queues", "taking", "tasks", "queue", "task"] : List Str).Nodup := sc_Hall.nd
  have z := init_okX (P := P) (w := w) (mg := mg) (base := base) (k := ⟨K, cl⟩) (ci := 8) (lv := 0) (as := [1000, 1000, 3]) (s := m_Hall) F sc_Hall (by decide) fun cdv A outer sh H H0 G0 E hr tk => by
    have hu := hr.units
    have hu5 := hr.units5
    exact (b_cons (s_fld 8 0 0 C_Hall rfl (d_btyp (c_tup rfl) B.tuple (d_ab (d_lc [("queue", 4)] rfl nd (i_seq rfl (d_v 1)) (blkOk_by (N := ["self", "queues", "taking", "tasks", "queue", "task"]) (sc := (defScope st_Hall)) (by decide +kernel)) (fun _ _ _ _ _ => (g_n 4 nd)) (fun _ _ _ _ _ => ts_n) (fun _ _ _ _ _ => (d_btyp (c_tup rfl) B.tuple (d_ab (d_w 4) d_an)))) d_an)))
    (b_cons (s_fld 8 0 1 C_Hall rfl (d_v 2))
    (b_cons (s_set 3 nd (d_z (d_bltn (c_srtA rfl hu) B.sorted (d_ab (d_lc2 [("queue", 4), ("task", 5)] [5] rfl nd (i_seq rfl (d_fld 8 0 C_Hall rfl (d_w 0))) (blkOk_by (N := ["self", "queues", "taking", "tasks", "queue", "task"]) (sc := (defScope st_Hall)) (by decide +kernel)) (fun _ _ _ _ _ => (g_n 4 nd)) (fun _ _ _ _ _ => ts_n) (fun _ _ _ _ _ => (i_seq rfl (d_v 4))) (fun _ _ _ _ _ => (g_n 5 nd)) (fun _ _ _ _ _ => ts_n) (fun _ _ _ _ _ => (d_v 5))) d_an))))
    (b_cons (s_if (d_not (d_tch (o_le) (o_le) d_int (d_bltn (c_len rfl) B.len (d_ab (d_fld 8 0 C_Hall rfl (d_w 0)) d_an)) (d_g g_MOST_QUEUES))) (b_one (s_raise0 R_InvalidHall rfl tk)) b_nil)
    (b_one (s_if (d_pw (d_or (d_tc (o_gt) (d_bltn (c_len rfl) B.len (d_ab (d_w 3) d_an)) (d_g g_MOST_TASKS)) (d_or1 (d_tc (o_ne rfl hu) (d_w 3) (d_lstRg rfl B.list (d_rg1 B.range (d_bltn (c_len rfl) B.len (d_ab (d_w 3) d_an)))))))) (b_one (s_raise0 R_InvalidHall rfl tk)) b_nil))))))
  exact ⟨C, f, fd, ["self", "queues", "taking"], (["queues", "taking"] : List Str), rfl, hcl, mk, z, mgf, F.bindsN fun _ _ _ _ _ _ us hl => match us, hl with | [_, _, _], _ => rfl⟩
def m_Hall_start : FS :=
    (sRet (eT (aC (e1 (fldD 8 0) (eW 0)) (aC (e2 mulT (eT (aC (e1 negD (eI (1))) aN)) (eC (f1 lenD) (aC (e1 (fldD 8 0) (eW 0)) aN))) aN))))
def d_Hall_start : List D → R D := fun ds => (runF false 1 m_Hall_start ds).nox
theorem sc_Hall_start : FnScope ["self"] ["self"] (defScope st_Hall_start) := ⟨rfl, rfl, rfl, by decide +kernel, rfl, by decide +kernel, by decide +kernel⟩
theorem ok_Hall_start {C f : Addr} {fd : FuncData} (F : FunD K "start" "Hall.start" (defArgs st_Hall_start) (defBody st_Hall_start) (defScope st_Hall_start) [] [] f fd) (hcl : cl 8 = some (C, (["queues", "taking"] : List Str))) (mc : Cls K C) (mk : Meth K C "start" f) (B : Bt mg) (C_Hall : ClsI K ⟨K, cl⟩ 8 (["queues", "taking"] : List Str)) : Method P w K mg base ⟨K, cl⟩ 1 8 "start" 1 false d_Hall_start := by
  have nd : (["self"] : List Str).Nodup := sc_Hall_start.nd
  have z := fn_ok (P := P) (w := w) (mg := mg) (base := base) (k := ⟨K, cl⟩) (fr := false) (lv := 0) (as := []) (s := m_Hall_start) F sc_Hall_start fun cdv A outer sh H G0 hr => by
    have hu := hr.units
    have hu5 := hr.units5
    exact (b_one (s_ret (d_tup (d_ac (d_fld 8 0 C_Hall rfl (d_w 0)) (d_ac (d_op (o_mulT rfl) (d_tup (d_ac (d_un o_neg d_int) d_an)) (d_bltn (c_len rfl) B.len (d_ab (d_fld 8 0 C_Hall rfl (d_w 0)) d_an))) d_an)))))
  exact ⟨C, f, fd, ["self"], (["queues", "taking"] : List Str), rfl, hcl, by decide, mc, mk, z, F.bindsN fun _ _ _ _ _ _ us hl => match us, hl with | [_], _ => rfl⟩
def m__law_cell : FS :=
    (sSeq (sIf (tB' (e2 ltD (eW 1) (eC (f1 lenD) (aC (eW 0) aN)))) (sRet (e2 ixA (eW 0) (eW 1))) sNil)
    (sRet (eI (0))))
def d__law_cell : List D → R D := fun ds => (runF false 2 m__law_cell ds).nox
theorem sc__law_cell : FnScope ["_law_script", "_law_at"] ["_law_script", "_law_at"] (defScope st__law_cell) := ⟨rfl, rfl, rfl, by decide +kernel, rfl, by decide +kernel, by decide +kernel⟩
theorem ok__law_cell {f : Addr} {fd : FuncData} (F : FunD K "_law_cell" "_law_cell" (defArgs st__law_cell) (defBody st__law_cell) (defScope st__law_cell) [] [] f fd) (mgf : mg "_law_cell" = some (.ref f)) (B : Bt mg)  : Callee P w K mg base ⟨K, cl⟩ 1 "_law_cell" 2 false d__law_cell := by
  have nd : (["_law_script", "_law_at"] : List Str).Nodup := sc__law_cell.nd
  have z := fn_ok (P := P) (w := w) (mg := mg) (base := base) (k := ⟨K, cl⟩) (fr := false) (lv := 0) (as := []) (s := m__law_cell) F sc__law_cell fun cdv A outer sh H G0 hr => by
    have hu := hr.units
    have hu5 := hr.units5
    exact (b_cons (s_if (d_tc (o_lt) (d_w 1) (d_bltn (c_len rfl) B.len (d_ab (d_w 0) d_an))) (b_one (s_ret (d_ix (o_ixA rfl hu5) (d_w 0) (d_w 1)))) b_nil)
    (b_one (s_ret d_int)))
  exact ⟨f, fd, ["_law_script", "_law_at"], rfl, z, mgf, F.kp, F.bindsN fun _ _ _ _ _ _ us hl => match us, hl with | [_, _], _ => rfl⟩
def m__law_draws : FS :=
    (sSeq (sSet 3 (eC (f1 absD) (aC (eC d__law_cell (aC (eV 0) (aC (eV 1) aN))) aN)))
    (sSeq (sPar [4, 5] (aC (eI (0)) (aC (e2 modD (eC (f1 intD) (aC (e2 addD (eW 3) (e2 mulT (eW 1) (eI (7919)))) aN)) (eI (1000003))) aN)))
    (sSeq (sIf (tB' (e2 geD (eW 3) (e2 powD (eI (10)) (eI (18))))) (sSet 4 (e2 subD (eW 3) (e2 powD (eI (10)) (eI (18))))) sNil)
    (sSeq (sOwn 6 (eL aN))
    (sSeq (sFor (fun S => (aC (eW 2) aN) S >>= rng1) (gN 7) (sSeq (sSet 5 (e2 modD (eC (f1 intD) (aC (e2 addD (e2 addD (e2 mulT (eW 5) (eI (48271))) (eI (12345))) (eW 7)) aN)) (eI (1000003))))
    (sIf (tB' (e2 gtD (eW 4) (eI (0)))) (sSeq (sApp 6 (e2 modD (eC (f1 intD) (aC (eW 4) aN)) (eI (60))))
    (sSet 4 (e2 fdivD (eW 4) (eI (60))))) (sApp 6 (e2 modD (eC (f1 intD) (aC (e2 fdivD (eW 5) (eI (13))) aN)) (eI (60)))))))
    (sRetO 6))))))
def d__law_draws : List D → R D := fun ds => (runF true 8 m__law_draws ds).nox
theorem sc__law_draws : FnScope ["_law_script", "_law_at", "_law_count", "_law_cell_here", "_law_rest", "_law_mixed", "_law_found", "_law_k"] ["_law_script", "_law_at", "_law_count"] (defScope st__law_draws) := ⟨rfl, rfl, rfl, by decide +kernel, rfl, by decide +kernel, by decide +kernel⟩
theorem ok__law_draws {f : Addr} {fd : FuncData} (F : FunD K "_law_draws" "_law_draws" (defArgs st__law_draws) (defBody st__law_draws) (defScope st__law_draws) [] [] f fd) (mgf : mg "_law_draws" = some (.ref f)) (B : Bt mg) (h__law_cell : Callee P w K mg base ⟨K, cl⟩ 1 "_law_cell" 2 false d__law_cell) : Callee P w K mg base ⟨K, cl⟩ 2 "_law_draws" 3 true d__law_draws := by
  have nd : (["_law_script", "_law_at", "_law_count", "_law_cell_here", "_law_rest", "_law_mixed", "_law_found", "_law_k"] : List Str).Nodup := sc__law_draws.nd
  have z := fn_ok (P := P) (w := w) (mg := mg) (base := base) (k := ⟨K, cl⟩) (fr := true) (lv := 1) (as := [3, 4, 5, 4, 6, 7, 5, 1006, 4, 1006]) (s := m__law_draws) F sc__law_draws fun cdv A outer sh H G0 hr => by
    have hu := hr.units
    have hu5 := hr.units5
    exact (b_cons (s_set 3 nd (d_bltn (c_abs) B.abs (d_ab (d_callS (h__law_cell.at hr (by decide)) (d_ac (d_v 0) (d_ac (d_v 1) d_an)) (len_c (len_c len_n))) d_an)))
    (b_cons (s_par2 4 5 nd (d_ac d_int (d_ac (d_op (o_mod) (d_btyp (c_int) B.int (d_ab (d_op (o_add rfl) (d_w 3) (d_op (o_mulT rfl) (d_w 1) d_int)) d_an)) d_int) d_an)))
    (b_cons (s_if (d_tc (o_ge) (d_w 3) (d_op (o_pow) d_int d_int)) (b_one (s_set 4 nd (d_op (o_sub) (d_w 3) (d_op (o_pow) d_int d_int)))) b_nil)
    (b_cons (s_own 6 nd (d_lst d_an))
    (b_cons (s_for PassesOwn.never rfl (i_rng1 B.range (d_ab (d_w 2) d_an)) (g_n 7 nd) (b_cons (s_set 5 nd (d_op (o_mod) (d_btyp (c_int) B.int (d_ab (d_op (o_add rfl) (d_op (o_add rfl) (d_op (o_mulT rfl) (d_w 5) d_int) d_int) (d_w 7)) d_an)) d_int))
    (b_one (s_if (d_tc (o_gt) (d_w 4) d_int) (b_cons (s_app 6 (d_op (o_mod) (d_btyp (c_int) B.int (d_ab (d_w 4) d_an)) d_int))
    (b_one (s_set 4 nd (d_op (o_fdiv) (d_w 4) d_int)))) (b_one (s_app 6 (d_op (o_mod) (d_btyp (c_int) B.int (d_ab (d_op (o_fdiv) (d_w 5) d_int) d_an)) d_int)))))))
    (b_one (s_retO 6)))))))
  exact ⟨f, fd, ["_law_script", "_law_at", "_law_count"], rfl, z, mgf, F.kp, F.bindsN fun _ _ _ _ _ _ us hl => match us, hl with | [_, _, _], _ => rfl⟩
def m__law_whole : FS :=
    (sRet (eAnd (eC (f2 isiD) (aC (eW 0) (aC (eY "int") aN))) (eNot (eC (f2 isiD) (aC (eW 0) (aC (eY "bool") aN))))))
def d__law_whole : List D → R D := fun ds => (runF false 1 m__law_whole ds).nox
theorem sc__law_whole : FnScope ["_law_told"] ["_law_told"] (defScope st__law_whole) := ⟨rfl, rfl, rfl, by decide +kernel, rfl, by decide +kernel, by decide +kernel⟩
theorem ok__law_whole {f : Addr} {fd : FuncData} (F : FunD K "_law_whole" "_law_whole" (defArgs st__law_whole) (defBody st__law_whole) (defScope st__law_whole) [] [] f fd) (mgf : mg "_law_whole" = some (.ref f)) (B : Bt mg)  : Callee P w K mg base ⟨K, cl⟩ 1 "_law_whole" 1 false d__law_whole := by
  have nd : (["_law_told"] : List Str).Nodup := sc__law_whole.nd
  have z := fn_ok (P := P) (w := w) (mg := mg) (base := base) (k := ⟨K, cl⟩) (fr := false) (lv := 0) (as := []) (s := m__law_whole) F sc__law_whole fun cdv A outer sh H G0 hr => by
    have hu := hr.units
    have hu5 := hr.units5
    exact (b_one (s_ret (d_vand (d_bltn (c_isi rfl) B.isinstance (d_ab (d_w 0) (d_ab (d_ty "int" B.int) d_an))) (d_vone (d_vnot (d_bltn (c_isi rfl) B.isinstance (d_ab (d_w 0) (d_ab (d_ty "bool" B.bool) d_an))))))))
  exact ⟨f, fd, ["_law_told"], rfl, z, mgf, F.kp, F.bindsN fun _ _ _ _ _ _ us hl => match us, hl with | [_], _ => rfl⟩
def m__law_alone : Exc → FS := fun y =>
    (sSeq (sIf (tO (tNo (tT' (eC (f2 (isXD xtab y)) (aC (eW 0) (aC (eG (.cls 210)) aN))))) (tO (tNo (tT' (eC (f2 (isXD xtab y)) (aC (eW 0) (aC (eG (.cls 200)) aN))))) (tNo (tT' (eC (f2 (isXD xtab y)) (aC (eW 0) (aC (eY "ValueError") aN))))))) (sRet (eB false)) sNil)
    (sSeq (sSet 1 (eL (aC (eC (f2 (isXD xtab y)) (aC (eW 0) (aC (eG (.cls 219)) aN))) (aC (eC (f2 (isXD xtab y)) (aC (eW 0) (aC (eG (.cls 205)) aN))) (aC (eC (f2 (isXD xtab y)) (aC (eW 0) (aC (eG (.cls 206)) aN))) aN)))))
    (sSeq (sSet 1 (e2 addD (eW 1) (eL (aC (eC (f2 (isXD xtab y)) (aC (eW 0) (aC (eG (.cls 211)) aN))) (aC (eC (f2 (isXD xtab y)) (aC (eW 0) (aC (eG (.cls 209)) aN))) (aC (eC (f2 (isXD xtab y)) (aC (eW 0) (aC (eG (.cls 202)) aN))) aN))))))
    (sRet (eAnd (eNot (eC (f1 anyD) (aC (eW 1) aN))) (eAnd (eNot (eC (f2 (isXD xtab y)) (aC (eW 0) (aC (eG (.cls 204)) aN)))) (eNot (eC (f2 (isXD xtab y)) (aC (eW 0) (aC (eG (.cls 212)) aN))))))))))
def d__law_alone : Exc → List D → R D := fun y ds => (runF false 2 (m__law_alone y) ds).nox
theorem sc__law_alone : FnScope ["_law_e", "_law_kinds"] ["_law_e"] (defScope st__law_alone) := ⟨rfl, rfl, rfl, by decide +kernel, rfl, by decide +kernel, by decide +kernel⟩
theorem okE__law_alone {f : Addr} {fd : FuncData} (F : FunD K "_law_alone" "_law_alone" (defArgs st__law_alone) (defBody st__law_alone) (defScope st__law_alone) [] [] f fd) (mgf : mg "_law_alone" = some (.ref f)) (B : Bt mg) (h0 : cl xix = none) (hXT : ∀ ci t b, xtab ci t = some b → IsT K ⟨K, cl⟩ ci t b) (g_InvalidHall : Gc mg ⟨K, cl⟩ "InvalidHall" (.cls 210)) (g_BreachError : Gc mg ⟨K, cl⟩ "BreachError" (.cls 200)) (g_BadAct : Gc mg ⟨K, cl⟩ "BadAct" (.cls 219)) (g_InvalidChoice : Gc mg ⟨K, cl⟩ "InvalidChoice" (.cls 205)) (g_InvalidCore : Gc mg ⟨K, cl⟩ "InvalidCore" (.cls 206)) (g_InvalidHouse : Gc mg ⟨K, cl⟩ "InvalidHouse" (.cls 211)) (g_InvalidLevel : Gc mg ⟨K, cl⟩ "InvalidLevel" (.cls 209)) (g_InvalidSupply : Gc mg ⟨K, cl⟩ "InvalidSupply" (.cls 202)) (g_InvalidTask : Gc mg ⟨K, cl⟩ "InvalidTask" (.cls 204)) (g_TooLarge : Gc mg ⟨K, cl⟩ "TooLarge" (.cls 212)) : CalleeE P w K mg base ⟨K, cl⟩ 1 "_law_alone" 1 d__law_alone := by
  have nd : (["_law_e", "_law_kinds"] : List Str).Nodup := sc__law_alone.nd
  have z := fn_okE (P := P) (w := w) (mg := mg) (base := base) (k := ⟨K, cl⟩) (lv := 0) (as := [1, 1]) (s := m__law_alone) F sc__law_alone fun cdv A outer sh H G0 p y hr he => by
    have hh := he.held
    have ho := he.hot
    have hu := unitsH hr
    have hu5 := units5H hr
    exact (b_cons (s_if (d_pw (d_or (d_not (d_tt rfl (d_isX hh rfl hXT B.isinstance (d_ab (d_w 0) (d_ab (d_g (Gc.up h0 g_InvalidHall)) d_an))))) (d_or (d_not (d_tt rfl (d_isX hh rfl hXT B.isinstance (d_ab (d_w 0) (d_ab (d_g (Gc.up h0 g_BreachError)) d_an))))) (d_or1 (d_not (d_tt rfl (d_isX hh rfl hXT B.isinstance (d_ab (d_w 0) (d_ab (d_ty "ValueError" B.ValueError) d_an))))))))) (b_one (s_ret d_bl)) b_nil)
    (b_cons (s_set 1 nd (d_z (d_lst (d_ac (d_isX hh rfl hXT B.isinstance (d_ab (d_w 0) (d_ab (d_g (Gc.up h0 g_BadAct)) d_an))) (d_ac (d_isX hh rfl hXT B.isinstance (d_ab (d_w 0) (d_ab (d_g (Gc.up h0 g_InvalidChoice)) d_an))) (d_ac (d_isX hh rfl hXT B.isinstance (d_ab (d_w 0) (d_ab (d_g (Gc.up h0 g_InvalidCore)) d_an))) d_an))))))
    (b_cons (s_set 1 nd (d_op (o_add rfl) (d_w 1) (d_lst (d_ac (d_isX hh rfl hXT B.isinstance (d_ab (d_w 0) (d_ab (d_g (Gc.up h0 g_InvalidHouse)) d_an))) (d_ac (d_isX hh rfl hXT B.isinstance (d_ab (d_w 0) (d_ab (d_g (Gc.up h0 g_InvalidLevel)) d_an))) (d_ac (d_isX hh rfl hXT B.isinstance (d_ab (d_w 0) (d_ab (d_g (Gc.up h0 g_InvalidSupply)) d_an))) d_an))))))
    (b_one (s_ret (d_vand (d_vnot (d_bltn (c_anyH ho) B.any (d_ab (d_w 1) d_an))) (d_vand (d_vnot (d_isX hh rfl hXT B.isinstance (d_ab (d_w 0) (d_ab (d_g (Gc.up h0 g_InvalidTask)) d_an)))) (d_vone (d_vnot (d_isX hh rfl hXT B.isinstance (d_ab (d_w 0) (d_ab (d_g (Gc.up h0 g_TooLarge)) d_an))))))))))))
  exact ⟨f, fd, ["_law_e"], rfl, z, mgf, F.kp, F.bindsN fun _ _ _ _ _ _ us hl => match us, hl with | [_], _ => rfl⟩
def m__law_taking : FS :=
    (sSeq (sIf (tB' (e2 eqD (eC (f1 lenD) (aC (eW 1) aN)) (eI (0)))) (sRet (eCXS 1 [] [] d_Taking (aC (eV 0) aN) aN)) sNil)
    (sSeq (sIf (tB' (e2 eqD (eC (f1 lenD) (aC (eW 1) aN)) (eI (1)))) (sRet (eCXS 1 [] [] d_Taking (aC (eV 0) (aC (e2 ixA (eW 1) (eI (0))) aN)) aN)) sNil)
    (sSeq (sIf (tB' (e2 eqD (eC (f1 lenD) (aC (eW 1) aN)) (eI (2)))) (sRet (eCXS 1 [] [] d_Taking (aC (eV 0) (aC (e2 ixA (eW 1) (eI (0))) (aC (e2 ixA (eW 1) (eI (1))) aN))) aN)) sNil)
    (sSeq (sIf (tB' (e2 eqD (eC (f1 lenD) (aC (eW 1) aN)) (eI (3)))) (sRet (eCXS 1 [] [] d_Taking (aC (eV 0) (aC (e2 ixA (eW 1) (eI (0))) (aC (e2 ixA (eW 1) (eI (1))) (aC (e2 ixA (eW 1) (eI (2))) aN)))) aN)) sNil)
    (sRet (eCXS 1 [] [] d_Taking (aC (eV 0) (aC (e2 ixA (eW 1) (eI (0))) (aC (e2 ixA (eW 1) (eI (1))) (aC (e2 ixA (eW 1) (eI (2))) (aC (e2 ixA (eW 1) (eI (3))) aN))))) aN))))))
def d__law_taking : List D → R D := runF false 2 m__law_taking
theorem sc__law_taking : FnScope ["_law_least", "_law_rules"] ["_law_least", "_law_rules"] (defScope st__law_taking) := ⟨rfl, rfl, rfl, by decide +kernel, rfl, by decide +kernel, by decide +kernel⟩
theorem ok__law_taking {f : Addr} {fd : FuncData} (F : FunD K "_law_taking" "_law_taking" (defArgs st__law_taking) (defBody st__law_taking) (defScope st__law_taking) [] [] f fd) (mgf : mg "_law_taking" = some (.ref f)) (B : Bt mg) (mS_Taking_ : MakerXS P w K mg base ⟨K, cl⟩ 1 "Taking" 7 1 [] [] [] d_Taking) : CalleeX P w K mg base ⟨K, cl⟩ 3 "_law_taking" 2 false d__law_taking := by
  have nd : (["_law_least", "_law_rules"] : List Str).Nodup := sc__law_taking.nd
  have z := fn_okX (P := P) (w := w) (mg := mg) (base := base) (k := ⟨K, cl⟩) (fr := false) (lv := 2) (as := _) (s := m__law_taking) F sc__law_taking fun cdv A outer sh H G0 E hr tk => by
    have hu := hr.units
    have hu5 := hr.units5
    exact (b_cons (s_if (d_tc (o_eq rfl hu) (d_bltn (c_len rfl) B.len (d_ab (d_w 1) d_an)) d_int) (b_one (s_ret (d_z (d_makerXS (ks := []) mS_Taking_ hr (by decide) tk (d_ac (d_v 0) d_an) d_kn len_n)))) b_nil)
    (b_cons (s_if (d_tc (o_eq rfl hu) (d_bltn (c_len rfl) B.len (d_ab (d_w 1) d_an)) d_int) (b_one (s_ret (d_z (d_makerXS (ks := []) mS_Taking_ hr (by decide) tk (d_ac (d_v 0) (d_ac (d_ix (o_ixA rfl hu5) (d_w 1) d_int) d_an)) d_kn len_n)))) b_nil)
    (b_cons (s_if (d_tc (o_eq rfl hu) (d_bltn (c_len rfl) B.len (d_ab (d_w 1) d_an)) d_int) (b_one (s_ret (d_z (d_makerXS (ks := []) mS_Taking_ hr (by decide) tk (d_ac (d_v 0) (d_ac (d_ix (o_ixA rfl hu5) (d_w 1) d_int) (d_ac (d_ix (o_ixA rfl hu5) (d_w 1) d_int) d_an))) d_kn len_n)))) b_nil)
    (b_cons (s_if (d_tc (o_eq rfl hu) (d_bltn (c_len rfl) B.len (d_ab (d_w 1) d_an)) d_int) (b_one (s_ret (d_z (d_makerXS (ks := []) mS_Taking_ hr (by decide) tk (d_ac (d_v 0) (d_ac (d_ix (o_ixA rfl hu5) (d_w 1) d_int) (d_ac (d_ix (o_ixA rfl hu5) (d_w 1) d_int) (d_ac (d_ix (o_ixA rfl hu5) (d_w 1) d_int) d_an)))) d_kn len_n)))) b_nil)
    (b_one (s_ret (d_z (d_makerXS (ks := []) mS_Taking_ hr (by decide) tk (d_ac (d_v 0) (d_ac (d_ix (o_ixA rfl hu5) (d_w 1) d_int) (d_ac (d_ix (o_ixA rfl hu5) (d_w 1) d_int) (d_ac (d_ix (o_ixA rfl hu5) (d_w 1) d_int) (d_ac (d_ix (o_ixA rfl hu5) (d_w 1) d_int) d_an))))) d_kn len_n))))))))
  exact ⟨f, fd, ["_law_least", "_law_rules"], rfl, z, mgf, F.kp, F.bindsN fun _ _ _ _ _ _ us hl => match us, hl with | [_, _], _ => rfl⟩
def m__law_put : FS :=
    (sSeq (sSet 3 (e2 modD (eC (f1 intD) (aC (eW 1) aN)) (e2 addD (eC (f1 lenD) (aC (eW 0) aN)) (eI (1)))))
    (sRet (e2 addD (e2 addD (eSl (eW 0) oN (oS (eW 3))) (eL (aC (eV 2) aN))) (eSl (eW 0) (oS (eW 3)) oN))))
def d__law_put : List D → R D := fun ds => (runF false 4 m__law_put ds).nox
theorem sc__law_put : FnScope ["_law_row", "_law_place", "_law_thing", "_law_at"] ["_law_row", "_law_place", "_law_thing"] (defScope st__law_put) := ⟨rfl, rfl, rfl, by decide +kernel, rfl, by decide +kernel, by decide +kernel⟩
theorem ok__law_put {f : Addr} {fd : FuncData} (F : FunD K "_law_put" "_law_put" (defArgs st__law_put) (defBody st__law_put) (defScope st__law_put) [] [] f fd) (mgf : mg "_law_put" = some (.ref f)) (B : Bt mg)  : Callee P w K mg base ⟨K, cl⟩ 1 "_law_put" 3 false d__law_put := by
  have nd : (["_law_row", "_law_place", "_law_thing", "_law_at"] : List Str).Nodup := sc__law_put.nd
  have z := fn_ok (P := P) (w := w) (mg := mg) (base := base) (k := ⟨K, cl⟩) (fr := false) (lv := 0) (as := [3]) (s := m__law_put) F sc__law_put fun cdv A outer sh H G0 hr => by
    have hu := hr.units
    have hu5 := hr.units5
    exact (b_cons (s_set 3 nd (d_op (o_mod) (d_btyp (c_int) B.int (d_ab (d_w 1) d_an)) (d_op (o_add rfl) (d_bltn (c_len rfl) B.len (d_ab (d_w 0) d_an)) d_int)))
    (b_one (s_ret (d_op (o_add rfl) (d_op (o_add rfl) (d_sl rfl (d_w 0) d_on (d_os (d_w 3))) (d_lst (d_ac (d_v 2) d_an))) (d_sl rfl (d_w 0) (d_os (d_w 3)) d_on)))))
  exact ⟨f, fd, ["_law_row", "_law_place", "_law_thing"], rfl, z, mgf, F.kp, F.bindsN fun _ _ _ _ _ _ us hl => match us, hl with | [_, _, _], _ => rfl⟩
def m__law_book : FS :=
    (sSeq (sOwn 2 (lcE (fun S => (aC (e2 addD (eI (1)) (e2 modD (eC (f1 intD) (aC (e2 ixA (eW 0) (eI (0))) aN)) (eI (5)))) aN) S >>= rng1) (gN 1) tY (e2 modD (eC (f1 intD) (aC (e2 ixA (eW 0) (e2 addD (eI (1)) (eW 1))) aN)) (eI (6))) [1]))
    (sSeq (sPar [3, 4] (aC (eL (aC (eS "again") (aC (eS "any") (aC (eS "half") aN)))) (aC (eL aN) aN)))
    (sSeq (sFor (fun S => (aC (eI (3)) aN) S >>= rng1) (gN 1) (sIf (tB' (e2 eqD (e2 modD (eC (f1 intD) (aC (e2 fdivD (e2 ixA (eW 0) (eI (6))) (e2 ixA (eL (aC (eI (1)) (aC (eI (2)) (aC (eI (4)) aN)))) (eW 1))) aN)) (eI (2))) (eI (1)))) (sSet 4 (eC d__law_put (aC (eV 4) (aC (e2 ixA (eW 0) (e2 addD (eI (7)) (eW 1))) (aC (e2 ixA (eW 3) (eW 1)) aN))))) sNil))
    (sSeq (sAsg (gT 3 (gsC (gN 5) (gsC (gN 6) (gsC (gN 7) gsN)))) (eT (aC (e2 modD (eC (f1 intD) (aC (e2 ixA (eW 0) (eI (10))) aN)) (eI (12))) (aC (e2 modD (eC (f1 intD) (aC (e2 ixA (eW 0) (eI (11))) aN)) (eC (f1 lenD) (aC (eW 2) aN))) (aC (e2 ixA (eW 3) (e2 modD (eC (f1 intD) (aC (e2 ixA (eW 0) (eI (12))) aN)) (eI (3)))) aN)))))
    (sSeq (sIf (tB' (e2 eqD (eW 5) (eI (0)))) (sOwn 2 (eL aN)) sNil)
    (sSeq (sIf (tB' (e2 eqD (eW 5) (eI (1)))) (sSet 2 (eSl (e2 addD (eW 2) (eL (aC (eI (0)) (aC (eI (5)) (aC (eI (2)) (aC (eI (1)) (aC (eI (3)) aN))))))) oN (oS (eI (6))))) sNil)
    (sSeq (sIf (tB' (e2 eqD (eW 5) (eI (2)))) (sSub 2 (eW 6) (e2 addD (eI (6)) (e2 fdivD (e2 ixA (eW 0) (eI (12))) (eI (10))))) sNil)
    (sSeq (sIf (tB' (e2 eqD (eW 5) (eI (3)))) (sSub 2 (eW 6) (e2 subD (e1 negD (eI (1))) (e2 fdivD (e2 ixA (eW 0) (eI (12))) (eI (10))))) sNil)
    (sSeq (sIf (tB' (e2 eqD (eW 5) (eI (4)))) (sSet 4 (eC d__law_put (aC (eV 4) (aC (e2 ixA (eW 0) (eI (11))) (aC (e2 ixA (eL (aC (eS "all") (aC (eS "Any") (aC (eS "") (aC (eS "halves") (aC (eS "again ") aN)))))) (e2 modD (eC (f1 intD) (aC (e2 ixA (eW 0) (eI (12))) aN)) (eI (5)))) aN))))) sNil)
    (sSeq (sIf (tB' (e2 eqD (eW 5) (eI (5)))) (sSet 4 (eC d__law_put (aC (eC d__law_put (aC (lcE (fun S => (eV 4) S >>= itemsD) (gN 8) (tB' (e2 neD (eW 8) (eW 7))) (eV 8) [8]) (aC (e2 ixA (eW 0) (eI (11))) (aC (eV 7) aN)))) (aC (e2 ixA (eW 0) (eI (13))) (aC (eV 7) aN))))) sNil)
    (sFz 2 (sRet (eT (aC (eV 2) (aC (eV 4) aN)))))))))))))))
def d__law_book : List D → R D := fun ds => (runF false 9 m__law_book ds).nox
theorem sc__law_book : FnScope ["_law_d", "_law_k", "_law_least", "_law_names", "_law_rules", "_law_fault", "_law_at", "_law_name", "_law_rule"] ["_law_d"] (defScope st__law_book) := ⟨rfl, rfl, rfl, by decide +kernel, rfl, by decide +kernel, by decide +kernel⟩
theorem ok__law_book {f : Addr} {fd : FuncData} (F : FunD K "_law_book" "_law_book" (defArgs st__law_book) (defBody st__law_book) (defScope st__law_book) [] [] f fd) (mgf : mg "_law_book" = some (.ref f)) (B : Bt mg) (h__law_put : Callee P w K mg base ⟨K, cl⟩ 1 "_law_put" 3 false d__law_put) : Callee P w K mg base ⟨K, cl⟩ 2 "_law_book" 1 false d__law_book := by
  have nd : (["_law_d", "_law_k", "_law_least", "_law_names", "_law_rules", "_law_fault", "_law_at", "_law_name", "_law_rule"] : List Str).Nodup := sc__law_book.nd
  have z := fn_ok (P := P) (w := w) (mg := mg) (base := base) (k := ⟨K, cl⟩) (fr := false) (lv := 1) (as := [2, 3, 4, 1, 4, 5, 6, 7, 2, 2, 1002, 1002, 4, 4, 2]) (s := m__law_book) F sc__law_book fun cdv A outer sh H G0 hr => by
    have hu := hr.units
    have hu5 := hr.units5
    exact (b_cons (s_lc 2 [("_law_k", 1)] rfl nd (i_rng1 B.range (d_ab (d_op (o_add rfl) d_int (d_op (o_mod) (d_btyp (c_int) B.int (d_ab (d_ix (o_ixA rfl hu5) (d_w 0) d_int) d_an)) d_int)) d_an)) (blkOk_by (N := ["_law_d", "_law_k", "_law_least", "_law_names", "_law_rules", "_law_fault", "_law_at", "_law_name", "_law_rule"]) (sc := (defScope st__law_book)) (by decide +kernel)) (fun _ _ _ _ _ => (g_n 1 nd)) (fun _ _ _ _ _ => ts_n) (fun _ _ _ _ _ => (d_op (o_mod) (d_btyp (c_int) B.int (d_ab (d_ix (o_ixA rfl hu5) (d_w 0) (d_op (o_add rfl) d_int (d_w 1))) d_an)) d_int)))
    (b_cons (s_par2 3 4 nd (d_ac (d_z (d_lst (d_ac d_str (d_ac d_str (d_ac d_str d_an))))) (d_ac (d_z (d_lst d_an)) d_an)))
    (b_cons (s_for PassesOwn.never rfl (i_rng1 B.range (d_ab d_int d_an)) (g_n 1 nd) (b_one (s_if (d_tc (o_eq rfl hu) (d_op (o_mod) (d_btyp (c_int) B.int (d_ab (d_op (o_fdiv) (d_ix (o_ixA rfl hu5) (d_w 0) d_int) (d_ix (o_ixA rfl hu5) (d_lst (d_ac d_int (d_ac d_int (d_ac d_int d_an)))) (d_w 1))) d_an)) d_int) d_int) (b_one (s_set 4 nd (d_callS (h__law_put.at hr (by decide)) (d_ac (d_v 4) (d_ac (d_ix (o_ixA rfl hu5) (d_w 0) (d_op (o_add rfl) d_int (d_w 1))) (d_ac (d_ix (o_ixA rfl hu5) (d_w 3) (d_w 1)) d_an))) (len_c (len_c (len_c len_n)))))) b_nil)))
    (b_cons (s_asg (d_tup (d_ac (d_op (o_mod) (d_btyp (c_int) B.int (d_ab (d_ix (o_ixA rfl hu5) (d_w 0) d_int) d_an)) d_int) (d_ac (d_op (o_mod) (d_btyp (c_int) B.int (d_ab (d_ix (o_ixA rfl hu5) (d_w 0) d_int) d_an)) (d_bltn (c_len rfl) B.len (d_ab (d_w 2) d_an))) (d_ac (d_ix (o_ixA rfl hu5) (d_w 3) (d_op (o_mod) (d_btyp (c_int) B.int (d_ab (d_ix (o_ixA rfl hu5) (d_w 0) d_int) d_an)) d_int)) d_an)))) (g_t rfl rfl (gs_c (g_n 5 nd) (gs_c (g_n 6 nd) (gs_c (g_n 7 nd) gs_n)))))
    (b_cons (s_if (d_tc (o_eq rfl hu) (d_w 5) d_int) (b_one (s_own 2 nd (d_lst d_an))) b_nil)
    (b_cons (s_if (d_tc (o_eq rfl hu) (d_w 5) d_int) (b_one (s_set 2 nd (d_sl rfl (d_op (o_add rfl) (d_w 2) (d_lst (d_ac d_int (d_ac d_int (d_ac d_int (d_ac d_int (d_ac d_int d_an))))))) d_on (d_os d_int)))) b_nil)
    (b_cons (s_if (d_tc (o_eq rfl hu) (d_w 5) d_int) (b_one (s_sub 2 (d_op (o_add rfl) d_int (d_op (o_fdiv) (d_ix (o_ixA rfl hu5) (d_w 0) d_int) d_int)) (d_w 6))) b_nil)
    (b_cons (s_if (d_tc (o_eq rfl hu) (d_w 5) d_int) (b_one (s_sub 2 (d_op (o_sub) (d_un o_neg d_int) (d_op (o_fdiv) (d_ix (o_ixA rfl hu5) (d_w 0) d_int) d_int)) (d_w 6))) b_nil)
    (b_cons (s_if (d_tc (o_eq rfl hu) (d_w 5) d_int) (b_one (s_set 4 nd (d_callS (h__law_put.at hr (by decide)) (d_ac (d_v 4) (d_ac (d_ix (o_ixA rfl hu5) (d_w 0) d_int) (d_ac (d_ix (o_ixA rfl hu5) (d_lst (d_ac d_str (d_ac d_str (d_ac d_str (d_ac d_str (d_ac d_str d_an)))))) (d_op (o_mod) (d_btyp (c_int) B.int (d_ab (d_ix (o_ixA rfl hu5) (d_w 0) d_int) d_an)) d_int)) d_an))) (len_c (len_c (len_c len_n)))))) b_nil)
    (b_cons (s_if (d_tc (o_eq rfl hu) (d_w 5) d_int) (b_one (s_set 4 nd (d_callS (h__law_put.at hr (by decide)) (d_ac (d_callS (h__law_put.at hr (by decide)) (d_ac (d_z (d_lc [("_law_rule", 8)] rfl nd (i_seq rfl (d_v 4)) (blkOk_by (N := ["_law_d", "_law_k", "_law_least", "_law_names", "_law_rules", "_law_fault", "_law_at", "_law_name", "_law_rule"]) (sc := (defScope st__law_book)) (by decide +kernel)) (fun _ _ _ _ _ => (g_n 8 nd)) (fun _ _ _ _ _ => (ts_1 (d_tc (o_ne rfl hu) (d_w 8) (d_w 7)))) (fun _ _ _ _ _ => (d_v 8)))) (d_ac (d_ix (o_ixA rfl hu5) (d_w 0) d_int) (d_ac (d_v 7) d_an))) (len_c (len_c (len_c len_n)))) (d_ac (d_ix (o_ixA rfl hu5) (d_w 0) d_int) (d_ac (d_v 7) d_an))) (len_c (len_c (len_c len_n)))))) b_nil)
    (b_one (s_fz 2 (s_ret (d_tup (d_ac (d_v 2) (d_ac (d_v 4) d_an))))))))))))))))
  exact ⟨f, fd, ["_law_d"], rfl, z, mgf, F.kp, F.bindsN fun _ _ _ _ _ _ us hl => match us, hl with | [_], _ => rfl⟩
def m__law_good_book : FS :=
    (sSeq (sSet 2 (lcE (fun S => (eL (aC (eS "again") (aC (eS "any") (aC (eS "half") aN)))) S >>= itemsD) (gN 3) (tB' (e2 eqD (eCnt (eW 1) (eW 3)) (eI (1)))) (eV 3) [3]))
    (sRet (eAnd (e3 leD leD (eI (1)) (eC (f1 lenD) (aC (eW 0) aN)) (eI (5))) (eAnd (eC (f1 allD) (aC (lcE (fun S => (eV 0) S >>= itemsD) (gN 4) tY (e3 leD leD (eI (0)) (eW 4) (eI (5))) [4]) aN)) (e2 eqD (eC (f1 lenD) (aC (eW 2) aN)) (eC (f1 lenD) (aC (eW 1) aN)))))))
def d__law_good_book : List D → R D := fun ds => (runF false 5 m__law_good_book ds).nox
theorem sc__law_good_book : FnScope ["_law_least", "_law_rules", "_law_names", "_law_name", "_law_entry"] ["_law_least", "_law_rules"] (defScope st__law_good_book) := ⟨rfl, rfl, rfl, by decide +kernel, rfl, by decide +kernel, by decide +kernel⟩
theorem ok__law_good_book {f : Addr} {fd : FuncData} (F : FunD K "_law_good_book" "_law_good_book" (defArgs st__law_good_book) (defBody st__law_good_book) (defScope st__law_good_book) [] [] f fd) (mgf : mg "_law_good_book" = some (.ref f)) (B : Bt mg)  : Callee P w K mg base ⟨K, cl⟩ 1 "_law_good_book" 2 false d__law_good_book := by
  have nd : (["_law_least", "_law_rules", "_law_names", "_law_name", "_law_entry"] : List Str).Nodup := sc__law_good_book.nd
  have z := fn_ok (P := P) (w := w) (mg := mg) (base := base) (k := ⟨K, cl⟩) (fr := false) (lv := 0) (as := [2]) (s := m__law_good_book) F sc__law_good_book fun cdv A outer sh H G0 hr => by
    have hu := hr.units
    have hu5 := hr.units5
    exact (b_cons (s_lcZ 2 [("_law_name", 3)] rfl nd (i_seq rfl (d_z (d_lst (d_ac d_str (d_ac d_str (d_ac d_str d_an)))))) (blkOk_by (N := ["_law_least", "_law_rules", "_law_names", "_law_name", "_law_entry"]) (sc := (defScope st__law_good_book)) (by decide +kernel)) (fun _ _ _ _ _ => (g_n 3 nd)) (fun _ _ _ _ _ => (ts_1 (d_tc (o_eq rfl hu) (d_cnt rfl hu5 (d_w 1) (d_w 3)) d_int))) (fun _ _ _ _ _ => (d_v 3)))
    (b_one (s_ret (d_vand (d_ch (o_le) (o_le) d_int (d_bltn (c_len rfl) B.len (d_ab (d_w 0) d_an)) d_int) (d_vand (d_bltn (c_all rfl) B.all (d_ab (d_lc [("_law_entry", 4)] rfl nd (i_seq rfl (d_v 0)) (blkOk_by (N := ["_law_least", "_law_rules", "_law_names", "_law_name", "_law_entry"]) (sc := (defScope st__law_good_book)) (by decide +kernel)) (fun _ _ _ _ _ => (g_n 4 nd)) (fun _ _ _ _ _ => ts_n) (fun _ _ _ _ _ => (d_ch (o_le) (o_le) d_int (d_w 4) d_int))) d_an)) (d_vone (d_cmp (o_eq rfl hu) (d_bltn (c_len rfl) B.len (d_ab (d_w 2) d_an)) (d_bltn (c_len rfl) B.len (d_ab (d_w 1) d_an)))))))))
  exact ⟨f, fd, ["_law_least", "_law_rules"], rfl, z, mgf, F.kp, F.bindsN fun _ _ _ _ _ _ us hl => match us, hl with | [_, _], _ => rfl⟩
def m__law_queues : FS :=
    (sSeq (sPar [1, 2, 3] (aC (e2 modD (eC (f1 intD) (aC (e2 ixA (eW 0) (eI (0))) aN)) (eI (12))) (aC (e2 modD (eC (f1 intD) (aC (e2 ixA (eW 0) (eI (1))) aN)) (eI (6))) (aC (e2 addD (eI (1)) (e2 modD (eC (f1 intD) (aC (e2 ixA (eW 0) (eI (2))) aN)) (eI (3)))) aN))))
    (sSeq (sIf (tB' (e2 eqD (eW 1) (eI (2)))) (sSet 2 (eI (6))) sNil)
    (sSeq (sOwn 4 (lcE (fun S => (aC (eW 3) aN) S >>= rng1) (gN 7) tY (eL aN) [7]))
    (sSeq (sFor (fun S => (aC (eW 2) aN) S >>= rng1) (gN 5) (sSeq (sSet 6 (e2 modD (eC (f1 intD) (aC (e2 ixA (eW 0) (e2 addD (eI (3)) (eW 5))) aN)) (eW 3)))
    (sSub 4 (eW 6) (eC d__law_put (aC (e2 ixA (eW 4) (eW 6)) (aC (e2 fdivD (e2 ixA (eW 0) (e2 addD (eI (3)) (eW 5))) (eI (3))) (aC (eV 5) aN)))))))
    (sSeq (sSet 6 (e2 modD (eC (f1 intD) (aC (e2 ixA (eW 0) (eI (9))) aN)) (eW 3)))
    (sSeq (sIf (tB' (e2 eqD (eW 1) (eI (0)))) (sOwn 4 (eL aN)) sNil)
    (sSeq (sIf (tB' (e2 eqD (eW 1) (eI (1)))) (sSet 4 (eSl (e2 addD (e2 addD (eL (aC (eL aN) aN)) (eW 4)) (eL (aC (eL aN) (aC (eL aN) aN)))) oN (oS (eI (4))))) sNil)
    (sSeq (sIf (tB' (e2 eqD (eW 1) (eI (3)))) (sSub 4 (eW 6) (eC d__law_put (aC (e2 ixA (eW 4) (eW 6)) (aC (e2 ixA (eW 0) (eI (10))) (aC (e2 addD (e2 addD (eW 2) (eI (1))) (e2 modD (eC (f1 intD) (aC (e2 ixA (eW 0) (eI (11))) aN)) (eI (4)))) aN))))) sNil)
    (sSeq (sIf (tB' (e2 eqD (eW 1) (eI (4)))) (sSub 4 (eW 6) (eC d__law_put (aC (e2 ixA (eW 4) (eW 6)) (aC (e2 ixA (eW 0) (eI (10))) (aC (e2 modD (eC (f1 intD) (aC (e2 ixA (eW 0) (eI (11))) aN)) (eC (f2 max2D) (aC (eI (1)) (aC (eW 2) aN)))) aN))))) sNil)
    (sSeq (sIf (tB' (e2 eqD (eW 1) (eI (5)))) (sSub 4 (eW 6) (eC d__law_put (aC (e2 ixA (eW 4) (eW 6)) (aC (e2 ixA (eW 0) (eI (10))) (aC (e2 subD (e1 negD (eI (1))) (e2 modD (eC (f1 intD) (aC (e2 ixA (eW 0) (eI (11))) aN)) (eI (4)))) aN))))) sNil)
    (sFz 4 (sRet (eV 4)))))))))))))
def d__law_queues : List D → R D := fun ds => (runF false 8 m__law_queues ds).nox
theorem sc__law_queues : FnScope ["_law_d", "_law_fault", "_law_tasks", "_law_count", "_law_queues_here", "_law_task", "_law_at", "_law_k"] ["_law_d"] (defScope st__law_queues) := ⟨rfl, rfl, rfl, by decide +kernel, rfl, by decide +kernel, by decide +kernel⟩
theorem ok__law_queues {f : Addr} {fd : FuncData} (F : FunD K "_law_queues" "_law_queues" (defArgs st__law_queues) (defBody st__law_queues) (defScope st__law_queues) [] [] f fd) (mgf : mg "_law_queues" = some (.ref f)) (B : Bt mg) (h__law_put : Callee P w K mg base ⟨K, cl⟩ 1 "_law_put" 3 false d__law_put) : Callee P w K mg base ⟨K, cl⟩ 2 "_law_queues" 1 false d__law_queues := by
  have nd : (["_law_d", "_law_fault", "_law_tasks", "_law_count", "_law_queues_here", "_law_task", "_law_at", "_law_k"] : List Str).Nodup := sc__law_queues.nd
  have z := fn_ok (P := P) (w := w) (mg := mg) (base := base) (k := ⟨K, cl⟩) (fr := false) (lv := 1) (as := [1, 2, 3, 2, 4, 5, 6, 1004, 6, 4, 4, 1004, 1004, 1004, 4]) (s := m__law_queues) F sc__law_queues fun cdv A outer sh H G0 hr => by
    have hu := hr.units
    have hu5 := hr.units5
    exact (b_cons (s_par3 1 2 3 nd (d_ac (d_op (o_mod) (d_btyp (c_int) B.int (d_ab (d_ix (o_ixA rfl hu5) (d_w 0) d_int) d_an)) d_int) (d_ac (d_op (o_mod) (d_btyp (c_int) B.int (d_ab (d_ix (o_ixA rfl hu5) (d_w 0) d_int) d_an)) d_int) (d_ac (d_op (o_add rfl) d_int (d_op (o_mod) (d_btyp (c_int) B.int (d_ab (d_ix (o_ixA rfl hu5) (d_w 0) d_int) d_an)) d_int)) d_an))))
    (b_cons (s_if (d_tc (o_eq rfl hu) (d_w 1) d_int) (b_one (s_set 2 nd d_int)) b_nil)
    (b_cons (s_lc 4 [("_law_k", 7)] rfl nd (i_rng1 B.range (d_ab (d_w 3) d_an)) (blkOk_by (N := ["_law_d", "_law_fault", "_law_tasks", "_law_count", "_law_queues_here", "_law_task", "_law_at", "_law_k"]) (sc := (defScope st__law_queues)) (by decide +kernel)) (fun _ _ _ _ _ => (g_n 7 nd)) (fun _ _ _ _ _ => ts_n) (fun _ _ _ _ _ => (d_z (d_lst d_an))))
    (b_cons (s_for PassesOwn.never rfl (i_rng1 B.range (d_ab (d_w 2) d_an)) (g_n 5 nd) (b_cons (s_set 6 nd (d_op (o_mod) (d_btyp (c_int) B.int (d_ab (d_ix (o_ixA rfl hu5) (d_w 0) (d_op (o_add rfl) d_int (d_w 5))) d_an)) (d_w 3)))
    (b_one (s_sub 4 (d_callS (h__law_put.at hr (by decide)) (d_ac (d_ix (o_ixA rfl hu5) (d_w 4) (d_w 6)) (d_ac (d_op (o_fdiv) (d_ix (o_ixA rfl hu5) (d_w 0) (d_op (o_add rfl) d_int (d_w 5))) d_int) (d_ac (d_v 5) d_an))) (len_c (len_c (len_c len_n)))) (d_w 6)))))
    (b_cons (s_set 6 nd (d_op (o_mod) (d_btyp (c_int) B.int (d_ab (d_ix (o_ixA rfl hu5) (d_w 0) d_int) d_an)) (d_w 3)))
    (b_cons (s_if (d_tc (o_eq rfl hu) (d_w 1) d_int) (b_one (s_own 4 nd (d_lst d_an))) b_nil)
    (b_cons (s_if (d_tc (o_eq rfl hu) (d_w 1) d_int) (b_one (s_set 4 nd (d_sl rfl (d_op (o_add rfl) (d_op (o_add rfl) (d_lst (d_ac (d_z (d_lst d_an)) d_an)) (d_w 4)) (d_lst (d_ac (d_z (d_lst d_an)) (d_ac (d_z (d_lst d_an)) d_an)))) d_on (d_os d_int)))) b_nil)
    (b_cons (s_if (d_tc (o_eq rfl hu) (d_w 1) d_int) (b_one (s_sub 4 (d_callS (h__law_put.at hr (by decide)) (d_ac (d_ix (o_ixA rfl hu5) (d_w 4) (d_w 6)) (d_ac (d_ix (o_ixA rfl hu5) (d_w 0) d_int) (d_ac (d_op (o_add rfl) (d_op (o_add rfl) (d_w 2) d_int) (d_op (o_mod) (d_btyp (c_int) B.int (d_ab (d_ix (o_ixA rfl hu5) (d_w 0) d_int) d_an)) d_int)) d_an))) (len_c (len_c (len_c len_n)))) (d_w 6))) b_nil)
    (b_cons (s_if (d_tc (o_eq rfl hu) (d_w 1) d_int) (b_one (s_sub 4 (d_callS (h__law_put.at hr (by decide)) (d_ac (d_ix (o_ixA rfl hu5) (d_w 4) (d_w 6)) (d_ac (d_ix (o_ixA rfl hu5) (d_w 0) d_int) (d_ac (d_op (o_mod) (d_btyp (c_int) B.int (d_ab (d_ix (o_ixA rfl hu5) (d_w 0) d_int) d_an)) (d_bltn (c_max2 rfl) B.max (d_ab d_int (d_ab (d_w 2) d_an)))) d_an))) (len_c (len_c (len_c len_n)))) (d_w 6))) b_nil)
    (b_cons (s_if (d_tc (o_eq rfl hu) (d_w 1) d_int) (b_one (s_sub 4 (d_callS (h__law_put.at hr (by decide)) (d_ac (d_ix (o_ixA rfl hu5) (d_w 4) (d_w 6)) (d_ac (d_ix (o_ixA rfl hu5) (d_w 0) d_int) (d_ac (d_op (o_sub) (d_un o_neg d_int) (d_op (o_mod) (d_btyp (c_int) B.int (d_ab (d_ix (o_ixA rfl hu5) (d_w 0) d_int) d_an)) d_int)) d_an))) (len_c (len_c (len_c len_n)))) (d_w 6))) b_nil)
    (b_one (s_fz 4 (s_ret (d_v 4))))))))))))))
  exact ⟨f, fd, ["_law_d"], rfl, z, mgf, F.kp, F.bindsN fun _ _ _ _ _ _ us hl => match us, hl with | [_], _ => rfl⟩
def m__law_good_queues : FS :=
    (sSeq (sOwn 1 (eL aN))
    (sSeq (sFor (fun S => (eV 0) S >>= itemsD) (gN 2) (sExt 1 (eW 2)))
    (sRet (eAnd (e3 leD leD (eI (1)) (eC (f1 lenD) (aC (eW 0) aN)) (eI (3))) (eAnd (e2 leD (eC (f1 lenD) (aC (eW 1) aN)) (eI (5))) (e2 eqD (eC (f1 srtAD) (aC (eW 1) aN)) (eLstRg (rg1 (eC (f1 lenD) (aC (eW 1) aN))))))))))
def d__law_good_queues : List D → R D := fun ds => (runF false 3 m__law_good_queues ds).nox
theorem sc__law_good_queues : FnScope ["_law_queues_here", "_law_tasks", "_law_queue"] ["_law_queues_here"] (defScope st__law_good_queues) := ⟨rfl, rfl, rfl, by decide +kernel, rfl, by decide +kernel, by decide +kernel⟩
theorem ok__law_good_queues {f : Addr} {fd : FuncData} (F : FunD K "_law_good_queues" "_law_good_queues" (defArgs st__law_good_queues) (defBody st__law_good_queues) (defScope st__law_good_queues) [] [] f fd) (mgf : mg "_law_good_queues" = some (.ref f)) (B : Bt mg)  : Callee P w K mg base ⟨K, cl⟩ 1 "_law_good_queues" 1 false d__law_good_queues := by
  have nd : (["_law_queues_here", "_law_tasks", "_law_queue"] : List Str).Nodup := sc__law_good_queues.nd
  have z := fn_ok (P := P) (w := w) (mg := mg) (base := base) (k := ⟨K, cl⟩) (fr := false) (lv := 0) (as := [1, 2, 1001]) (s := m__law_good_queues) F sc__law_good_queues fun cdv A outer sh H G0 hr => by
    have hu := hr.units
    have hu5 := hr.units5
    exact (b_cons (s_own 1 nd (d_lst d_an))
    (b_cons (s_for PassesOwn.never rfl (i_seq rfl (d_v 0)) (g_n 2 nd) (b_one (s_ext 1 (d_w 2))))
    (b_one (s_ret (d_vand (d_ch (o_le) (o_le) d_int (d_bltn (c_len rfl) B.len (d_ab (d_w 0) d_an)) d_int) (d_vand (d_cmp (o_le) (d_bltn (c_len rfl) B.len (d_ab (d_w 1) d_an)) d_int) (d_vone (d_cmp (o_eq rfl hu) (d_bltn (c_srtA rfl hu) B.sorted (d_ab (d_w 1) d_an)) (d_lstRg rfl B.list (d_rg1 B.range (d_bltn (c_len rfl) B.len (d_ab (d_w 1) d_an))))))))))))
  exact ⟨f, fd, ["_law_queues_here"], rfl, z, mgf, F.kp, F.bindsN fun _ _ _ _ _ _ us hl => match us, hl with | [_], _ => rfl⟩
def m__law_book_refused : FS :=
    (sSeq (sTryAs mt_BreachError 2 (sDrop (eCX d__law_taking (aC (eV 0) (aC (eV 1) aN)))) fun y => (sRet (eCHE y d__law_alone (aC (eV 2) aN))))
    (sRet (eB false)))
def d__law_book_refused : List D → R D := fun ds => (runF false 3 m__law_book_refused ds).nox
theorem sc__law_book_refused : FnScope ["_law_least", "_law_rules", "_law_e"] ["_law_least", "_law_rules"] (defScope st__law_book_refused) := ⟨rfl, rfl, rfl, by decide +kernel, rfl, by decide +kernel, by decide +kernel⟩
theorem ok__law_book_refused {f : Addr} {fd : FuncData} (F : FunD K "_law_book_refused" "_law_book_refused" (defArgs st__law_book_refused) (defBody st__law_book_refused) (defScope st__law_book_refused) [] [] f fd) (mgf : mg "_law_book_refused" = some (.ref f)) (B : Bt mg) (Y_BreachError : TryC K mg ⟨K, cl⟩ "BreachError" mt_BreachError) (h0 : cl xix = none) (h__law_taking : CalleeX P w K mg base ⟨K, cl⟩ 3 "_law_taking" 2 false d__law_taking) (hE__law_alone : CalleeE P w K mg base ⟨K, cl⟩ 1 "_law_alone" 1 d__law_alone) : Callee P w K mg base ⟨K, cl⟩ 4 "_law_book_refused" 2 false d__law_book_refused := by
  have nd : (["_law_least", "_law_rules", "_law_e"] : List Str).Nodup := sc__law_book_refused.nd
  have z := fn_ok (P := P) (w := w) (mg := mg) (base := base) (k := ⟨K, cl⟩) (fr := false) (lv := 3) (as := []) (s := m__law_book_refused) F sc__law_book_refused fun cdv A outer sh H G0 hr => by
    have hu := hr.units
    have hu5 := hr.units5
    exact (b_cons (s_tryE Y_BreachError nd takes0 h0 (fun W pn xe H0 G0 tkW pa => (b1_one (s1_drop (d_callXS h__law_taking hr (by decide) tkW (d_ac (d_v 0) (d_ac (d_v 1) d_an)) (len_c (len_c len_n)))))) (fun a oe cls d pn H0 G0 y hh he ho => (b_one (s_ret (d_callE hE__law_alone (roomS hr) (by decide) he (d_ac (d_v 2) d_an) (len_c len_n))))))
    (b_one (s_ret d_bl)))
  exact ⟨f, fd, ["_law_least", "_law_rules"], rfl, z, mgf, F.kp, F.bindsN fun _ _ _ _ _ _ us hl => match us, hl with | [_, _], _ => rfl⟩
def m__law_hall_refused : FS :=
    (sSeq (sTryAs mt_BreachError 2 (sDrop (eCX d_Hall (aC (eV 0) (aC (eV 1) aN)))) fun y => (sRet (eCHE y d__law_alone (aC (eV 2) aN))))
    (sRet (eB false)))
def d__law_hall_refused : List D → R D := fun ds => (runF false 3 m__law_hall_refused ds).nox
theorem sc__law_hall_refused : FnScope ["_law_queues_here", "_law_taking_here", "_law_e"] ["_law_queues_here", "_law_taking_here"] (defScope st__law_hall_refused) := ⟨rfl, rfl, rfl, by decide +kernel, rfl, by decide +kernel, by decide +kernel⟩
theorem ok__law_hall_refused {f : Addr} {fd : FuncData} (F : FunD K "_law_hall_refused" "_law_hall_refused" (defArgs st__law_hall_refused) (defBody st__law_hall_refused) (defScope st__law_hall_refused) [] [] f fd) (mgf : mg "_law_hall_refused" = some (.ref f)) (B : Bt mg) (Y_BreachError : TryC K mg ⟨K, cl⟩ "BreachError" mt_BreachError) (h0 : cl xix = none) (h_Hall : MakerX P w K mg base ⟨K, cl⟩ 1 "Hall" 8 2 d_Hall) (hE__law_alone : CalleeE P w K mg base ⟨K, cl⟩ 1 "_law_alone" 1 d__law_alone) : Callee P w K mg base ⟨K, cl⟩ 3 "_law_hall_refused" 2 false d__law_hall_refused := by
  have nd : (["_law_queues_here", "_law_taking_here", "_law_e"] : List Str).Nodup := sc__law_hall_refused.nd
  have z := fn_ok (P := P) (w := w) (mg := mg) (base := base) (k := ⟨K, cl⟩) (fr := false) (lv := 2) (as := []) (s := m__law_hall_refused) F sc__law_hall_refused fun cdv A outer sh H G0 hr => by
    have hu := hr.units
    have hu5 := hr.units5
    exact (b_cons (s_tryE Y_BreachError nd takes0 h0 (fun W pn xe H0 G0 tkW pa => (b1_one (s1_drop (d_makerX h_Hall hr (by decide) tkW (d_ac (d_v 0) (d_ac (d_v 1) d_an)) (len_c (len_c len_n)))))) (fun a oe cls d pn H0 G0 y hh he ho => (b_one (s_ret (d_callE hE__law_alone (roomS hr) (by decide) he (d_ac (d_v 2) d_an) (len_c len_n))))))
    (b_one (s_ret d_bl)))
  exact ⟨f, fd, ["_law_queues_here", "_law_taking_here"], rfl, z, mgf, F.kp, F.bindsN fun _ _ _ _ _ _ us hl => match us, hl with | [_, _], _ => rfl⟩
def m__law_book_told : FS :=
    (sSeq (sIf (tO (tNo (tT' (eC (f2 (isiC 7)) (aC (eW 0) (aC (eG (.cls 7)) aN))))) (tO (tNo (tT' (eC (f2 isiD) (aC (e1 (fldD 7 0) (eW 0)) (aC (eY "tuple") aN))))) (tNo (tT' (eC (f2 isiD) (aC (e1 (fldD 7 1) (eW 0)) (aC (eY "tuple") aN))))))) (sRet (eB false)) sNil)
    (sSeq (sIf (tO (tB' (e2 neD (eC (f1 lstD) (aC (e1 (fldD 7 0) (eW 0)) aN)) (eW 1))) (tNo (tT' (eC (f1 allD) (aC (lcE (fun S => (e1 (fldD 7 0) (eW 0)) S >>= itemsD) (gN 3) tY (eC d__law_whole (aC (eV 3) aN)) [3]) aN))))) (sRet (eB false)) sNil)
    (sRet (e2 eqD (eC (f1 lstD) (aC (e1 (fldD 7 1) (eW 0)) aN)) (eC (f1 srtAD) (aC (eW 2) aN))))))
def d__law_book_told : List D → R D := fun ds => (runF false 4 m__law_book_told ds).nox
theorem sc__law_book_told : FnScope ["_law_taking_here", "_law_least", "_law_rules", "_law_entry"] ["_law_taking_here", "_law_least", "_law_rules"] (defScope st__law_book_told) := ⟨rfl, rfl, rfl, by decide +kernel, rfl, by decide +kernel, by decide +kernel⟩
theorem ok__law_book_told {f : Addr} {fd : FuncData} (F : FunD K "_law_book_told" "_law_book_told" (defArgs st__law_book_told) (defBody st__law_book_told) (defScope st__law_book_told) [] [] f fd) (mgf : mg "_law_book_told" = some (.ref f)) (B : Bt mg) (T_Taking : ClsT K ⟨K, cl⟩ 7) (g_Taking : Gc mg ⟨K, cl⟩ "Taking" (.cls 7)) (C_Taking : ClsI K ⟨K, cl⟩ 7 (["least", "rules"] : List Str)) (h__law_whole : Callee P w K mg base ⟨K, cl⟩ 1 "_law_whole" 1 false d__law_whole) : Callee P w K mg base ⟨K, cl⟩ 2 "_law_book_told" 3 false d__law_book_told := by
  have nd : (["_law_taking_here", "_law_least", "_law_rules", "_law_entry"] : List Str).Nodup := sc__law_book_told.nd
  have z := fn_ok (P := P) (w := w) (mg := mg) (base := base) (k := ⟨K, cl⟩) (fr := false) (lv := 1) (as := []) (s := m__law_book_told) F sc__law_book_told fun cdv A outer sh H G0 hr => by
    have hu := hr.units
    have hu5 := hr.units5
    exact (b_cons (s_if (d_pw (d_or (d_not (d_tt rfl (d_bltn (c_isiC T_Taking) B.isinstance (d_ab (d_w 0) (d_ab (d_g g_Taking) d_an))))) (d_or (d_not (d_tt rfl (d_bltn (c_isi rfl) B.isinstance (d_ab (d_fld 7 0 C_Taking rfl (d_w 0)) (d_ab (d_ty "tuple" B.tuple) d_an))))) (d_or1 (d_not (d_tt rfl (d_bltn (c_isi rfl) B.isinstance (d_ab (d_fld 7 1 C_Taking rfl (d_w 0)) (d_ab (d_ty "tuple" B.tuple) d_an))))))))) (b_one (s_ret d_bl)) b_nil)
    (b_cons (s_if (d_pw (d_or (d_tc (o_ne rfl hu) (d_btyp (c_lst rfl) B.list (d_ab (d_fld 7 0 C_Taking rfl (d_w 0)) d_an)) (d_w 1)) (d_or1 (d_not (d_tt rfl (d_bltn (c_all rfl) B.all (d_ab (d_lc [("_law_entry", 3)] rfl nd (i_seq rfl (d_fld 7 0 C_Taking rfl (d_w 0))) (blkOk_by (N := ["_law_taking_here", "_law_least", "_law_rules", "_law_entry"]) (sc := (defScope st__law_book_told)) (by decide +kernel)) (fun _ _ _ _ _ => (g_n 3 nd)) (fun _ _ _ _ _ => ts_n) (fun _ _ _ _ _ => (d_callS (h__law_whole.at hr (by decide)) (d_ac (d_v 3) d_an) (len_c len_n)))) d_an))))))) (b_one (s_ret d_bl)) b_nil)
    (b_one (s_ret (d_cmp (o_eq rfl hu) (d_btyp (c_lst rfl) B.list (d_ab (d_fld 7 1 C_Taking rfl (d_w 0)) d_an)) (d_bltn (c_srtA rfl hu) B.sorted (d_ab (d_w 2) d_an)))))))
  exact ⟨f, fd, ["_law_taking_here", "_law_least", "_law_rules"], rfl, z, mgf, F.kp, F.bindsN fun _ _ _ _ _ _ us hl => match us, hl with | [_, _, _], _ => rfl⟩
def m__law_rows_told : FS :=
    (sSeq (sIf (tO (tNo (tT' (eC (f2 isiD) (aC (eW 0) (aC (eY "tuple") aN))))) (tB' (e2 neD (eC (f1 lenD) (aC (eW 0) aN)) (eC (f1 lenD) (aC (eW 1) aN))))) (sRet (eB false)) sNil)
    (sSeq (sFor (fun S => (aC (eC (f1 lenD) (aC (eW 1) aN)) aN) S >>= rng1) (gN 2) (sIf (tO (tNo (tT' (eC (f2 isiD) (aC (e2 ixA (eW 0) (eW 2)) (aC (eY "tuple") aN))))) (tO (tB' (e2 neD (eC (f1 lstD) (aC (e2 ixA (eW 0) (eW 2)) aN)) (e2 ixA (eW 1) (eW 2)))) (tNo (tT' (eC (f1 allD) (aC (lcE (fun S => (e2 ixA (eW 0) (eW 2)) S >>= itemsD) (gN 3) tY (eC d__law_whole (aC (eV 3) aN)) [3]) aN)))))) (sRet (eB false)) sNil))
    (sRet (eB true))))
def d__law_rows_told : List D → R D := fun ds => (runF false 4 m__law_rows_told ds).nox
theorem sc__law_rows_told : FnScope ["_law_told", "_law_rows", "_law_k", "_law_x"] ["_law_told", "_law_rows"] (defScope st__law_rows_told) := ⟨rfl, rfl, rfl, by decide +kernel, rfl, by decide +kernel, by decide +kernel⟩
theorem ok__law_rows_told {f : Addr} {fd : FuncData} (F : FunD K "_law_rows_told" "_law_rows_told" (defArgs st__law_rows_told) (defBody st__law_rows_told) (defScope st__law_rows_told) [] [] f fd) (mgf : mg "_law_rows_told" = some (.ref f)) (B : Bt mg) (h__law_whole : Callee P w K mg base ⟨K, cl⟩ 1 "_law_whole" 1 false d__law_whole) : Callee P w K mg base ⟨K, cl⟩ 2 "_law_rows_told" 2 false d__law_rows_told := by
  have nd : (["_law_told", "_law_rows", "_law_k", "_law_x"] : List Str).Nodup := sc__law_rows_told.nd
  have z := fn_ok (P := P) (w := w) (mg := mg) (base := base) (k := ⟨K, cl⟩) (fr := false) (lv := 1) (as := [2]) (s := m__law_rows_told) F sc__law_rows_told fun cdv A outer sh H G0 hr => by
    have hu := hr.units
    have hu5 := hr.units5
    exact (b_cons (s_if (d_pw (d_or (d_not (d_tt rfl (d_bltn (c_isi rfl) B.isinstance (d_ab (d_w 0) (d_ab (d_ty "tuple" B.tuple) d_an))))) (d_or1 (d_tc (o_ne rfl hu) (d_bltn (c_len rfl) B.len (d_ab (d_w 0) d_an)) (d_bltn (c_len rfl) B.len (d_ab (d_w 1) d_an)))))) (b_one (s_ret d_bl)) b_nil)
    (b_cons (s_for PassesOwn.never rfl (i_rng1 B.range (d_ab (d_bltn (c_len rfl) B.len (d_ab (d_w 1) d_an)) d_an)) (g_n 2 nd) (b_one (s_if (d_pw (d_or (d_not (d_tt rfl (d_bltn (c_isi rfl) B.isinstance (d_ab (d_ix (o_ixA rfl hu5) (d_w 0) (d_w 2)) (d_ab (d_ty "tuple" B.tuple) d_an))))) (d_or (d_tc (o_ne rfl hu) (d_btyp (c_lst rfl) B.list (d_ab (d_ix (o_ixA rfl hu5) (d_w 0) (d_w 2)) d_an)) (d_ix (o_ixA rfl hu5) (d_w 1) (d_w 2))) (d_or1 (d_not (d_tt rfl (d_bltn (c_all rfl) B.all (d_ab (d_lc [("_law_x", 3)] rfl nd (i_seq rfl (d_ix (o_ixA rfl hu5) (d_w 0) (d_w 2))) (blkOk_by (N := ["_law_told", "_law_rows", "_law_k", "_law_x"]) (sc := (defScope st__law_rows_told)) (by decide +kernel)) (fun _ _ _ _ _ => (g_n 3 nd)) (fun _ _ _ _ _ => ts_n) (fun _ _ _ _ _ => (d_callS (h__law_whole.at hr (by decide)) (d_ac (d_v 3) d_an) (len_c len_n)))) d_an)))))))) (b_one (s_ret d_bl)) b_nil)))
    (b_one (s_ret d_bl))))
  exact ⟨f, fd, ["_law_told", "_law_rows"], rfl, z, mgf, F.kp, F.bindsN fun _ _ _ _ _ _ us hl => match us, hl with | [_, _], _ => rfl⟩
def m__law_hall_told : FS :=
    (sSeq (sSet 4 (eM 8 d_Hall_start (eV 0) fun _ => .ok []))
    (sSeq (sIf (tO (tNo (tT' (eC (f2 isiD) (aC (eW 4) (aC (eY "tuple") aN))))) (tO (tB' (e2 neD (eC (f1 lenD) (aC (eW 4) aN)) (eI (2)))) (tNo (tT' (eC d__law_rows_told (aC (e2 ixA (eW 4) (eI (0))) (aC (eV 1) aN))))))) (sRet (eB false)) sNil)
    (sSeq (sIf (tNo (tT' (eC d__law_rows_told (aC (eSl (eW 4) (oS (eI (1))) oN) (aC (eL (aC (lcE (fun S => (eV 1) S >>= itemsD) (gN 5) tY (e1 negD (eI (1))) [5]) aN)) aN))))) (sRet (eB false)) sNil)
    (sRet (eAnd (eC d__law_rows_told (aC (e1 (fldD 8 0) (eW 0)) (aC (eV 1) aN))) (eC d__law_book_told (aC (e1 (fldD 8 1) (eW 0)) (aC (eV 2) (aC (eV 3) aN)))))))))
def d__law_hall_told : List D → R D := fun ds => (runF false 6 m__law_hall_told ds).nox
theorem sc__law_hall_told : FnScope ["_law_hall", "_law_queues_here", "_law_least", "_law_rules", "_law_start", "_law_queue"] ["_law_hall", "_law_queues_here", "_law_least", "_law_rules"] (defScope st__law_hall_told) := ⟨rfl, rfl, rfl, by decide +kernel, rfl, by decide +kernel, by decide +kernel⟩
theorem ok__law_hall_told {f : Addr} {fd : FuncData} (F : FunD K "_law_hall_told" "_law_hall_told" (defArgs st__law_hall_told) (defBody st__law_hall_told) (defScope st__law_hall_told) [] [] f fd) (mgf : mg "_law_hall_told" = some (.ref f)) (B : Bt mg) (h_Hall_start : Method P w K mg base ⟨K, cl⟩ 1 8 "start" 1 false d_Hall_start) (h__law_rows_told : Callee P w K mg base ⟨K, cl⟩ 2 "_law_rows_told" 2 false d__law_rows_told) (C_Hall : ClsI K ⟨K, cl⟩ 8 (["queues", "taking"] : List Str)) (h__law_book_told : Callee P w K mg base ⟨K, cl⟩ 2 "_law_book_told" 3 false d__law_book_told) : Callee P w K mg base ⟨K, cl⟩ 3 "_law_hall_told" 4 false d__law_hall_told := by
  have nd : (["_law_hall", "_law_queues_here", "_law_least", "_law_rules", "_law_start", "_law_queue"] : List Str).Nodup := sc__law_hall_told.nd
  have z := fn_ok (P := P) (w := w) (mg := mg) (base := base) (k := ⟨K, cl⟩) (fr := false) (lv := 2) (as := [4]) (s := m__law_hall_told) F sc__law_hall_told fun cdv A outer sh H G0 hr => by
    have hu := hr.units
    have hu5 := hr.units5
    exact (b_cons (s_set 4 nd (d_meth0S 8 h_Hall_start hr (by decide) (d_v 0)))
    (b_cons (s_if (d_pw (d_or (d_not (d_tt rfl (d_bltn (c_isi rfl) B.isinstance (d_ab (d_w 4) (d_ab (d_ty "tuple" B.tuple) d_an))))) (d_or (d_tc (o_ne rfl hu) (d_bltn (c_len rfl) B.len (d_ab (d_w 4) d_an)) d_int) (d_or1 (d_not (d_tt rfl (d_callS (h__law_rows_told.at hr (by decide)) (d_ac (d_ix (o_ixA rfl hu5) (d_w 4) d_int) (d_ac (d_v 1) d_an)) (len_c (len_c len_n))))))))) (b_one (s_ret d_bl)) b_nil)
    (b_cons (s_if (d_not (d_tt rfl (d_callS (h__law_rows_told.at hr (by decide)) (d_ac (d_sl rfl (d_w 4) (d_os d_int) d_on) (d_ac (d_z (d_lst (d_ac (d_z (d_lc [("_law_queue", 5)] rfl nd (i_seq rfl (d_v 1)) (blkOk_by (N := ["_law_hall", "_law_queues_here", "_law_least", "_law_rules", "_law_start", "_law_queue"]) (sc := (defScope st__law_hall_told)) (by decide +kernel)) (fun _ _ _ _ _ => (g_n 5 nd)) (fun _ _ _ _ _ => ts_n) (fun _ _ _ _ _ => (d_un o_neg d_int)))) d_an))) d_an)) (len_c (len_c len_n))))) (b_one (s_ret d_bl)) b_nil)
    (b_one (s_ret (d_vand (d_callS (h__law_rows_told.at hr (by decide)) (d_ac (d_fld 8 0 C_Hall rfl (d_w 0)) (d_ac (d_v 1) d_an)) (len_c (len_c len_n))) (d_vone (d_callS (h__law_book_told.at hr (by decide)) (d_ac (d_fld 8 1 C_Hall rfl (d_w 0)) (d_ac (d_v 2) (d_ac (d_v 3) d_an))) (len_c (len_c (len_c len_n)))))))))))
  exact ⟨f, fd, ["_law_hall", "_law_queues_here", "_law_least", "_law_rules"], rfl, z, mgf, F.kp, F.bindsN fun _ _ _ _ _ _ us hl => match us, hl with | [_, _, _, _], _ => rfl⟩
def m_law : FS :=
    (sSeq (sAsg (gT 2 (gsC (gN 1) (gsC (gN 2) gsN))) (eC d__law_book (aC (eC d__law_draws (aC (eV 0) (aC (eI (0)) (aC (eI (14)) aN)))) aN)))
    (sSeq (sIf (tNo (tT' (eC d__law_good_book (aC (eV 1) (aC (eV 2) aN))))) (sSeq (sIf (tNo (tT' (eC d__law_book_refused (aC (eC (f1 lstD) (aC (eW 1) aN)) (aC (eV 2) aN))))) (sRet (eB false)) sNil)
    (sPar [1, 2] (aC (eL (aC (eI (2)) aN)) (aC (eL aN) aN)))) sNil)
    (sSeq (sOwn 3 (eC (f1 lstD) (aC (eW 1) aN)))
    (sSeq (sSet 4 (eBw .st [3] (eCX d__law_taking (aC (eV 3) (aC (eV 2) aN)))))
    (sSeq (sSub 3 (eI (0)) (e2 subD (eI (5)) (e2 ixA (eW 3) (eI (0)))))
    (sSeq (sApp 3 (eI (0)))
    (sSeq (sIf (tNo (tT' (eC d__law_book_told (aC (eV 4) (aC (eV 1) (aC (eV 2) aN)))))) (sRet (eB false)) sNil)
    (sSeq (sSet 5 (eC d__law_queues (aC (eC d__law_draws (aC (eV 0) (aC (eI (1)) (aC (eI (12)) aN)))) aN)))
    (sSeq (sOwnK 6 (lcE (fun S => (eV 5) S >>= itemsD) (gN 9) tY (eC (f1 lstD) (aC (eW 9) aN)) [9]))
    (sSeq (sIf (tNo (tT' (eC d__law_good_queues (aC (eV 5) aN))))
    (sSeq (sIf (tO (tNo (tT' (eBw .st [6] (eC d__law_hall_refused (aC (eV 6) (aC (eV 4) aN)))))) (tB' (e2 neD (eW 6) (eW 5)))) (sRet (eB false)) sNil)
    (sSeq (sSet 5 (eL (aC (eL (aC (eI (1)) (aC (eI (0)) aN))) (aC (eL aN) aN))))
    (sOwnK 6 (lcE (fun S => (eV 5) S >>= itemsD) (gN 9) tY (eC (f1 lstD) (aC (eW 9) aN)) [9])))) sNil)
    (sSeq (sSet 7 (eBw .fr [6] (eCX d_Hall (aC (eV 6) (aC (eV 4) aN)))))
    (sNap 6 [7] (eI (7))
    (sSeq (sApp 6 (eL (aC (eI (8)) aN)))
    (sSeq (sIf (tNo (tT' (eC d__law_hall_told (aC (eV 7) (aC (eV 5) (aC (eV 1) (aC (eV 2) aN))))))) (sRet (eB false)) sNil)
    (sSeq (sSet 8 (eCX d_Hall (aC (eT (aC (eT aN) (aC (eT (aC (eI (0)) (aC (eI (2)) (aC (eI (1)) aN)))) aN))) (aC (eCX d__law_taking (aC (eC (f1 tupD) (aC (eW 1) aN)) (aC (eV 2) aN))) aN))))
    (sRet (eAnd (eC d__law_hall_told (aC (eV 8) (aC (eL (aC (eL aN) (aC (eL (aC (eI (0)) (aC (eI (2)) (aC (eI (1)) aN)))) aN))) (aC (eV 1) (aC (eV 2) aN))))) (eC d__law_hall_told (aC (eV 7) (aC (eV 5) (aC (eV 1) (aC (eV 2) aN))))))))))))))))))))))
def d_law : List D → R D := fun ds => (runF false 10 m_law ds).nox
theorem sc_law : FnScope ["_law_script", "_law_least", "_law_rules", "_law_passed", "_law_taking_here", "_law_queues_here", "_law_handed", "_law_hall", "_law_other", "_law_queue"] ["_law_script"] (defScope st_law) := ⟨rfl, rfl, rfl, by decide +kernel, rfl, by decide +kernel, by decide +kernel⟩
theorem ok_law {f : Addr} {fd : FuncData} (F : FunD K "law" "law" (defArgs st_law) (defBody st_law) (defScope st_law) [] [] f fd) (mgf : mg "law" = some (.ref f)) (B : Bt mg) (h__law_book : Callee P w K mg base ⟨K, cl⟩ 2 "_law_book" 1 false d__law_book) (h__law_draws : Callee P w K mg base ⟨K, cl⟩ 2 "_law_draws" 3 true d__law_draws) (h__law_good_book : Callee P w K mg base ⟨K, cl⟩ 1 "_law_good_book" 2 false d__law_good_book) (h__law_book_refused : Callee P w K mg base ⟨K, cl⟩ 4 "_law_book_refused" 2 false d__law_book_refused) (h__law_taking : CalleeX P w K mg base ⟨K, cl⟩ 3 "_law_taking" 2 false d__law_taking) (h__law_book_told : Callee P w K mg base ⟨K, cl⟩ 2 "_law_book_told" 3 false d__law_book_told) (h__law_queues : Callee P w K mg base ⟨K, cl⟩ 2 "_law_queues" 1 false d__law_queues) (h__law_good_queues : Callee P w K mg base ⟨K, cl⟩ 1 "_law_good_queues" 1 false d__law_good_queues) (h__law_hall_refused : Callee P w K mg base ⟨K, cl⟩ 3 "_law_hall_refused" 2 false d__law_hall_refused) (h_Hall : MakerX P w K mg base ⟨K, cl⟩ 1 "Hall" 8 2 d_Hall) (h__law_hall_told : Callee P w K mg base ⟨K, cl⟩ 3 "_law_hall_told" 4 false d__law_hall_told) : FnOk P w K mg base CX0 5 f fd ["_law_script"] (SpF ⟨K, cl⟩ false 1 d_law) := by
  have nd : (["_law_script", "_law_least", "_law_rules", "_law_passed", "_law_taking_here", "_law_queues_here", "_law_handed", "_law_hall", "_law_other", "_law_queue"] : List Str).Nodup := sc_law.nd
  have z := fn_ok (P := P) (w := w) (mg := mg) (base := base) (k := ⟨K, cl⟩) (fr := false) (lv := 4) (as := [1, 2, 1, 2, 3, 4, 1003, 1003, 5, 6, 5, 6, 7, 1006, 8]) (s := m_law) F sc_law fun cdv A outer sh H G0 hr => by
    have hu := hr.units
    have hu5 := hr.units5
    exact (b_cons (s_asg (d_callS (h__law_book.at hr (by decide)) (d_ac (d_z (d_callF (h__law_draws.at hr (by decide)) (d_ac (d_v 0) (d_ac d_int (d_ac d_int d_an))) (len_c (len_c (len_c len_n))))) d_an) (len_c len_n)) (g_t rfl rfl (gs_c (g_n 1 nd) (gs_c (g_n 2 nd) gs_n))))
    (b_cons (s_if (d_not (d_tt rfl (d_callS (h__law_good_book.at hr (by decide)) (d_ac (d_v 1) (d_ac (d_v 2) d_an)) (len_c (len_c len_n))))) (b_cons (s_if (d_not (d_tt rfl (d_callS (h__law_book_refused.at hr (by decide)) (d_ac (d_z (d_btyp (c_lst rfl) B.list (d_ab (d_w 1) d_an))) (d_ac (d_v 2) d_an)) (len_c (len_c len_n))))) (b_one (s_ret d_bl)) b_nil)
    (b_one (s_par2 1 2 nd (d_ac (d_z (d_lst (d_ac d_int d_an))) (d_ac (d_z (d_lst d_an)) d_an))))) b_nil)
    (b_cons (s_own 3 nd (d_btyp (c_lst rfl) B.list (d_ab (d_w 1) d_an)))
    (b_cons (s_set 4 nd (d_bw [3] (d_callXS h__law_taking hr (by decide) takes0 (d_ac (d_v 3) (d_ac (d_v 2) d_an)) (len_c (len_c len_n)))))
    (b_cons (s_sub 3 (d_op (o_sub) d_int (d_ix (o_ixA rfl hu5) (d_w 3) d_int)) d_int)
    (b_cons (s_app 3 d_int)
    (b_cons (s_if (d_not (d_tt rfl (d_callS (h__law_book_told.at hr (by decide)) (d_ac (d_v 4) (d_ac (d_v 1) (d_ac (d_v 2) d_an))) (len_c (len_c (len_c len_n)))))) (b_one (s_ret d_bl)) b_nil)
    (b_cons (s_set 5 nd (d_callS (h__law_queues.at hr (by decide)) (d_ac (d_z (d_callF (h__law_draws.at hr (by decide)) (d_ac (d_v 0) (d_ac d_int (d_ac d_int d_an))) (len_c (len_c (len_c len_n))))) d_an) (len_c len_n)))
    (b_lcK 6 [("_law_queue", 9)] rfl nd (i_seq rfl (d_v 5)) (blkOk_by (N := ["_law_script", "_law_least", "_law_rules", "_law_passed", "_law_taking_here", "_law_queues_here", "_law_handed", "_law_hall", "_law_other", "_law_queue"]) (sc := (defScope st_law)) (by decide +kernel)) (fun _ _ _ _ _ => (g_n 9 nd)) (fun _ _ _ _ _ => ts_n) (fun _ _ _ _ _ => (d_btyp (c_lst rfl) B.list (d_ab (d_w 9) d_an)))
    (b_ifK (d_not (d_tt rfl (d_callS (h__law_good_queues.at hr (by decide)) (d_ac (d_v 5) d_an) (len_c len_n))))
    (b_consP (s_if (d_pw (d_or (d_not (d_tt rfl (d_bw [6] (d_callS (h__law_hall_refused.at hr (by decide)) (d_ac (d_v 6) (d_ac (d_v 4) d_an)) (len_c (len_c len_n)))))) (d_or1 (d_tc (o_ne rfl hu) (d_w 6) (d_w 5))))) (b_one (s_ret d_bl)) b_nil)
    (b_consP (s_set 5 nd (d_z (d_lst (d_ac (d_z (d_lst (d_ac d_int (d_ac d_int d_an)))) (d_ac (d_z (d_lst d_an)) d_an)))))
    (b_lcP 6 [("_law_queue", 9)] rfl nd (i_seq rfl (d_v 5)) (blkOk_by (N := ["_law_script", "_law_least", "_law_rules", "_law_passed", "_law_taking_here", "_law_queues_here", "_law_handed", "_law_hall", "_law_other", "_law_queue"]) (sc := (defScope st_law)) (by decide +kernel)) (fun _ _ _ _ _ => (g_n 9 nd)) (fun _ _ _ _ _ => ts_n) (fun _ _ _ _ _ => (d_btyp (c_lst rfl) B.list (d_ab (d_w 9) d_an))))))
    (b_consK (s_set 7 nd (d_z (d_bw [6] (d_makerX h_Hall hr (by decide) takes0 (d_ac (d_v 6) (d_ac (d_v 4) d_an)) (len_c (len_c len_n))))))
    (b_nap 6 d_int
    (b_cons (s_app 6 (d_z (d_lst (d_ac d_int d_an))))
    (b_cons (s_if (d_not (d_tt rfl (d_callS (h__law_hall_told.at hr (by decide)) (d_ac (d_v 7) (d_ac (d_v 5) (d_ac (d_v 1) (d_ac (d_v 2) d_an)))) (len_c (len_c (len_c (len_c len_n))))))) (b_one (s_ret d_bl)) b_nil)
    (b_cons (s_set 8 nd (d_z (d_makerX h_Hall hr (by decide) takes0 (d_ac (d_tup (d_ac (d_tup d_an) (d_ac (d_tup (d_ac d_int (d_ac d_int (d_ac d_int d_an)))) d_an))) (d_ac (d_callXS h__law_taking hr (by decide) takes0 (d_ac (d_btyp (c_tup rfl) B.tuple (d_ab (d_w 1) d_an)) (d_ac (d_v 2) d_an)) (len_c (len_c len_n))) d_an)) (len_c (len_c len_n)))))
    (b_one (s_ret (d_vand (d_callS (h__law_hall_told.at hr (by decide)) (d_ac (d_v 8) (d_ac (d_z (d_lst (d_ac (d_z (d_lst d_an)) (d_ac (d_z (d_lst (d_ac d_int (d_ac d_int (d_ac d_int d_an))))) d_an)))) (d_ac (d_v 1) (d_ac (d_v 2) d_an)))) (len_c (len_c (len_c (len_c len_n))))) (d_vone (d_callS (h__law_hall_told.at hr (by decide)) (d_ac (d_v 7) (d_ac (d_v 5) (d_ac (d_v 1) (d_ac (d_v 2) d_an)))) (len_c (len_c (len_c (len_c len_n))))))))))))))))))))))))
  exact z
end
end Pf
set_option Elab.async false
set_option linter.all false
set_option maxRecDepth 100000
namespace Pf
open M PySem L2
def drawn (n : Nat) (d : D) : Prop := ∃ l : List Int, d = .lst (l.map .int) ∧ l.length = n ∧ ∀ x ∈ l, 0 ≤ x ∧ x < 720720
def EN : List Str := ["", "a", "b", "c", "ab", "ac", "bc", "abc"]
structure Nd (p : List Str) (due : Int) : Prop where
  ne : 1 ≤ p.length
  le : p.length ≤ 4
  lo : (p.length : Int) ≤ due
  hi : due ≤ 8
  en : ∀ e ∈ p, e ∈ EN
theorem drawn.ix {n : Nat} {d : D} (h : drawn n d) {i : Int} (h0 : 0 ≤ i) (h1 : i < n) : Ok (ixD d (.int i)) fun z => ∃ x : Int, z = .int x ∧ 0 ≤ x ∧ x < 720720 := by
  obtain ⟨l, rfl, hl, hm⟩ := h
  rw [k_ixL]
  obtain ⟨a, ha⟩ := atI_lt (xs := l.map D.int) h0 (by rw [List.length_map]; omega)
  obtain ⟨x, hx, rfl⟩ := List.mem_map.mp (atI_mem ha)
  exact ⟨_, ha, x, rfl, hm x hx⟩
theorem mod_b (x : Int) {m : Int} (h : 0 < m) : 0 ≤ x % m ∧ x % m < m := ⟨Int.emod_nonneg _ (by omega), Int.emod_lt_of_pos _ h⟩
theorem drawn.snoc {l : List Int} {n : Nat} {x : Int} (hm : l.length = n ∧ ∀ x ∈ l, 0 ≤ x ∧ x < 720720) (hx : 0 ≤ x ∧ x < 720720) : (l ++ [x]).length = n + 1 ∧ ∀ z ∈ l ++ [x], 0 ≤ z ∧ z < 720720 := by
  refine ⟨by simp [hm.1], fun z hz => ?_⟩
  rcases List.mem_append.mp hz with h | h
  · exact hm.2 z h
  · rw [List.mem_singleton] at h; subst h; exact hx
end Pf
set_option Elab.async false
set_option linter.all false
set_option maxRecDepth 100000
namespace Pf
open M PySem L2
mutual
theorem deq_self : ∀ (n : Nat) (d : D), dok n d = true → deq d d = true
  | _, .non, _ => by simp [deq]
  | _, .bl b, _ => by simp [deq]
  | _, .int b, _ => by simp [deq]
  | _, .str b, _ => by simp [deq]
  | n + 1, .tup xs, h => by simp only [dok] at h; simp only [deq]; exact deqs_self n xs h
  | n + 1, .lst xs, h => by simp only [dok] at h; simp only [deq]; exact deqs_self n xs h
  | 0, .tup xs, h => by simp [dok] at h
  | 0, .lst xs, h => by simp [dok] at h
  | n, .ty _, h => by cases n <;> simp [dok] at h
  | n, .dic _ _, h => by cases n <;> simp [dok] at h
  | n, .dit _ _, h => by cases n <;> simp [dok] at h
  | n, .obj _ _, h => by cases n <;> simp [dok] at h
  | n, .scr _, h => by cases n <;> simp [dok] at h
  | n, .cls _, h => by cases n <;> simp [dok] at h
theorem deqs_self : ∀ (n : Nat) (ds : List D), doks n ds = true → deqs ds ds = true
  | _, [], _ => by simp [deqs]
  | n, d :: ds, h => by
    simp only [doks, Bool.and_eq_true] at h
    simp only [deqs, Bool.and_eq_true]
    exact ⟨deq_self n d h.1, deqs_self n ds h.2⟩
end
theorem doks_map {α : Type} (f : α → D) (n : Nat) : ∀ (xs : List α), (∀ x ∈ xs, dok n (f x) = true) → doks n (xs.map f) = true
  | [], _ => by simp [doks]
  | x :: xs, h => by
    simp only [List.map_cons, doks, Bool.and_eq_true]
    exact ⟨h x (by simp), doks_map f n xs fun y hy => h y (by simp [hy])⟩
def sg (c : Nat) : Str := ⟨#[c]⟩
theorem k_ext {i : Nat} {f : FE} {S : M.Env} {QS : Fl × M.Env → Prop} : Ok (sExt i f S) QS ↔ Ok (ownL i S) fun ds => Ok (f S) fun d => ∃ es, d = .lst es ∧ ds.length + es.length ≤ sizeLine ∧ QS (.nx, S.set i (some ⟨true, .lst (ds ++ es)⟩)) := by
  unfold sExt
  rw [ok_bind]
  apply iff_of_eq
  congr 1
  funext ds
  rw [ok_bind]
  congr 1
  funext d
  refine propext ?_
  cases d with
  | lst es =>
    simp only [ok_if, ok_ok]
    exact ⟨fun h => ⟨es, rfl, h.1, h.2⟩, fun ⟨es', e, h⟩ => by cases e; exact h⟩
  | _ => simp only [ok_fail]; exact ⟨False.elim, fun ⟨_, e, _⟩ => nomatch e⟩
theorem k_aug {i : Nat} {o : D → D → R D} {f : FE} {S : M.Env} {QS : Fl × M.Env → Prop} : Ok (sAugI i o f S) QS ↔ Ok (eV i S) fun x => Ok (f S) fun y => bothI x y = true ∧ Ok (o x y) fun d => QS (.nx, S.set i (some ⟨false, d⟩)) := by
  unfold sAugI; simp only [ok_bind, ok_nox, ok_if, ok_ok]
theorem bothI_i {a b : Int} : bothI (.int a) (.int b) = true := rfl
end Pf
set_option Elab.async false
set_option linter.all false
set_option maxRecDepth 100000
namespace Pf
open M PySem L2 PySem.W PyProof.Rows
theorem srt_map {α : Type} (f : α → D) (xs : List α) : srt (xs.map f) = (xs.mergeSort fun a b => dle (f a) (f b)).map f := by
  unfold srt
  rw [List.map_mergeSort (r := fun a b => dle (f a) (f b)) (s := dle) fun _ _ _ _ => rfl]
theorem k_runT {n : Nat} {s : FS} {ds : List D} {Q : D → Prop} (h : Ok (s (startS n ds)) fun z => ∃ d, z.1 = .rt d ∧ Q d) : Ok (runF true n s ds) Q := by
  unfold runF
  obtain ⟨⟨fl, S'⟩, e, d, he, q⟩ := h
  have he : fl = .rt d := he
  subst he
  rw [e]
  exact ⟨d, rfl, q⟩
theorem k_isL {xs : List D} {Q : D → Prop} : Ok (isiD (.lst xs) (.ty "list")) Q ↔ Q (.bl true) := by
  have e : isiD (.lst xs) (.ty "list") = .ok (.bl true) := by first | rfl | decide
  rw [e, ok_ok]
theorem k_isT {xs : List D} {Q : D → Prop} : Ok (isiD (.tup xs) (.ty "tuple")) Q ↔ Q (.bl true) := by
  have e : isiD (.tup xs) (.ty "tuple") = .ok (.bl true) := by first | rfl | decide
  rw [e, ok_ok]
theorem k_isS {x : Str} {Q : D → Prop} : Ok (isiD (.str x) (.ty "str")) Q ↔ Q (.bl true) := by
  have e : isiD (.str x) (.ty "str") = .ok (.bl true) := by first | rfl | decide
  rw [e, ok_ok]
end Pf
set_option Elab.async false
set_option linter.all false
set_option maxRecDepth 100000
namespace Pf
open M PySem L2 PySem.W PyProof.Rows
theorem ixA_l {xs : List D} {y : D} : ixA (.lst xs) y = ixD (.lst xs) y := rfl
theorem ixA_t {xs : List D} {y : D} : ixA (.tup xs) y = ixD (.tup xs) y := rfl
theorem ixA_c {xs : List Int} {y : D} : ixA (.scr xs) y = ixD (.scr xs) y := rfl
theorem inA_l {xs : List D} {y : D} : inA y (.lst xs) = inD y (.lst xs) := rfl
theorem inA_t {xs : List D} {y : D} : inA y (.tup xs) = inD y (.tup xs) := rfl
theorem inA_s {x : Str} {y : D} : inA y (.str x) = inD y (.str x) := rfl
theorem notInA_l {xs : List D} {y : D} : notInA y (.lst xs) = notInD y (.lst xs) := rfl
theorem notInA_t {xs : List D} {y : D} : notInA y (.tup xs) = notInD y (.tup xs) := rfl
theorem notInA_s {x : Str} {y : D} : notInA y (.str x) = notInD y (.str x) := rfl
theorem any_int (x : Int) : ∀ l : List Int, ((l.map D.int).any fun z => deq z (.int x)) = decide (x ∈ l)
  | [] => by simp
  | y :: l => by
    rw [List.map_cons, List.any_cons, any_int x l]
    have e : deq (.int y) (.int x) = decide (x = y) := by
      simp only [deq]
      by_cases h : x = y
      · subst h; simp
      · rw [decide_eq_false h]; exact beq_eq_false_iff_ne.mpr fun z => h z.symm
    rw [e]
    by_cases h : x = y <;> simp [h]
theorem flat_ints : ∀ l : List Int, (l.map D.int).all flatD = true
  | [] => rfl
  | y :: l => by rw [List.map_cons, List.all_cons, flat_ints l]; rfl
theorem k_inI {x : Int} {l : List Int} {Q : D → Prop} : Ok (inD (.int x) (.lst (l.map .int))) Q ↔ Q (.bl (decide (x ∈ l))) := by
  have e : inD (.int x) (.lst (l.map .int)) = .ok (.bl (decide (x ∈ l))) := by
    simp only [inD, inD', flat_ints, any_int, flatD, Bool.and_self, if_true]
  rw [e, ok_ok]
theorem k_inIT {x : Int} {l : List Int} {Q : D → Prop} : Ok (inD (.int x) (.tup (l.map .int))) Q ↔ Q (.bl (decide (x ∈ l))) := by
  have e : inD (.int x) (.tup (l.map .int)) = .ok (.bl (decide (x ∈ l))) := by
    simp only [inD, inD', flat_ints, any_int, flatD, Bool.and_self, if_true]
  rw [e, ok_ok]
theorem k_ninI {x : Int} {l : List Int} {Q : D → Prop} : Ok (notInD (.int x) (.lst (l.map .int))) Q ↔ Q (.bl (!decide (x ∈ l))) := by
  have e : notInD (.int x) (.lst (l.map .int)) = .ok (.bl (!decide (x ∈ l))) := by
    simp only [notInD, inD', flat_ints, any_int, flatD, Bool.and_self, if_true]
  rw [e, ok_ok]
theorem k_ninIT {x : Int} {l : List Int} {Q : D → Prop} : Ok (notInD (.int x) (.tup (l.map .int))) Q ↔ Q (.bl (!decide (x ∈ l))) := by
  have e : notInD (.int x) (.tup (l.map .int)) = .ok (.bl (!decide (x ∈ l))) := by
    simp only [notInD, inD', flat_ints, any_int, flatD, Bool.and_self, if_true]
  rw [e, ok_ok]
abbrev ile (a b : Int) : Bool := decide (a ≤ b)
theorem dle_int (a b : Int) : dle (.int a) (.int b) = decide (a ≤ b) := by
  unfold dle dlt
  simp only [D.toP, PySem.W.dataLt, PySem.W.keyToks]
  by_cases h : b = a
  · subst h
    rw [lex_self]
    simp [PyProof.Rows.lexLt]
  · rw [lex_diff (O := itemOrd) (by simpa using h)]
    have : itemOrd.blt (.inl b) (.inl a) = decide (b < a) := rfl
    rw [this]
    by_cases h2 : b < a
    · rw [decide_eq_true h2, decide_eq_false (by omega)]; rfl
    · rw [decide_eq_false h2, decide_eq_true (by omega)]; rfl
theorem srt_int (l : List Int) : srt (l.map .int) = (l.mergeSort ile).map .int := by
  rw [srt_map]
  congr 2
  funext a b
  exact dle_int a b
theorem doks_int (n : Nat) (l : List Int) : doks n (l.map .int) = true := doks_map _ _ _ fun x _ => by cases n <;> simp [dok]
theorem srtOk_int (l : List Int) : srtOk (l.map .int) = true := by
  unfold srtOk
  rw [doks_int]
  simp [List.all_eq_true, alikeD, srtItem]
theorem k_srtI {l : List Int} {Q : D → Prop} : Ok (srtAD (.lst (l.map .int))) Q ↔ Q (.lst ((l.mergeSort ile).map .int)) := by
  have e : srtAD (.lst (l.map .int)) = .ok (.lst ((l.mergeSort ile).map .int)) := by simp only [srtAD, srtOk_int, if_true, srt_int]
  rw [e, ok_ok]
theorem k_srtIT {l : List Int} {Q : D → Prop} : Ok (srtAD (.tup (l.map .int))) Q ↔ Q (.lst ((l.mergeSort ile).map .int)) := by
  have e : srtAD (.tup (l.map .int)) = .ok (.lst ((l.mergeSort ile).map .int)) := by simp only [srtAD, srtOk_int, if_true, srt_int]
  rw [e, ok_ok]
theorem ms_mem {l : List Int} {x : Int} : x ∈ l.mergeSort ile ↔ x ∈ l := List.mem_mergeSort
theorem ms_strict {l : List Int} (h : l.Nodup) : (l.mergeSort ile).Pairwise (· < ·) := by
  have h1 : (l.mergeSort ile).Pairwise fun a b => ile a b = true := List.pairwise_mergeSort (fun a b c h1 h2 => by simp only [ile, decide_eq_true_eq] at *; omega) (fun a b => by simp only [ile, Bool.or_eq_true, decide_eq_true_eq]; omega) l
  have h2 : (l.mergeSort ile).Nodup := (List.mergeSort_perm l ile).nodup_iff.mpr h
  exact (h1.and h2).imp fun ⟨a, b⟩ => by simp only [ile, decide_eq_true_eq] at a; omega
abbrev T3 := Int × Int × Int
def tlt (a b : T3) : Prop := a.1 < b.1 ∨ a.1 = b.1 ∧ (a.2.1 < b.2.1 ∨ a.2.1 = b.2.1 ∧ a.2.2 < b.2.2)
instance (a b : T3) : Decidable (tlt a b) := by unfold tlt; infer_instance
theorem nd_nubG {κ : Type} [DecidableEq κ] {l : List κ} (h : l.Nodup) : (nubG l).length = l.length := (M.nub_len h fun x => Iff.rfl).symm
theorem strict_nd {l : List Int} (h : l.Pairwise (· < ·)) : l.Nodup := h.imp fun h e => by omega
end Pf
set_option Elab.async false
set_option linter.all false
set_option maxRecDepth 100000
namespace Pf
open M PySem L2
section
variable {Q : D → Prop} {QB : Bool → Prop} {QL : List D → Prop} {QS : Fl × M.Env → Prop} {S : M.Env} {f g h : FE} {t : FT} {fa fk : FA} {s r : FS} {i j ci : Nat} {d x y : D}
theorem k_guardX {QS : Fl × M.Env → Prop} {c : Nat} : Ok (sIf t (sExc0 c) sNil S) QS ↔ Ok (t S) fun b => b = false ∧ QS (.nx, S) := by
  rw [k_if]
  apply iff_of_eq
  congr 1
  funext b
  have e : Ok (sExc0 c S) QS ↔ False := ⟨fun ⟨_, e, _⟩ => (nomatch e), False.elim⟩
  cases b <;> simp [k_nil, e]
theorem k_truT {xs : List D} : Ok (truD (.tup xs)) QB ↔ QB (!xs.isEmpty) := ok_ok
theorem k_truL {xs : List D} : Ok (truD (.lst xs)) QB ↔ QB (!xs.isEmpty) := ok_ok
theorem k_truI {n : Int} : Ok (truD (.int n)) QB ↔ QB (n != 0) := ok_ok
def getOr (d y z : D) : R D := match dlook d y with
  | some (some r) => .ok r
  | some none => .ok z
  | none => .fail
theorem k_eGet2 : Ok (eGet2 f g h S) Q ↔ Ok (f S) fun d => isDct d = true ∧ Ok (g S) fun y => Ok (h S) fun z => Ok (getOr d y z) Q := by
  unfold eGet2
  simp only [ok_bind]
  apply iff_of_eq
  congr 1
  funext d
  by_cases hd : isDct d = true
  · rw [if_pos hd]; simp only [hd, true_and, ok_bind]; rfl
  · rw [if_neg hd, ok_fail]; simp [hd]
theorem k_putA : Ok (sPutA i f g S) QS ↔ Ok (ownD i S) fun m => Ok (g S) fun d => Ok (f S) fun y => Ok (putA i S m d y) QS := by
  unfold sPutA; simp only [ok_bind]
theorem oD_z {l : List (Option Sl)} : Ok (ownD 0 (some ⟨true, d⟩ :: l)) Q ↔ Q d := ok_ok
theorem oD_s {a : Option Sl} {l : List (Option Sl)} : Ok (ownD (i + 1) (a :: l)) Q ↔ Ok (ownD i l) Q := Iff.rfl
theorem k_putK {ks : List Key} {ds : List D} {n : Int} : Ok (putA i S (.dic ks ds) d (.int n)) QS ↔ (ks.Nodup ∧ ks.length < sizeLine) ∧ QS (.nx, S.set i (some ⟨true, .dic (putL ks ds (.inl n) d).1 (putL ks ds (.inl n) d).2⟩)) := by
  show Ok (if _ then _ else _) QS ↔ _; rw [ok_if, ok_ok]
theorem k_putS {ks : List Key} {ds : List D} {n : Str} : Ok (putA i S (.dic ks ds) d (.str n)) QS ↔ (ks.Nodup ∧ ks.length < sizeLine) ∧ QS (.nx, S.set i (some ⟨true, .dic (putL ks ds (.inr n) d).1 (putL ks ds (.inr n) d).2⟩)) := by
  show Ok (if _ then _ else _) QS ↔ _; rw [ok_if, ok_ok]
theorem keyT_2 {a b : Int} : keyT (.tup [.int a, .int b]) = some [.inl a, .inl b] := by
  show (if 1 < 2 ∧ 2 < 4 ∧ ([.int a, .int b] : List D).all isStrD = false then keysD [.int a, .int b] else none) = _
  rw [if_pos (by refine ⟨?_, ?_, rfl⟩ <;> decide)]; rfl
theorem k_putT2 {ks : List (List Key)} {ds : List D} {a b : Int} : Ok (putA i S (.dit ks ds) d (.tup [.int a, .int b])) QS ↔ (ks.Nodup ∧ ks.length < sizeLine) ∧ QS (.nx, S.set i (some ⟨true, .dit (putL ks ds [.inl a, .inl b] d).1 (putL ks ds [.inl a, .inl b] d).2⟩)) := by
  unfold putA
  simp only [keyT_2]
  rw [ok_if, ok_ok]
theorem k_addT {a b : List D} : Ok (addD (.tup a) (.tup b)) Q ↔ a.length + b.length ≤ sizeLine ∧ Q (.tup (a ++ b)) := by show Ok (if _ then _ else _) Q ↔ _; rw [ok_if, ok_ok]
theorem k_addLL {a b : List D} : Ok (addD (.lst a) (.lst b)) Q ↔ a.length + b.length ≤ sizeLine ∧ Q (.lst (a ++ b)) := by show Ok (if _ then _ else _) Q ↔ _; rw [ok_if, ok_ok]
theorem k_CX {o : List D → R D} : Ok (eCX o fa S) Q ↔ Ok (fa S) fun xs => Ok (o xs) Q := by unfold eCX; simp only [ok_bind]
theorem k_CXK {o : List D → R D} : Ok (eCXK o fa fk S) Q ↔ Ok (fa S) fun xs => Ok (fk S) fun ys => Ok (o (xs ++ ys)) Q := by unfold eCXK; simp only [ok_bind]
theorem k_MX {den : List D → R D} : Ok (eMX ci den f fa S) Q ↔ Ok (f S) fun o => o.isObj ci = true ∧ Ok (fa S) fun ds => Ok (den (o :: ds)) Q := by unfold eMX; simp only [ok_bind, ok_if]
theorem k_lstL {xs : List D} : Ok (lstD (.lst xs)) Q ↔ Q (.lst xs) := ok_ok
theorem k_lstT {xs : List D} : Ok (lstD (.tup xs)) Q ↔ Q (.lst xs) := ok_ok
theorem k_boolL {xs : List D} : Ok (boolD (.lst xs)) Q ↔ Q (.bl (!xs.isEmpty)) := ok_ok
theorem k_boolT {xs : List D} : Ok (boolD (.tup xs)) Q ↔ Q (.bl (!xs.isEmpty)) := ok_ok
theorem k_lstE {out : List D} : Ok (lstE out) Q ↔ out.length ≤ sizeLine ∧ Q (.lst out) := by unfold lstE; rw [ok_if, ok_ok]
theorem k_LM {den : List D → R (List D)} : Ok (eLM ci den f fa S) Q ↔ Ok (f S) fun o => o.isObj ci = true ∧ Ok (fa S) fun ds => Ok (den (o :: ds)) fun out => Ok (lstE out) Q := by
  unfold eLM; simp only [ok_bind, ok_if, ok_nox]
theorem k_hasB {n b : Bool} : Ok (hasB n (.bl b)) Q ↔ Q (.bl (b != n)) := ok_ok
theorem k_eHas {den : List D → R D} {n : Bool} : Ok (eHas ci den n f g S) Q ↔ Ok (f S) fun x => Ok (g S) fun o => o.isObj ci = true ∧ Ok (den [o, x]) fun d => Ok (hasB n d) Q := by
  unfold eHas; simp only [ok_bind, ok_if, ok_nox]
theorem k_parO : Ok (sParO i j f g S) QS ↔ Ok (f S) fun d => Ok (g S) fun e => QS (.nx, (S.set i (some ⟨true, d⟩)).set j (some ⟨true, e⟩)) := by unfold sParO; simp only [ok_bind, ok_ok]
end
def seqD (t : Bool) (xs : List D) : D := if t then .tup xs else .lst xs
theorem k_itemsQ {t : Bool} {xs : List D} {QL : List D → Prop} : Ok (itemsD (seqD t xs)) QL ↔ QL xs := by cases t <;> exact ok_ok
theorem k_lenQ {t : Bool} {xs : List D} {Q : D → Prop} : Ok (lenD (seqD t xs)) Q ↔ Q (.int xs.length) := by cases t <;> exact ok_ok
theorem k_ixQ {t : Bool} {xs : List D} {n : Int} {Q : D → Prop} : Ok (ixA (seqD t xs) (.int n)) Q ↔ ∃ d, L2.atI xs n = some d ∧ Q d := by
  cases t
  · exact k_ixL
  · exact k_ixT
theorem k_srtQ {t : Bool} {l : List Int} {Q : D → Prop} : Ok (srtAD (seqD t (l.map .int))) Q ↔ Q (.lst ((l.mergeSort ile).map .int)) := by
  cases t
  · exact k_srtI
  · exact k_srtIT
theorem atI_0 {α : Type} {x : α} {xs : List α} : L2.atI (x :: xs) 0 = some x := by
  unfold L2.atI ixN
  rw [if_pos (by decide), if_pos (by rw [List.length_cons]; omega)]; rfl
theorem lc2_typed {α β : Type} {ga : FG} {t : FT} {fi1 : FI} {ga1 : FG} {t1 : FT} {fe : FE} {vs vs1 : List Nat} {S : M.Env} (f : α → D) (f1 : β → D) (inner : α → List β) (p : α → Bool) (p1 : α → β → Bool) (g : α → β → D) : ∀ (xs : List α),
    (∀ x ∈ xs, Ok (ga (f x) S) fun S1 => unown S1 vs = true ∧ Ok (t S1) fun b => b = p x ∧ (p x = true → Ok (fi1 S1) fun ds => ds = (inner x).map f1 ∧ ∀ y ∈ inner x, Ok (ga1 (f1 y) (wipeS S1 vs1)) fun S2 => Ok (t1 S2) fun b => b = p1 x y ∧ (p1 x y = true → Ok (fe S2) fun z => z = g x y))) →
    lc2F ga t fi1 ga1 t1 fe vs vs1 S (xs.map f) = .ok ((xs.filter p).flatMap fun x => ((inner x).filter (p1 x)).map (g x))
  | [], _ => rfl
  | x :: xs, h => by
    have ih := lc2_typed f f1 inner p p1 g xs fun y hy => h y (List.mem_cons_of_mem _ hy)
    obtain ⟨S1, e1, hu, b, e2, hb, k⟩ := h x (List.mem_cons_self ..)
    rw [List.map_cons, lc2F, e1, R.nox_ok, R.ok_bind, if_pos hu, e2, R.nox_ok, R.ok_bind]
    by_cases hp : p x = true
    · obtain ⟨ds, e3, rfl, hy⟩ := k hp
      rw [hb, if_pos hp, e3, R.nox_ok, R.ok_bind, lc_typed f1 (p1 x) (g x) (inner x) hy, R.ok_bind, ih, R.ok_bind, List.filter_cons_of_pos hp, List.flatMap_cons]
    · rw [hb, if_neg hp, ih, List.filter_cons_of_neg hp]
theorem k_Sl {f : FE} {l h : FO} {S : M.Env} {Q : D → Prop} : Ok (eSl f l h S) Q ↔ Ok (f S) fun x => Ok (l S) fun lo => Ok (h S) fun hi => Ok (slD x lo hi) Q := by
  unfold eSl; simp only [ok_bind, ok_nox]
theorem k_oN {S : M.Env} {Q : Option Int → Prop} : Ok (oN S) Q ↔ Q none := ok_ok
theorem k_oS {f : FE} {S : M.Env} {Q : Option Int → Prop} : Ok (oS f S) Q ↔ Ok (f S) fun d => Ok (toI d) Q := by unfold oS; rw [ok_bind]
theorem k_toI {i : Int} {Q : Option Int → Prop} : Ok (toI (.int i)) Q ↔ Q (some i) := ok_ok
theorem k_slL {xs : List D} {lo hi : Option Int} {Q : D → Prop} : Ok (slD (.lst xs) lo hi) Q ↔ Q (.lst (M.cutL xs lo hi)) := ok_ok
theorem k_slT {xs : List D} {lo hi : Option Int} {Q : D → Prop} : Ok (slD (.tup xs) lo hi) Q ↔ Q (.tup (M.cutL xs lo hi)) := ok_ok
theorem cut_map {α β : Type} (f : α → β) (xs : List α) (lo hi : Option Int) : M.cutL (xs.map f) lo hi = (M.cutL xs lo hi).map f := by
  unfold M.cutL
  rw [List.length_map, List.map_take, List.map_drop]
theorem cut_take {α : Type} {xs : List α} {j : Int} (h : 0 ≤ j) : M.cutL xs none (some j) = xs.take j.toNat := by
  unfold M.cutL
  obtain ⟨k, rfl⟩ : ∃ k : Nat, j = k := ⟨j.toNat, by omega⟩
  rw [HT.sIx_none, List.drop_zero, Nat.sub_zero, HT.sIx_nat, Int.toNat_natCast]
  by_cases hl : k ≤ xs.length
  · rw [Nat.min_eq_left hl]
  · rw [Nat.min_eq_right (by omega), List.take_length, List.take_of_length_le (by omega)]
theorem cut_drop {α : Type} {xs : List α} {j : Int} (h : 0 ≤ j) : M.cutL xs (some j) none = xs.drop j.toNat := by
  unfold M.cutL
  obtain ⟨k, rfl⟩ : ∃ k : Nat, j = k := ⟨j.toNat, by omega⟩
  rw [HT.sIx_none, HT.sIx_nat, Int.toNat_natCast]
  by_cases hl : k ≤ xs.length
  · rw [Nat.min_eq_left hl, List.take_of_length_le (by rw [List.length_drop]; omega)]
  · rw [Nat.min_eq_right (by omega), Nat.sub_self, List.take_zero, List.drop_eq_nil_of_le (by omega)]
theorem take_mapD {α β : Type} (f : α → β) (xs : List α) (n : Nat) : (xs.map f).take n = (xs.take n).map f := List.map_take.symm
theorem drop_mapD {α β : Type} (f : α → β) (xs : List α) (n : Nat) : (xs.map f).drop n = (xs.drop n).map f := List.map_drop.symm
theorem dec_self {α : Type} [DecidableEq α] (a : α) : decide (a = a) = true := decide_eq_true rfl
theorem k_deqS {d : D} (h : dok 60 d = true) {Q : D → Prop} : Ok (eqD d d) Q ↔ Q (.bl true) := by
  have e : eqD d d = .ok (.bl true) := by unfold eqD; rw [h, deq_self 60 d h]; rfl
  rw [e, ok_ok]
theorem dok_ints (l : List Int) : dok 60 (.lst (l.map .int)) = true := by simp only [dok]; exact doks_int _ _
theorem sz0 : (0 ≤ sizeLine) = True := eq_true (Nat.le_trans (by omega) size_ge)
theorem sz1 : (1 ≤ sizeLine) = True := eq_true (Nat.le_trans (by omega) size_ge)
theorem sz2 : (2 ≤ sizeLine) = True := eq_true (Nat.le_trans (by omega) size_ge)
theorem sz3 : (3 ≤ sizeLine) = True := eq_true (Nat.le_trans (by omega) size_ge)
theorem sz4 : (4 ≤ sizeLine) = True := eq_true (Nat.le_trans (by omega) size_ge)
theorem sz5 : (5 ≤ sizeLine) = True := eq_true (Nat.le_trans (by omega) size_ge)
theorem sz6 : (6 ≤ sizeLine) = True := eq_true (Nat.le_trans (by omega) size_ge)
theorem sz7 : (7 ≤ sizeLine) = True := eq_true (Nat.le_trans (by omega) size_ge)
theorem sz8 : (8 ≤ sizeLine) = True := eq_true (Nat.le_trans (by omega) size_ge)
theorem sz9 : (9 ≤ sizeLine) = True := eq_true (Nat.le_trans (by omega) size_ge)
end Pf
set_option Elab.async false
set_option linter.all false
set_option maxRecDepth 100000
set_option maxHeartbeats 0
namespace Pf
open PySem L2 M
theorem facts {P : Program} {w : World} {K : PySem.W.Frag} {h : Heap} {mg : Str → Option Value} {f : Addr} (X : K.In h) (Gn : h.Ns mainGlobals mg) (hfa : mg ("law" : Str) = some (.ref f)) (cz : SaysV fv fn w K) :
    ∃ fd : FuncData, (∀ (s : Shared) (v : Value), BindsTo s fd ⟨[v], []⟩ [("_law_script", v)]) ∧ ∀ base : Heap, K.In base → base.Ns mainGlobals mg → FnOk P w K mg base CX0 5 f fd ["_law_script"] (SpF ⟨K, clK K⟩ false 1 d_law) := by
  have cv := cz
  have cz := cv.z
  have c := cz.y
  have B : Bt mg := ⟨He.free_ok X Gn (c.fact 16 (f := .free "ValueError") rfl), He.free_ok X Gn (c.fact 17 (f := .free "abs") rfl), He.free_ok X Gn (c.fact 18 (f := .free "all") rfl), He.free_ok X Gn (c.fact 19 (f := .free "any") rfl), He.free_ok X Gn (c.fact 20 (f := .free "bool") rfl), He.free_ok X Gn (c.fact 21 (f := .free "int") rfl), He.free_ok X Gn (c.fact 22 (f := .free "isinstance") rfl), He.free_ok X Gn (c.fact 23 (f := .free "len") rfl), He.free_ok X Gn (c.fact 24 (f := .free "list") rfl), He.free_ok X Gn (c.fact 25 (f := .free "max") rfl), He.free_ok X Gn (c.fact 26 (f := .free "range") rfl), He.free_ok X Gn (c.fact 27 (f := .free "set") rfl), He.free_ok X Gn (c.fact 28 (f := .free "sorted") rfl), He.free_ok X Gn (c.fact 29 (f := .free "tuple") rfl)⟩
  have q_Taking : mg "Taking" = some (.ref (He.ga K "Taking")) := He.glo_ok X Gn (c.fact 30 (f := .glo "Taking") rfl)
  have k_Taking : clK K 7 = some (He.ga K "Taking", (["least", "rules"] : List Str)) := rfl
  have cc_Taking : Cls K (He.ga K "Taking") := He.cls_ok (c.fact 31 (f := .cls "Taking") rfl)
  have mk_Taking : Mk K (He.ga K "Taking") (He.ma K (He.ga K "Taking") "__init__") := He.mkr_ok (c.fact 32 (f := .mkr "Taking") rfl)
  have C_Taking : ClsI K ⟨K, clK K⟩ 7 (["least", "rules"] : List Str) := ⟨⟨_, k_Taking, cc_Taking, fun z hz => by
    simp only [List.mem_cons, List.not_mem_nil, or_false] at hz
    rcases hz with rfl | rfl
    · exact He.noat_ok (c.fact 33 (f := .noat "Taking" "least") rfl)
    · exact He.noat_ok (c.fact 34 (f := .noat "Taking" "rules") rfl)⟩, by decide +kernel, by decide⟩
  have g_Taking : Gc mg ⟨K, clK K⟩ "Taking" (.cls 7) := gcls_ok q_Taking k_Taking
  have T_Taking : ClsT K ⟨K, clK K⟩ 7 := tyB_ok (c.ty 0 (f := "Taking") rfl) cc_Taking k_Taking
  have q_Hall : mg "Hall" = some (.ref (He.ga K "Hall")) := He.glo_ok X Gn (c.fact 35 (f := .glo "Hall") rfl)
  have k_Hall : clK K 8 = some (He.ga K "Hall", (["queues", "taking"] : List Str)) := rfl
  have cc_Hall : Cls K (He.ga K "Hall") := He.cls_ok (c.fact 36 (f := .cls "Hall") rfl)
  have mk_Hall : Mk K (He.ga K "Hall") (He.ma K (He.ga K "Hall") "__init__") := He.mkr_ok (c.fact 37 (f := .mkr "Hall") rfl)
  have C_Hall : ClsI K ⟨K, clK K⟩ 8 (["queues", "taking"] : List Str) := ⟨⟨_, k_Hall, cc_Hall, fun z hz => by
    simp only [List.mem_cons, List.not_mem_nil, or_false] at hz
    rcases hz with rfl | rfl
    · exact He.noat_ok (c.fact 38 (f := .noat "Hall" "queues") rfl)
    · exact He.noat_ok (c.fact 39 (f := .noat "Hall" "taking") rfl)⟩, by decide +kernel, by decide⟩
  have g_Hall : Gc mg ⟨K, clK K⟩ "Hall" (.cls 8) := gcls_ok q_Hall k_Hall
  have q_InvalidHall : mg "InvalidHall" = some (.ref (He.ga K "InvalidHall")) := He.glo_ok X Gn (c.fact 41 (f := .glo "InvalidHall") rfl)
  have k_InvalidHall : clK K 210 = some (He.ga K "InvalidHall", ([] : List Str)) := rfl
  have g_InvalidHall : Gc mg ⟨K, clK K⟩ "InvalidHall" (.cls 210) := gcls_ok q_InvalidHall k_InvalidHall
  have q_BreachError : mg "BreachError" = some (.ref (He.ga K "BreachError")) := He.glo_ok X Gn (c.fact 42 (f := .glo "BreachError") rfl)
  have k_BreachError : clK K 200 = some (He.ga K "BreachError", ([] : List Str)) := rfl
  have g_BreachError : Gc mg ⟨K, clK K⟩ "BreachError" (.cls 200) := gcls_ok q_BreachError k_BreachError
  have q_BadAct : mg "BadAct" = some (.ref (He.ga K "BadAct")) := He.glo_ok X Gn (c.fact 43 (f := .glo "BadAct") rfl)
  have k_BadAct : clK K 219 = some (He.ga K "BadAct", (["index"] : List Str)) := rfl
  have g_BadAct : Gc mg ⟨K, clK K⟩ "BadAct" (.cls 219) := gcls_ok q_BadAct k_BadAct
  have q_InvalidChoice : mg "InvalidChoice" = some (.ref (He.ga K "InvalidChoice")) := He.glo_ok X Gn (c.fact 44 (f := .glo "InvalidChoice") rfl)
  have k_InvalidChoice : clK K 205 = some (He.ga K "InvalidChoice", ([] : List Str)) := rfl
  have g_InvalidChoice : Gc mg ⟨K, clK K⟩ "InvalidChoice" (.cls 205) := gcls_ok q_InvalidChoice k_InvalidChoice
  have q_InvalidCore : mg "InvalidCore" = some (.ref (He.ga K "InvalidCore")) := He.glo_ok X Gn (c.fact 45 (f := .glo "InvalidCore") rfl)
  have k_InvalidCore : clK K 206 = some (He.ga K "InvalidCore", ([] : List Str)) := rfl
  have g_InvalidCore : Gc mg ⟨K, clK K⟩ "InvalidCore" (.cls 206) := gcls_ok q_InvalidCore k_InvalidCore
  have q_InvalidHouse : mg "InvalidHouse" = some (.ref (He.ga K "InvalidHouse")) := He.glo_ok X Gn (c.fact 46 (f := .glo "InvalidHouse") rfl)
  have k_InvalidHouse : clK K 211 = some (He.ga K "InvalidHouse", ([] : List Str)) := rfl
  have g_InvalidHouse : Gc mg ⟨K, clK K⟩ "InvalidHouse" (.cls 211) := gcls_ok q_InvalidHouse k_InvalidHouse
  have q_InvalidLevel : mg "InvalidLevel" = some (.ref (He.ga K "InvalidLevel")) := He.glo_ok X Gn (c.fact 47 (f := .glo "InvalidLevel") rfl)
  have k_InvalidLevel : clK K 209 = some (He.ga K "InvalidLevel", ([] : List Str)) := rfl
  have g_InvalidLevel : Gc mg ⟨K, clK K⟩ "InvalidLevel" (.cls 209) := gcls_ok q_InvalidLevel k_InvalidLevel
  have q_InvalidSupply : mg "InvalidSupply" = some (.ref (He.ga K "InvalidSupply")) := He.glo_ok X Gn (c.fact 48 (f := .glo "InvalidSupply") rfl)
  have k_InvalidSupply : clK K 202 = some (He.ga K "InvalidSupply", ([] : List Str)) := rfl
  have g_InvalidSupply : Gc mg ⟨K, clK K⟩ "InvalidSupply" (.cls 202) := gcls_ok q_InvalidSupply k_InvalidSupply
  have q_InvalidTask : mg "InvalidTask" = some (.ref (He.ga K "InvalidTask")) := He.glo_ok X Gn (c.fact 49 (f := .glo "InvalidTask") rfl)
  have k_InvalidTask : clK K 204 = some (He.ga K "InvalidTask", ([] : List Str)) := rfl
  have g_InvalidTask : Gc mg ⟨K, clK K⟩ "InvalidTask" (.cls 204) := gcls_ok q_InvalidTask k_InvalidTask
  have q_TooLarge : mg "TooLarge" = some (.ref (He.ga K "TooLarge")) := He.glo_ok X Gn (c.fact 50 (f := .glo "TooLarge") rfl)
  have k_TooLarge : clK K 212 = some (He.ga K "TooLarge", (["bound"] : List Str)) := rfl
  have g_TooLarge : Gc mg ⟨K, clK K⟩ "TooLarge" (.cls 212) := gcls_ok q_TooLarge k_TooLarge
  have R_InvalidHall : RaO K mg ⟨K, clK K⟩ "InvalidHall" 210 := raO_ok (c.fact 51 (f := .exc "InvalidHall") rfl) q_InvalidHall k_InvalidHall
  have Y_BreachError : TryC K mg ⟨K, clK K⟩ "BreachError" mt_BreachError := tryC_ok q_BreachError fun p hp => by
    simp only [List.mem_cons, List.not_mem_nil, or_false] at hp
    subst hp
    · exact ⟨_, _, k_InvalidHall, He.exm_ok (c.fact 52 (f := .exm "InvalidHall" "BreachError" true) rfl)⟩
  have h0 : clK K xix = none := by rfl
  have hXT : ∀ ci t b, xtab ci t = some b → IsT K ⟨K, clK K⟩ ci t b := xtab_ok fun p hp => by
    simp only [List.mem_cons, List.not_mem_nil, or_false] at hp
    rcases hp with rfl | rfl | rfl | rfl | rfl | rfl | rfl | rfl | rfl | rfl | rfl
    · exact isT_ok (cv.xf 1 (f := .isT "InvalidHall" "InvalidHall" true) rfl) (cv.xf 0 (f := .ecc "InvalidHall") rfl) k_InvalidHall k_InvalidHall
    · exact isT_ok (cv.xf 2 (f := .isT "InvalidHall" "BreachError" true) rfl) (cv.xf 0 (f := .ecc "InvalidHall") rfl) k_InvalidHall k_BreachError
    · exact isTy_ok (cv.xf 3 (f := .isTy "InvalidHall" "ValueError" true) rfl) (cv.xf 0 (f := .ecc "InvalidHall") rfl) k_InvalidHall
    · exact isT_ok (cv.xf 4 (f := .isT "InvalidHall" "BadAct" false) rfl) (cv.xf 0 (f := .ecc "InvalidHall") rfl) k_InvalidHall k_BadAct
    · exact isT_ok (cv.xf 5 (f := .isT "InvalidHall" "InvalidChoice" false) rfl) (cv.xf 0 (f := .ecc "InvalidHall") rfl) k_InvalidHall k_InvalidChoice
    · exact isT_ok (cv.xf 6 (f := .isT "InvalidHall" "InvalidCore" false) rfl) (cv.xf 0 (f := .ecc "InvalidHall") rfl) k_InvalidHall k_InvalidCore
    · exact isT_ok (cv.xf 7 (f := .isT "InvalidHall" "InvalidHouse" false) rfl) (cv.xf 0 (f := .ecc "InvalidHall") rfl) k_InvalidHall k_InvalidHouse
    · exact isT_ok (cv.xf 8 (f := .isT "InvalidHall" "InvalidLevel" false) rfl) (cv.xf 0 (f := .ecc "InvalidHall") rfl) k_InvalidHall k_InvalidLevel
    · exact isT_ok (cv.xf 9 (f := .isT "InvalidHall" "InvalidSupply" false) rfl) (cv.xf 0 (f := .ecc "InvalidHall") rfl) k_InvalidHall k_InvalidSupply
    · exact isT_ok (cv.xf 10 (f := .isT "InvalidHall" "InvalidTask" false) rfl) (cv.xf 0 (f := .ecc "InvalidHall") rfl) k_InvalidHall k_InvalidTask
    · exact isT_ok (cv.xf 11 (f := .isT "InvalidHall" "TooLarge" false) rfl) (cv.xf 0 (f := .ecc "InvalidHall") rfl) k_InvalidHall k_TooLarge
  have g_MOST_TASKS : Gc mg ⟨K, clK K⟩ "MOST_TASKS" gv_MOST_TASKS := gB_ok X Gn (c.gc 0 (f := ("MOST_TASKS", gv_MOST_TASKS)) rfl)
  have g_RULES : Gc mg ⟨K, clK K⟩ "RULES" gv_RULES := gB_ok X Gn (c.gc 1 (f := ("RULES", gv_RULES)) rfl)
  have g_MOST_QUEUES : Gc mg ⟨K, clK K⟩ "MOST_QUEUES" gv_MOST_QUEUES := gB_ok X Gn (c.gc 2 (f := ("MOST_QUEUES", gv_MOST_QUEUES)) rfl)
  obtain ⟨fd_Taking, F_Taking⟩ := c.def_ 0 (d := dd_Taking) rfl
  obtain ⟨fd_Hall, F_Hall⟩ := c.def_ 1 (d := dd_Hall) rfl
  obtain ⟨fd_Hall_start, F_Hall_start⟩ := c.def_ 2 (d := dd_Hall_start) rfl
  obtain ⟨fd__law_cell, F__law_cell⟩ := c.def_ 3 (d := dd__law_cell) rfl
  obtain ⟨fd__law_draws, F__law_draws⟩ := c.def_ 4 (d := dd__law_draws) rfl
  obtain ⟨fd__law_whole, F__law_whole⟩ := c.def_ 5 (d := dd__law_whole) rfl
  obtain ⟨fd__law_alone, F__law_alone⟩ := c.def_ 6 (d := dd__law_alone) rfl
  obtain ⟨fd__law_taking, F__law_taking⟩ := c.def_ 7 (d := dd__law_taking) rfl
  obtain ⟨fd__law_put, F__law_put⟩ := c.def_ 8 (d := dd__law_put) rfl
  obtain ⟨fd__law_book, F__law_book⟩ := c.def_ 9 (d := dd__law_book) rfl
  obtain ⟨fd__law_good_book, F__law_good_book⟩ := c.def_ 10 (d := dd__law_good_book) rfl
  obtain ⟨fd__law_queues, F__law_queues⟩ := c.def_ 11 (d := dd__law_queues) rfl
  obtain ⟨fd__law_good_queues, F__law_good_queues⟩ := c.def_ 12 (d := dd__law_good_queues) rfl
  obtain ⟨fd__law_book_refused, F__law_book_refused⟩ := c.def_ 13 (d := dd__law_book_refused) rfl
  obtain ⟨fd__law_hall_refused, F__law_hall_refused⟩ := c.def_ 14 (d := dd__law_hall_refused) rfl
  obtain ⟨fd__law_book_told, F__law_book_told⟩ := c.def_ 15 (d := dd__law_book_told) rfl
  obtain ⟨fd__law_rows_told, F__law_rows_told⟩ := c.def_ 16 (d := dd__law_rows_told) rfl
  obtain ⟨fd__law_hall_told, F__law_hall_told⟩ := c.def_ 17 (d := dd__law_hall_told) rfl
  obtain ⟨fd_law, F_law⟩ := c.def_ 18 (d := dd_law) rfl
  have e := hfa.symm.trans (He.glo_ok X Gn (c.fact 15 (f := .glo "law") rfl))
  cases e
  have b := FunD.bindsA (ps := ["_law_script"]) F_law fun _ _ _ _ _ _ us hl => match us, hl with | [_], _ => rfl
  refine ⟨fd_law, fun s v => b s [v] rfl, fun base _ _ => ?_⟩
  have mS_Taking_ : MakerXS P w K mg base ⟨K, clK K⟩ 1 "Taking" 7 1 [] [] [] d_Taking := okS_Taking_ (fun _ => .nil) F_Taking k_Taking mk_Taking q_Taking B C_Taking g_MOST_TASKS R_InvalidHall g_RULES
  have h_Hall : MakerX P w K mg base ⟨K, clK K⟩ 1 "Hall" 8 2 d_Hall := ok_Hall F_Hall k_Hall mk_Hall q_Hall B C_Hall g_MOST_QUEUES R_InvalidHall g_MOST_TASKS
  have h_Hall_start : Method P w K mg base ⟨K, clK K⟩ 1 8 "start" 1 false d_Hall_start := ok_Hall_start F_Hall_start k_Hall cc_Hall (He.meth_ok (c.fact 40 (f := .meth "Hall" "start") rfl)) B C_Hall
  have h__law_cell : Callee P w K mg base ⟨K, clK K⟩ 1 "_law_cell" 2 false d__law_cell := ok__law_cell F__law_cell (He.glo_ok X Gn (c.fact 0 (f := .glo "_law_cell") rfl)) B 
  have h__law_draws : Callee P w K mg base ⟨K, clK K⟩ 2 "_law_draws" 3 true d__law_draws := ok__law_draws F__law_draws (He.glo_ok X Gn (c.fact 1 (f := .glo "_law_draws") rfl)) B h__law_cell
  have h__law_whole : Callee P w K mg base ⟨K, clK K⟩ 1 "_law_whole" 1 false d__law_whole := ok__law_whole F__law_whole (He.glo_ok X Gn (c.fact 2 (f := .glo "_law_whole") rfl)) B 
  have hE__law_alone : CalleeE P w K mg base ⟨K, clK K⟩ 1 "_law_alone" 1 d__law_alone := okE__law_alone F__law_alone (He.glo_ok X Gn (c.fact 3 (f := .glo "_law_alone") rfl)) B h0 hXT g_InvalidHall g_BreachError g_BadAct g_InvalidChoice g_InvalidCore g_InvalidHouse g_InvalidLevel g_InvalidSupply g_InvalidTask g_TooLarge
  have h__law_taking : CalleeX P w K mg base ⟨K, clK K⟩ 3 "_law_taking" 2 false d__law_taking := ok__law_taking F__law_taking (He.glo_ok X Gn (c.fact 4 (f := .glo "_law_taking") rfl)) B mS_Taking_
  have h__law_put : Callee P w K mg base ⟨K, clK K⟩ 1 "_law_put" 3 false d__law_put := ok__law_put F__law_put (He.glo_ok X Gn (c.fact 5 (f := .glo "_law_put") rfl)) B 
  have h__law_book : Callee P w K mg base ⟨K, clK K⟩ 2 "_law_book" 1 false d__law_book := ok__law_book F__law_book (He.glo_ok X Gn (c.fact 6 (f := .glo "_law_book") rfl)) B h__law_put
  have h__law_good_book : Callee P w K mg base ⟨K, clK K⟩ 1 "_law_good_book" 2 false d__law_good_book := ok__law_good_book F__law_good_book (He.glo_ok X Gn (c.fact 7 (f := .glo "_law_good_book") rfl)) B 
  have h__law_queues : Callee P w K mg base ⟨K, clK K⟩ 2 "_law_queues" 1 false d__law_queues := ok__law_queues F__law_queues (He.glo_ok X Gn (c.fact 8 (f := .glo "_law_queues") rfl)) B h__law_put
  have h__law_good_queues : Callee P w K mg base ⟨K, clK K⟩ 1 "_law_good_queues" 1 false d__law_good_queues := ok__law_good_queues F__law_good_queues (He.glo_ok X Gn (c.fact 9 (f := .glo "_law_good_queues") rfl)) B 
  have h__law_book_refused : Callee P w K mg base ⟨K, clK K⟩ 4 "_law_book_refused" 2 false d__law_book_refused := ok__law_book_refused F__law_book_refused (He.glo_ok X Gn (c.fact 10 (f := .glo "_law_book_refused") rfl)) B Y_BreachError h0 h__law_taking hE__law_alone
  have h__law_hall_refused : Callee P w K mg base ⟨K, clK K⟩ 3 "_law_hall_refused" 2 false d__law_hall_refused := ok__law_hall_refused F__law_hall_refused (He.glo_ok X Gn (c.fact 11 (f := .glo "_law_hall_refused") rfl)) B Y_BreachError h0 h_Hall hE__law_alone
  have h__law_book_told : Callee P w K mg base ⟨K, clK K⟩ 2 "_law_book_told" 3 false d__law_book_told := ok__law_book_told F__law_book_told (He.glo_ok X Gn (c.fact 12 (f := .glo "_law_book_told") rfl)) B T_Taking g_Taking C_Taking h__law_whole
  have h__law_rows_told : Callee P w K mg base ⟨K, clK K⟩ 2 "_law_rows_told" 2 false d__law_rows_told := ok__law_rows_told F__law_rows_told (He.glo_ok X Gn (c.fact 13 (f := .glo "_law_rows_told") rfl)) B h__law_whole
  have h__law_hall_told : Callee P w K mg base ⟨K, clK K⟩ 3 "_law_hall_told" 4 false d__law_hall_told := ok__law_hall_told F__law_hall_told (He.glo_ok X Gn (c.fact 14 (f := .glo "_law_hall_told") rfl)) B h_Hall_start h__law_rows_told C_Hall h__law_book_told
  exact ok_law F_law (He.glo_ok X Gn (c.fact 15 (f := .glo "law") rfl)) B h__law_book h__law_draws h__law_good_book h__law_book_refused h__law_taking h__law_book_told h__law_queues h__law_good_queues h__law_hall_refused h_Hall h__law_hall_told
end Pf
namespace Pf
open M PySem L2
local macro_rules
  | `(tactic| simp? only [$ls,*]) => `(tactic| (try simp only [↓k_guard, k_no, k_I, k_S, k_B, k_N, k_G, k_Y, k_V, k_W, k_O, g0_z, g0_s, gA_z, gA_s, g1_z, g1_s, k_1, k_2, k_n, k_c, k_T, k_L, k_C, k_f1, k_f2, k_App, k_M, k_P, k_3, k_tB, k_tT, k_toB, k_tNo, k_tA, k_tO, k_tY, k_And, k_Or, k_Not, k_eIf, k_nil, k_seq, k_set, k_own, k_drop, k_ret, k_retN, k_retO, k_if, k_fz, fz_z, fz_s, k_gN, k_gsN, k_gsC, k_gT, k_asg, k_for, k_fnil, k_fcons, k_app, oL_z, oL_s, k_par, k_run, k_runN, k_fld, oO_z, k_add, k_addL, k_sub, k_mul, k_div, k_mod, k_pow, k_neg, k_lt, k_le, k_gt, k_ge, k_eqI, k_neI, k_int, k_intB, k_abs, k_lenL, k_lenT, k_lenC, k_tru, k_tupL, k_tupT, k_items_l, k_items_t, k_rng1, k_ixL, k_ixT, k_ixC, k_fldD, ok_nox, ok_ok, ok_bind, List.set_cons_zero, List.set_cons_succ, startS, startN, List.map_cons, List.map_nil, List.cons_append, List.nil_append, List.append_nil, List.length_cons, List.length_nil, List.replicate, Nat.reduceSub, Nat.reduceAdd, Nat.reduceLeDiff, Nat.zero_add, true_and, and_true, false_implies, true_implies, implies_true, forall_const, reduceCtorEq, Bool.not_true, Bool.not_false, Bool.not_eq_true', ↓k_guardX, k_truT, k_truL, k_truI, k_eGet2, k_putA, oD_z, oD_s, k_putK, k_putS, k_putT2, k_addT, k_addLL, k_CX, k_CXK, k_MX, k_lstL, k_lstT, k_boolL, k_boolT, k_LM, k_lstE, k_hasB, k_eHas, k_itemsQ, k_lenQ, k_ixQ, k_srtQ, k_parO, k_aug, bothI_i, k_ext, ixA_l, ixA_t, ixA_c, inA_l, inA_t, inA_s, notInA_l, notInA_t, notInA_s, k_inI, k_inIT, k_ninI, k_ninIT, k_srtI, k_srtIT, k_isL, k_isT, k_isS, List.getElem?_cons_zero, List.getElem?_cons_succ, Option.some.injEq, exists_eq_left', k_Sl, k_oN, k_oS, k_toI, k_slL, k_slT, cut_map, take_mapD, drop_mapD, dec_self, decide_true, decide_false, wipeS, List.length_map, List.set_nil, sz0, sz1, sz2, sz3, sz4, sz5, sz6, sz7, sz8, sz9, $ls,*]))
local macro_rules
  | `(tactic| dsimp? only [$ls,*]) => `(tactic| (try simp only [↓k_guard, k_no, k_I, k_S, k_B, k_N, k_G, k_Y, k_V, k_W, k_O, g0_z, g0_s, gA_z, gA_s, g1_z, g1_s, k_1, k_2, k_n, k_c, k_T, k_L, k_C, k_f1, k_f2, k_App, k_M, k_P, k_3, k_tB, k_tT, k_toB, k_tNo, k_tA, k_tO, k_tY, k_And, k_Or, k_Not, k_eIf, k_nil, k_seq, k_set, k_own, k_drop, k_ret, k_retN, k_retO, k_if, k_fz, fz_z, fz_s, k_gN, k_gsN, k_gsC, k_gT, k_asg, k_for, k_fnil, k_fcons, k_app, oL_z, oL_s, k_par, k_run, k_runN, k_fld, oO_z, k_add, k_addL, k_sub, k_mul, k_div, k_mod, k_pow, k_neg, k_lt, k_le, k_gt, k_ge, k_eqI, k_neI, k_int, k_intB, k_abs, k_lenL, k_lenT, k_lenC, k_tru, k_tupL, k_tupT, k_items_l, k_items_t, k_rng1, k_ixL, k_ixT, k_ixC, k_fldD, ok_nox, ok_ok, ok_bind, List.set_cons_zero, List.set_cons_succ, startS, startN, List.map_cons, List.map_nil, List.cons_append, List.nil_append, List.append_nil, List.length_cons, List.length_nil, List.replicate, Nat.reduceSub, Nat.reduceAdd, Nat.reduceLeDiff, Nat.zero_add, true_and, and_true, false_implies, true_implies, implies_true, forall_const, reduceCtorEq, Bool.not_true, Bool.not_false, Bool.not_eq_true', $ls,*]))
set_option Elab.async false
set_option linter.all false
set_option maxRecDepth 100000
open M PySem L2
def drw (l : List Int) (i : Int) : Int := (L2.atI l i).getD 0
structure Dr (n : Nat) (l : List Int) : Prop where
  len : l.length = n
  bd : ∀ x ∈ l, 0 ≤ x ∧ x < 60
theorem Dr.at {n : Nat} {l : List Int} (h : Dr n l) {i : Int} (h0 : 0 ≤ i) (h1 : i < n) : L2.atI (l.map D.int) i = some (.int (drw l i)) := by
  obtain ⟨a, ha⟩ := atI_lt (xs := l) h0 (by rw [h.len]; exact h1)
  rw [atI_map, drw, ha]; rfl
theorem Dr.b {n : Nat} {l : List Int} (h : Dr n l) (i : Int) : 0 ≤ drw l i ∧ drw l i < 60 := by
  unfold drw
  cases e : L2.atI l i with
  | none => exact ⟨by decide, by decide⟩
  | some a => exact h.bd a (atI_mem e)
theorem p_cell (ns : List Int) (at_ : Int) (ha : 0 ≤ at_) : Ok (d__law_cell [.scr ns, .int at_]) fun d => ∃ z : Int, d = .int z := by
  unfold d__law_cell m__law_cell
  rw [ok_nox, k_run]
  simp? only []
  refine ⟨fun h => ?_, fun _ => ⟨_, rfl⟩⟩
  obtain ⟨d, hd⟩ := atI_lt ha (of_decide_eq_true h)
  exact ⟨d, hd, _, rfl⟩
theorem mulT_i {a b : Int} : mulT (.int a) (.int b) = mulD (.int a) (.int b) := rfl
theorem p_draws (ns : List Int) (at_ : Int) (cnt : Nat) (ha : 0 ≤ at_) (ha2 : at_ < 100) (hc : cnt ≤ 100) : ∃ l, Dr cnt l ∧ d__law_draws [.scr ns, .int at_, .int cnt] = .ok (.lst (l.map .int)) := by
  have hs := size_ge
  suffices h : Ok (d__law_draws [.scr ns, .int at_, .int cnt]) fun d => ∃ l, Dr cnt l ∧ d = .lst (l.map .int) by
    obtain ⟨d, e, l, h1, rfl⟩ := h
    exact ⟨l, h1, e⟩
  unfold d__law_draws m__law_draws
  rw [ok_nox]
  refine k_runT ?_
  refine seq_cut (fun S => ∃ cell : Int, S = [(some (Sl.mk false (.scr ns))), (some (Sl.mk false (.int at_))), (some (Sl.mk false (.int cnt))), (some (Sl.mk false (.int cell))), none, none, none, none]) ?_ ?_
  · simp? only []
    refine (p_cell ns at_ ha).mono ?_
    rintro d ⟨z, rfl⟩
    simp? only []
    exact ⟨_, rfl⟩
  rintro S ⟨cell, rfl⟩
  refine seq_cut (fun S => ∃ mixed : Int, (0 ≤ mixed ∧ mixed < 1000003) ∧ S = [(some (Sl.mk false (.scr ns))), (some (Sl.mk false (.int at_))), (some (Sl.mk false (.int cnt))), (some (Sl.mk false (.int cell))), (some (Sl.mk false (.int 0))), (some (Sl.mk false (.int mixed))), none, none]) ?_ ?_
  · simp? only [mulT_i, putS]
    exact ⟨mul_r (by omega) (by omega), by omega, _, ⟨mod_b (cell + at_ * 7919) (m := 1000003) (by omega), rfl⟩⟩
  rintro S ⟨mixed, hm, rfl⟩
  refine seq_cut (fun S => ∃ rest : Int, S = [(some (Sl.mk false (.scr ns))), (some (Sl.mk false (.int at_))), (some (Sl.mk false (.int cnt))), (some (Sl.mk false (.int cell))), (some (Sl.mk false (.int rest))), (some (Sl.mk false (.int mixed))), none, none]) ?_ ?_
  · simp? only []
    exact ⟨⟨by omega, by omega, by decide⟩, fun _ => ⟨⟨by omega, by omega, by decide⟩, _, rfl⟩, fun _ => ⟨_, rfl⟩⟩
  rintro S ⟨rest, rfl⟩
  simp? only []
  refine ⟨⟨by omega, by omega⟩, ?_⟩
  refine for_inv (fun i S => ∃ (l : List Int) (rest mixed : Int) (a : Option Sl), Dr i l ∧ (0 ≤ mixed ∧ mixed < 1000003) ∧ S = [(some (Sl.mk false (.scr ns))), (some (Sl.mk false (.int at_))), (some (Sl.mk false (.int cnt))), (some (Sl.mk false (.int cell))), (some (Sl.mk false (.int rest))), (some (Sl.mk false (.int mixed))), (some (Sl.mk true (.lst (l.map .int)))), a]) _ 0 _ ⟨[], rest, mixed, none, ⟨rfl, by simp⟩, hm, rfl⟩ ?_ ?_
  · rintro i d S hd ⟨l, rest, mixed, a, hl, hm, rfl⟩
    obtain ⟨hi, rfl⟩ := rngL_get hd
    simp only [Int.toNat_natCast] at hi
    rw [Nat.zero_add] at hl
    have hll : l.length < sizeLine := by rw [hl.len]; omega
    have snoc : ∀ x : Int, 0 ≤ x ∧ x < 60 → Dr (i + 1) (l ++ [x]) := fun x hx => ⟨by rw [List.length_append, hl.len]; simp, fun z hz => by
      rcases List.mem_append.mp hz with h | h
      · exact hl.bd z h
      · rw [List.mem_singleton] at h; subst h; exact hx⟩
    simp? only [mulT_i]
    have m1 := mod_b (mixed * 48271 + 12345 + (0 + (i : Int))) (m := 1000003) (by omega)
    refine ⟨mul_r (by omega) (by omega), by omega, fun h1 => ⟨by omega, hll, div_c (by omega) (by omega), l ++ [rest % 60], _, _, _, snoc _ (mod_b rest (by omega)), m1, by rw [List.map_append]; rfl⟩, fun h1 => ?_⟩
    exact ⟨div_c (by omega) (by omega), by omega, hll, l ++ [_ / 13 % 60], _, _, _, snoc _ (mod_b _ (by omega)), m1, by rw [List.map_append]; rfl⟩
  · rintro S ⟨l, rest, mixed, a, hl, hm, rfl⟩
    rw [rngL_len, Nat.zero_add, Int.toNat_natCast] at hl
    simp? only []
    exact ⟨_, rfl, l, hl, rfl⟩
theorem p_drawsI (ns : List Int) (at_ c : Int) (cnt : Nat) (ha : 0 ≤ at_) (ha2 : at_ < 100) (hc : cnt ≤ 100) (e : c = cnt) : ∃ l, Dr cnt l ∧ d__law_draws [.scr ns, .int at_, .int c] = .ok (.lst (l.map .int)) := by subst e; exact p_draws ns at_ cnt ha ha2 hc
set_option Elab.async false
set_option linter.all false
set_option maxRecDepth 100000
open M PySem L2
theorem atN {α : Type} {xs : List α} {c : Nat} (h : c < xs.length) : L2.atI xs (c : Int) = some xs[c] := by
  unfold L2.atI ixN
  rw [if_pos (by omega), if_pos (by omega)]
  show xs[(c : Int).toNat]? = _
  rw [Int.toNat_natCast, List.getElem?_eq_getElem h]
theorem ixN_N {n c : Nat} (h : c < n) : ixN n (c : Int) = some c := by
  unfold ixN
  rw [if_pos (by omega), if_pos (by omega), Int.toNat_natCast]
theorem k_subN {f fj : FE} {S : M.Env} {i : Nat} {QS : Fl × M.Env → Prop} : Ok (sSub i fj f S) QS ↔ Ok (ownL i S) fun ds => Ok (f S) fun d => Ok (fj S) fun j => ∃ n m, j = .int n ∧ ixN ds.length n = some m ∧ QS (.nx, S.set i (some ⟨true, .lst (ds.set m d)⟩)) := by
  unfold sSub
  simp only [ok_bind]
  apply iff_of_eq
  congr 1; funext ds; congr 1; funext d; congr 1; funext j
  cases j with
  | int n =>
    dsimp only
    cases h : ixN ds.length n with
    | none =>
      refine propext ⟨fun ⟨_, e, _⟩ => (nomatch e), fun ⟨n', m, e, h', _⟩ => ?_⟩
      cases e; rw [h] at h'; cases h'
    | some m => exact propext ⟨fun q => ⟨n, m, rfl, h, ok_ok.mp q⟩, fun ⟨n', m', e, h', q⟩ => by cases e; rw [h] at h'; cases h'; exact ok_ok.mpr q⟩
  | _ => exact propext ⟨fun ⟨_, e, _⟩ => (nomatch e), fun ⟨_, _, e, _⟩ => (nomatch e)⟩
abbrev qD (q : List Int) : D := .tup (q.map .int)
abbrev qL (q : List Int) : D := .lst (q.map .int)
def ruS (ag an ha : Bool) : List D := (if ag then [.str "again"] else []) ++ (if an then [.str "any"] else []) ++ (if ha then [.str "half"] else [])
structure Bk where
  L : List Int
  ag : Bool
  an : Bool
  ha : Bool
def Bk.ru (b : Bk) : List D := ruS b.ag b.an b.ha
def Bk.o (b : Bk) : D := .obj 7 [.tup (b.L.map .int), .tup b.ru]
theorem atQ {qs : List (List Int)} {c : Nat} (g : List Int → D) (h : c < qs.length) : L2.atI (qs.map g) (c : Int) = some (g ((qs[c]?).getD [])) := by
  rw [atI_map, atN h, List.getElem?_eq_getElem h]; rfl
structure Pos (n : Nat) (qs : List (List Int)) (ls : List Int) : Prop where
  n1 : 1 ≤ n
  n3 : n ≤ 3
  ql : qs.length = n
  ll : ls.length = n
  qb : ∀ q ∈ qs, q.length ≤ 5
  lb : ∀ (i : Nat), i < n → drw ls i = -1 ∨ (0 ≤ drw ls i ∧ drw ls i < n ∧ drw ls i ≠ i)
def qv (qs : List (List Int)) (c : Nat) : List Int := (qs[c]?).getD []
theorem qv_at {qs : List (List Int)} {c : Nat} (h : c < qs.length) : qv qs c = qs[c] := by unfold qv; rw [List.getElem?_eq_getElem h]; rfl
set_option Elab.async false
set_option linter.all false
set_option maxRecDepth 100000
open M PySem L2
structure BkV (b : Bk) : Prop where
  l1 : 1 ≤ b.L.length
  l5 : b.L.length ≤ 5
  bd : ∀ x ∈ b.L, 0 ≤ x ∧ x ≤ 5
def rgI (t : Nat) : List Int := (List.range t).map fun (i : Nat) => (i : Int)
def Arr (t : Nat) (qs : List (List Int)) : Prop := qs.flatten.Perm (rgI t)
theorem rgI_len {t : Nat} : (rgI t).length = t := by unfold rgI; simp
theorem rgI_strict {t : Nat} : (rgI t).Pairwise (· < ·) := by
  unfold rgI
  rw [List.pairwise_map]
  exact List.pairwise_lt_range.imp fun h => by omega
theorem Arr.len {t : Nat} {qs : List (List Int)} (A : Arr t qs) : qs.flatten.length = t := by rw [A.length_eq, rgI_len]
theorem mem_flat_le {qs : List (List Int)} {q : List Int} (h : q ∈ qs) : q.length ≤ qs.flatten.length := by
  induction qs with
  | nil => cases h
  | cons x r ih =>
    rw [List.flatten_cons, List.length_append]
    rcases List.mem_cons.mp h with rfl | h
    · omega
    · have := ih h; omega
theorem Arr.ql {t : Nat} {qs : List (List Int)} (A : Arr t qs) {q : List Int} (h : q ∈ qs) : q.length ≤ t := by
  have := mem_flat_le h
  rw [A.len] at this; exact this
theorem Arr.srt {t : Nat} {qs : List (List Int)} (A : Arr t qs) : qs.flatten.mergeSort ile = rgI t := by
  have nd : qs.flatten.Nodup := A.nodup_iff.mpr (strict_nd rgI_strict)
  exact strict_unique (ms_strict nd) rgI_strict fun k => by rw [ms_mem, A.mem_iff]
theorem k_lstRg {t : Nat} {l : List Int} {Q : D → Prop} {a b c e f : Option Sl} (hl : l.length = t) (ht : t ≤ 5) (h : Q (.lst ((rgI t).map .int))) : Ok (eLstRg (rg1 (eC (f1 lenD) (aC (eW 3) aN))) [a, b, c, (some (Sl.mk false (.lst (l.map .int)))), e, f]) Q := by
  have e1 : rg1 (eC (f1 lenD) (aC (eW 3) aN)) [a, b, c, (some (Sl.mk false (.lst (l.map .int)))), e, f] = .ok (0, (t : Int)) := by
    show R.ok (_, (((l.map D.int).length : Nat) : Int)) = _
    rw [List.length_map, hl]
  unfold eLstRg
  rw [e1, R.ok_bind]
  dsimp only
  rw [if_pos (by unfold RgOk; omega)]
  refine ⟨_, rfl, ?_⟩
  rw [show rgD 0 (t : Int) = (rgI t).map .int from ?_]
  · exact h
  · unfold rgD rgI
    simp
set_option Elab.async false
set_option linter.all false
set_option maxRecDepth 100000
open M PySem L2
theorem k_CXS {n : Nat} {mask : List Bool} {dd : List D} {o : List D → R D} {fa fk : FA} {S : M.Env} {Q : D → Prop} : Ok (eCXS n mask dd o fa fk S) Q ↔ Ok (fa S) fun as => Ok (fk S) fun bs => (n ≤ as.length ∧ as.length ≤ sizeLine) ∧ Ok (o (as.take n ++ mergeK mask dd bs ++ [.tup (as.drop n)])) Q := by
  unfold eCXS; simp only [ok_bind, ok_if]
theorem mk_nil : mergeK ([] : List Bool) ([] : List D) [] = [] := rfl
theorem tk1 {a : D} {l : List D} : (a :: l).take 1 = [a] := rfl
theorem dp1 {a : D} {l : List D} : (a :: l).drop 1 = l := rfl
theorem at_0 {a : D} {l : List D} : L2.atI (a :: l) 0 = some a := atI_0
theorem at_1 {a b : D} {l : List D} : L2.atI (a :: b :: l) 1 = some b := by
  have := atN (xs := a :: b :: l) (c := 1) (by simp)
  simpa using this
theorem at_2 {a b c : D} {l : List D} : L2.atI (a :: b :: c :: l) 2 = some c := by
  have := atN (xs := a :: b :: c :: l) (c := 2) (by simp)
  simpa using this
structure Lk (n m : Nat) (ls : List Int) : Prop where
  ll : ls.length = m
  lb : ∀ (i : Nat), i < m → drw ls i = -1 ∨ (0 ≤ drw ls i ∧ drw ls i < n ∧ drw ls i ≠ i)
theorem drw_N {L : List Int} {i : Nat} (h : i < L.length) : drw L i = L[i] := by unfold drw; rw [atN h]; rfl
theorem Lk.snoc {n m : Nat} {ls : List Int} (K : Lk n m ls) {x : Int} (hx : x = -1 ∨ (0 ≤ x ∧ x < n ∧ x ≠ m)) : Lk n (m + 1) (ls ++ [x]) := by
  have hl := K.ll
  refine ⟨by rw [List.length_append, hl]; rfl, fun i hi => ?_⟩
  rw [drw_N (by rw [List.length_append, hl]; exact hi)]
  by_cases h : i < m
  · rw [List.getElem_append_left (by omega), ← drw_N (by omega)]
    exact K.lb i h
  · obtain rfl : i = m := by omega
    rw [List.getElem_append_right (by omega)]
    simpa [hl] using hx
set_option Elab.async false
set_option linter.all false
set_option maxRecDepth 100000
open M PySem L2
section
variable {s r : FS} {S : M.Env} {x : Exc} {t : FT} {f : FE} {fi : FI} {ga : FG} {fa fk : FA}
theorem x_seq1 (h : s S = .exc x) : sSeq s r S = .exc x := by unfold sSeq; rw [h]; rfl
theorem x_seq2 (h : Ok (s S) fun z => z.1 = .nx ∧ r z.2 = .exc x) : sSeq s r S = .exc x := by
  obtain ⟨z, e, h1, h2⟩ := h
  obtain ⟨fl, S1⟩ := z
  unfold sSeq
  rw [e]
  dsimp only at h1 h2
  subst h1
  exact h2
theorem x_if1 (h : Ok (t S) fun b => b = true) (h2 : s S = .exc x) : sIf t s r S = .exc x := by
  obtain ⟨b, e, rfl⟩ := h
  unfold sIf; rw [e]; exact h2
theorem x_runF {fr : Bool} {n : Nat} {ds : List D} (h : s (startS n ds) = .exc x) : runF fr n s ds = .exc x := by unfold runF; rw [h]; rfl
theorem x_drop (h : f S = .exc x) : sDrop f S = .exc x := by unfold sDrop; rw [h]; rfl
theorem x_CXS {n : Nat} {mask : List Bool} {dd : List D} {o : List D → R D} (h : Ok (fa S) fun as => Ok (fk S) fun bs => (n ≤ as.length ∧ as.length ≤ sizeLine) ∧ o (as.take n ++ mergeK mask dd bs ++ [.tup (as.drop n)]) = .exc x) : eCXS n mask dd o fa fk S = .exc x := by
  obtain ⟨as, e, bs, e2, h1, h2⟩ := h
  unfold eCXS; rw [e, R.ok_bind, e2, R.ok_bind, if_pos h1]; exact h2
theorem x_if {c : Nat} (h : Ok (t S) fun b => b = true) : sIf t (sExc0 c) sNil S = .exc ⟨c, []⟩ := x_if1 h rfl
end
theorem x_runN {n ci : Nat} {s : FS} {ds : List D} {x : Exc} (h : s (startN n ci ds) = .exc x) : M.runN n ci s ds = .exc x := by unfold M.runN; rw [h]; rfl
set_option Elab.async false
set_option linter.all false
set_option maxRecDepth 100000
open M PySem L2
abbrev rD (ru : List Str) : List D := ru.map .str
def nmT : List Str := ["again", "any", "half"]
theorem asS_rD : ∀ ru : List Str, asS (rD ru) = some ru
  | [] => rfl
  | r :: ru => by
    have h := asS_rD ru
    show asS (.str r :: rD ru) = _
    simp only [asS, h]
    rfl
def txT : List Str := ["again", "any", "half", "all", "Any", "", "halves", "again "]
abbrev TxS (ru : List Str) : Prop := ∀ r ∈ ru, r ∈ txT
theorem dok_tx : ∀ r ∈ txT, PyData.strOk r = true := by decide +kernel
theorem doks_rD (n : Nat) : ∀ {ru : List Str}, TxS ru → doks n (rD ru) = true
  | [], _ => by cases n <;> rfl
  | r :: ru, hx => by
    have h := doks_rD n (ru := ru) fun x h => hx x (by simp [h])
    have h2 : dok n (.str r) = true := by
      have := dok_tx r (hx r (by simp))
      cases n <;> simp only [dok, this]
    show doks n (.str r :: rD ru) = true
    simp only [doks, h, h2, Bool.and_true]
theorem srtOk_rD {ru : List Str} (hx : TxS ru) : srtOk (rD ru) = true := by
  unfold srtOk
  rw [doks_rD _ hx]
  simp [List.all_map, alikeD, srtItem]
theorem srt_rD {ru : List Str} (hx : TxS ru) : ∃ sl : List Str, srt (rD ru) = rD sl ∧ sl.length = ru.length ∧ TxS sl := by
  have h : ∀ d ∈ srt (rD ru), ∃ x ∈ txT, d = D.str x := fun d hd => by
    have := (List.mergeSort_perm (rD ru) dle).mem_iff.mp hd
    obtain ⟨x, h, rfl⟩ := List.mem_map.mp this
    exact ⟨x, hx x h, rfl⟩
  have key : ∀ l : List D, (∀ d ∈ l, ∃ x ∈ txT, d = D.str x) → ∃ sl : List Str, l = rD sl ∧ TxS sl := by
    intro l
    induction l with
    | nil => exact fun _ => ⟨[], rfl, fun x h => nomatch h⟩
    | cons d l ih =>
      intro h
      obtain ⟨x, hx, rfl⟩ := h d (by simp)
      obtain ⟨sl, rfl, hsl⟩ := ih fun d hd => h d (by simp [hd])
      exact ⟨x :: sl, rfl, fun y hy => by rcases List.mem_cons.mp hy with rfl | hy; exact hx; exact hsl y hy⟩
  obtain ⟨sl, e, hsl⟩ := key _ h
  refine ⟨sl, e, ?_, hsl⟩
  have := congrArg List.length e
  simp only [srt, List.length_mergeSort, List.length_map] at this
  exact this.symm
theorem srtAD_rD {b : Bool} {ru : List Str} (hx : TxS ru) : srtAD (seqD b (rD ru)) = .ok (.lst (srt (rD ru))) := by
  cases b
  · show (if srtOk (rD ru) = true then R.ok (D.lst (srt (rD ru))) else R.fail) = _
    rw [srtOk_rD hx]; rfl
  · show (if srtOk (rD ru) = true then R.ok (D.lst (srt (rD ru))) else R.fail) = _
    rw [srtOk_rD hx]; rfl
def tkO (L : List Int) (ru : List Str) : D := .obj 7 [.tup (L.map .int), .tup (srt (rD ru))]
theorem tk_0 {L : List Int} {ru : List Str} : fldD 7 0 (tkO L ru) = .ok (.tup (L.map .int)) := rfl
theorem tk_1 {L : List Int} {ru : List Str} : fldD 7 1 (tkO L ru) = .ok (.tup (srt (rD ru))) := rfl
def GT1 (L : List Int) : Prop := (1 ≤ L.length ∧ L.length ≤ 5) ∧ ∀ x ∈ L, 0 ≤ x ∧ x ≤ 5
def GT2 (ru : List Str) : Prop := (∀ r ∈ ru, r ∈ nmT) ∧ ru.Nodup
instance {L : List Int} : Decidable (GT1 L) := by unfold GT1; infer_instance
instance {ru : List Str} : Decidable (GT2 ru) := by unfold GT2; infer_instance
theorem nd_subT {α : Type} : ∀ {a b : List α}, a.Nodup → (∀ x ∈ a, x ∈ b) → a.length ≤ b.length
  | [], _, _, _ => Nat.zero_le _
  | x :: a, b, h, k => by
    obtain ⟨b1, b2, rfl⟩ := List.append_of_mem (k x (by simp))
    have nd := List.nodup_cons.mp h
    have := nd_subT (a := a) (b := b1 ++ b2) nd.2 fun y hy => by
      have := k y (by simp [hy])
      simp only [List.mem_append, List.mem_cons] at this ⊢
      rcases this with z | z | z
      · exact .inl z
      · exact absurd (z ▸ hy) nd.1
      · exact .inr z
    simp only [List.length_append, List.length_cons] at this ⊢
    omega
theorem short_of {α : Type} : ∀ {l : List α}, ¬ l.Nodup → ∃ ys : List α, ys.length < l.length ∧ ∀ x ∈ l, x ∈ ys
  | [], h => absurd List.nodup_nil h
  | a :: l, h => by
    by_cases ha : a ∈ l
    · exact ⟨l, by simp, fun x hx => by rcases List.mem_cons.mp hx with rfl | hx; exact ha; exact hx⟩
    · have : ¬ l.Nodup := fun z => h (List.nodup_cons.mpr ⟨ha, z⟩)
      obtain ⟨ys, h1, h2⟩ := short_of this
      exact ⟨a :: ys, by simpa using h1, fun x hx => by rcases List.mem_cons.mp hx with rfl | hx; simp; simp [h2 x hx]⟩
theorem nub_lt {l : List Str} : (nubG l).length < l.length ↔ ¬ l.Nodup := by
  constructor
  · intro h z
    rw [nd_nubG z] at h
    omega
  · intro h
    obtain ⟨ys, h1, h2⟩ := short_of h
    have nb := nubG_fold l [] List.nodup_nil
    have := nd_subT nb.1 (b := ys) fun x hx => h2 x (by have := (nb.2 x).mp hx; simpa using this)
    exact Nat.lt_of_le_of_lt this h1
theorem tst1 {b : Bool} {L : List Int} {ru : List Str} (hl : L.length ≤ 10) : Ok (tO (tNo (tB' (e3 leD leD (eI (1)) (eC (f1 lenD) (aC (e1 (fldD 7 0) (eW 0)) aN)) (eG gv_MOST_TASKS)))) (tT' (eC (f1 anyD) (aC (lcE (fun S => (e1 (fldD 7 0) (eW 0)) S >>= itemsD) (gN 3) tY (eNot (e3 leD leD (eI (0)) (eW 3) (eG gv_MOST_TASKS))) [3]) aN))) [(some (Sl.mk true (tkO L ru))), (some (Sl.mk false (seqD b (L.map .int)))), (some (Sl.mk false (.tup (rD ru)))), none, none]) fun v => v = !decide (GT1 L) := by
  have hs := size_ge
  by_cases h1 : 1 ≤ L.length ∧ L.length ≤ 5
  · simp? only [tk_0, gv_MOST_TASKS]
    rw [decide_eq_true (show (1 : Int) ≤ (L.length : Int) by omega), decide_eq_true (show (L.length : Int) ≤ 5 by omega)]
    simp? only []
    refine k_lcM D.int (fun x => .bl (!(decide (0 ≤ x) && decide (x ≤ 5)))) L (by simp? only [tk_0]) (by omega) ?_ ?_
    · intro x hx
      simp? only []
      exact ⟨fun h => by rw [h]; rfl, fun h => by rw [h]; rfl⟩
    · simp? only [k_any]
      by_cases h : ∀ x ∈ L, 0 ≤ x ∧ x ≤ 5
      · have g : GT1 L := ⟨h1, h⟩
        rw [decide_eq_true g]
        show _ = false
        rw [List.any_eq_false]
        intro x hx
        have := h x hx
        simp
        omega
      · have g : ¬ GT1 L := fun z => h z.2
        rw [decide_eq_false g]
        show _ = true
        cases e : L.any fun x => !(decide (0 ≤ x) && decide (x ≤ 5)) with
        | true => rfl
        | false =>
          rw [List.any_eq_false] at e
          refine absurd (fun x hx => ?_) h
          have := e x hx
          simp at this
          exact ⟨this.1, this.2⟩
  · have : ¬ GT1 L := fun z => h1 z.1
    rw [decide_eq_false this]
    simp? only [tk_0, gv_MOST_TASKS]
    intro h2 h3
    have h2 := of_decide_eq_true h2
    simp only [Bool.not_eq_false', decide_eq_true_eq] at h3
    exact absurd ⟨by omega, by omega⟩ h1
theorem nin_tx : ∀ r ∈ txT, notInA (.str r) gv_RULES = .ok (.bl (!decide (r ∈ nmT))) := by
  intro r hr
  unfold txT at hr
  simp only [List.mem_cons, List.not_mem_nil, or_false] at hr
  rcases hr with rfl | rfl | rfl | rfl | rfl | rfl | rfl | rfl <;> kernel_rfl
theorem lenSet_rD {ru : List Str} (hr : ru.length ≤ 10) : lenSetD (.tup (rD ru)) = .ok (.int (nubG ru).length) := by
  cases ru with
  | nil => rfl
  | cons r ru =>
    have h := asS_rD (r :: ru)
    have h1 : asI (rD (r :: ru)) = none := rfl
    have h2 : asTs (rD (r :: ru)) = none := rfl
    simp only [lenSetD, h, h1, h2]
    rw [if_pos (by omega)]
theorem tst2 {b : Bool} {L : List Int} {ru : List Str} (hx : TxS ru) (hr : ru.length ≤ 10) : Ok (tO (tT' (eC (f1 anyD) (aC (lcE (fun S => (eV 2) S >>= itemsD) (gN 4) tY (e2 notInA (eW 4) (eG gv_RULES)) [4]) aN))) (tB' (e2 ltD (e1 lenSetD (eW 2)) (eC (f1 lenD) (aC (eW 2) aN)))) [(some (Sl.mk true (tkO L ru))), (some (Sl.mk false (seqD b (L.map .int)))), (some (Sl.mk false (.tup (rD ru)))), none, none]) fun v => v = !decide (GT2 ru) := by
  have hs := size_ge
  simp? only []
  refine k_lcM D.str (fun r => .bl (!decide (r ∈ nmT))) ru (by simp? only []) (by omega) (fun r hr' => by simp? only [nin_tx r (hx r hr')]) ?_
  simp? only [k_any]
  refine ⟨fun h => ?_, fun h => ?_⟩
  · have : ¬ GT2 ru := fun z => by
      obtain ⟨x, hx, hn⟩ := List.any_eq_true.mp h
      have := z.1 x hx
      simp [this] at hn
    rw [decide_eq_false this]
    rfl
  · have h2 : ∀ r ∈ ru, r ∈ nmT := fun r hr => by
      have := List.any_eq_false.mp h r hr
      simpa using this
    simp? only [lenSet_rD hr]
    by_cases hn : ru.Nodup
    · have g : GT2 ru := ⟨h2, hn⟩
      rw [decide_eq_true g, nd_nubG hn]
      simp
    · have g : ¬ GT2 ru := fun z => hn z.2
      rw [decide_eq_false g]
      have := nub_lt.mpr hn
      simp
      omega
theorem tupD_seq {b : Bool} {xs : List D} : tupD (seqD b xs) = .ok (.tup xs) := by cases b <;> rfl
theorem p_TakingG {b : Bool} {L : List Int} {ru : List Str} (hx : TxS ru) (hl : L.length ≤ 10) (hr : ru.length ≤ 10) (g1 : GT1 L) (g2 : GT2 ru) : d_Taking [seqD b (L.map .int), .tup (rD ru)] = .ok (tkO L ru) := by
  have hs := size_ge
  apply Ok.eq
  unfold d_Taking m_Taking
  rw [k_runN]
  refine seq_cut (fun S => S = [(some (Sl.mk true (.obj 7 [.tup (L.map .int)]))), (some (Sl.mk false (seqD b (L.map .int)))), (some (Sl.mk false (.tup (rD ru)))), none, none]) (by simp? only [tupD_seq]) ?_
  rintro S rfl
  refine seq_cut (fun S => S = [(some (Sl.mk true (tkO L ru))), (some (Sl.mk false (seqD b (L.map .int)))), (some (Sl.mk false (.tup (rD ru)))), none, none]) ?_ ?_
  · simp? only [show srtAD (.tup (rD ru)) = .ok (.lst (srt (rD ru))) from srtAD_rD (b := true) hx]
    rfl
  rintro S rfl
  refine seq_cut (fun S => S = [(some (Sl.mk true (tkO L ru))), (some (Sl.mk false (seqD b (L.map .int)))), (some (Sl.mk false (.tup (rD ru)))), none, none]) ?_ ?_
  · rw [k_guardX]
    refine (tst1 hl).mono ?_
    rintro v rfl
    rw [decide_eq_true g1]
    exact ⟨rfl, rfl, rfl⟩
  rintro S rfl
  rw [k_guardX]
  refine (tst2 hx hr).mono ?_
  rintro v rfl
  rw [decide_eq_true g2]
  refine ⟨rfl, ?_⟩
  simp? only []
theorem p_TakingX {b : Bool} {L : List Int} {ru : List Str} (hx : TxS ru) (hl : L.length ≤ 10) (hr : ru.length ≤ 10) (h : ¬ (GT1 L ∧ GT2 ru)) : d_Taking [seqD b (L.map .int), .tup (rD ru)] = .exc ⟨210, []⟩ := by
  have hs := size_ge
  refine x_runN ?_
  unfold m_Taking
  have e0 : startN 5 7 [seqD b (L.map .int), .tup (rD ru)] = [(some (Sl.mk true (.obj 7 []))), (some (Sl.mk false (seqD b (L.map .int)))), (some (Sl.mk false (.tup (rD ru)))), none, none] := rfl
  rw [e0]
  refine x_seq2 (Ok.mono (P := fun z => z = (.nx, [(some (Sl.mk true (.obj 7 [.tup (L.map .int)]))), (some (Sl.mk false (seqD b (L.map .int)))), (some (Sl.mk false (.tup (rD ru)))), none, none])) (by simp? only [tupD_seq]) ?_)
  rintro z rfl
  refine ⟨rfl, x_seq2 (Ok.mono (P := fun z => z = (.nx, [(some (Sl.mk true (tkO L ru))), (some (Sl.mk false (seqD b (L.map .int)))), (some (Sl.mk false (.tup (rD ru)))), none, none])) ?_ ?_)⟩
  · simp? only [show srtAD (.tup (rD ru)) = .ok (.lst (srt (rD ru))) from srtAD_rD (b := true) hx]
    rfl
  rintro z rfl
  refine ⟨rfl, ?_⟩
  by_cases g1 : GT1 L
  · refine x_seq2 (Ok.mono (P := fun z => z = (.nx, [(some (Sl.mk true (tkO L ru))), (some (Sl.mk false (seqD b (L.map .int)))), (some (Sl.mk false (.tup (rD ru)))), none, none])) ?_ ?_)
    · rw [k_guardX]
      refine (tst1 hl).mono ?_
      rintro v rfl
      rw [decide_eq_true g1]
      exact ⟨rfl, rfl⟩
    · rintro z rfl
      refine ⟨rfl, x_if ((tst2 hx hr).mono ?_)⟩
      rintro v rfl
      rw [decide_eq_false fun g2 => h ⟨g1, g2⟩]
      rfl
  · refine x_seq1 (x_if ((tst1 hl).mono ?_))
    rintro v rfl
    rw [decide_eq_false g1]
    rfl
set_option Elab.async false
set_option linter.all false
set_option maxRecDepth 100000
open M PySem L2
theorem at_3 {a b c e : D} {l : List D} : L2.atI (a :: b :: c :: e :: l) 3 = some e := by
  have := atN (xs := a :: b :: c :: e :: l) (c := 3) (by simp)
  simpa using this
theorem x_ret {f : FE} {S : M.Env} {x : Exc} (h : f S = .exc x) : sRet f S = .exc x := by unfold sRet; rw [h]; rfl
theorem dx00 : decide (((0 : Nat) : Int) = 0) = true := rfl
theorem dx01 : decide (((0 : Nat) : Int) = 1) = false := rfl
theorem dx02 : decide (((0 : Nat) : Int) = 2) = false := rfl
theorem dx03 : decide (((0 : Nat) : Int) = 3) = false := rfl
theorem dx10 : decide (((1 : Nat) : Int) = 0) = false := rfl
theorem dx11 : decide (((1 : Nat) : Int) = 1) = true := rfl
theorem dx12 : decide (((1 : Nat) : Int) = 2) = false := rfl
theorem dx13 : decide (((1 : Nat) : Int) = 3) = false := rfl
theorem dx20 : decide (((2 : Nat) : Int) = 0) = false := rfl
theorem dx21 : decide (((2 : Nat) : Int) = 1) = false := rfl
theorem dx22 : decide (((2 : Nat) : Int) = 2) = true := rfl
theorem dx23 : decide (((2 : Nat) : Int) = 3) = false := rfl
theorem dx30 : decide (((3 : Nat) : Int) = 0) = false := rfl
theorem dx31 : decide (((3 : Nat) : Int) = 1) = false := rfl
theorem dx32 : decide (((3 : Nat) : Int) = 2) = false := rfl
theorem dx33 : decide (((3 : Nat) : Int) = 3) = true := rfl
theorem dx40 : decide (((4 : Nat) : Int) = 0) = false := rfl
theorem dx41 : decide (((4 : Nat) : Int) = 1) = false := rfl
theorem dx42 : decide (((4 : Nat) : Int) = 2) = false := rfl
theorem dx43 : decide (((4 : Nat) : Int) = 3) = false := rfl
theorem p_ltG {d o : D} : ∀ {ru : List Str}, ru.length ≤ 4 → d_Taking [d, .tup (rD ru)] = .ok o → d__law_taking [d, .lst (rD ru)] = .ok o := by
  intro ru h T
  have hs := size_ge
  apply Ok.eq
  unfold d__law_taking m__law_taking
  rw [k_run]
  match ru, h, T with
  | [], _, T =>
    have T : d_Taking [d, .tup []] = .ok o := T
    simp? only [k_CXS, mk_nil, tk1, dp1, T, at_0, at_1, at_2, at_3, dx00, dx01, dx02, dx03, dx10, dx11, dx12, dx13, dx20, dx21, dx22, dx23, dx30, dx31, dx32, dx33, dx40, dx41, dx42, dx43]
  | [a], _, T =>
    have T : d_Taking [d, .tup [.str a]] = .ok o := T
    simp? only [k_CXS, mk_nil, tk1, dp1, T, at_0, at_1, at_2, at_3, dx00, dx01, dx02, dx03, dx10, dx11, dx12, dx13, dx20, dx21, dx22, dx23, dx30, dx31, dx32, dx33, dx40, dx41, dx42, dx43]
  | [a, b], _, T =>
    have T : d_Taking [d, .tup [.str a, .str b]] = .ok o := T
    simp? only [k_CXS, mk_nil, tk1, dp1, T, at_0, at_1, at_2, at_3, dx00, dx01, dx02, dx03, dx10, dx11, dx12, dx13, dx20, dx21, dx22, dx23, dx30, dx31, dx32, dx33, dx40, dx41, dx42, dx43]
  | [a, b, c], _, T =>
    have T : d_Taking [d, .tup [.str a, .str b, .str c]] = .ok o := T
    simp? only [k_CXS, mk_nil, tk1, dp1, T, at_0, at_1, at_2, at_3, dx00, dx01, dx02, dx03, dx10, dx11, dx12, dx13, dx20, dx21, dx22, dx23, dx30, dx31, dx32, dx33, dx40, dx41, dx42, dx43]
  | [a, b, c, e], _, T =>
    have T : d_Taking [d, .tup [.str a, .str b, .str c, .str e]] = .ok o := T
    simp? only [k_CXS, mk_nil, tk1, dp1, T, at_0, at_1, at_2, at_3, dx00, dx01, dx02, dx03, dx10, dx11, dx12, dx13, dx20, dx21, dx22, dx23, dx30, dx31, dx32, dx33, dx40, dx41, dx42, dx43]
  | _ :: _ :: _ :: _ :: _ :: _, h, _ => exact absurd h (by simp)
theorem p_ltX {d : D} {x : Exc} : ∀ {ru : List Str}, ru.length ≤ 4 → d_Taking [d, .tup (rD ru)] = .exc x → d__law_taking [d, .lst (rD ru)] = .exc x := by
  intro ru h T
  have hs := size_ge
  refine x_runF ?_
  unfold m__law_taking
  match ru, h, T with
  | [], _, T =>
    have T : d_Taking [d, .tup []] = .exc x := T
    rw [show startS 2 [d, .lst (rD [])] = [(some (Sl.mk false (d))), (some (Sl.mk false (.lst [])))] from rfl]
    refine x_seq1 (x_if1 (by simp? only [dx00, dx01, dx02, dx03, dx10, dx11, dx12, dx13, dx20, dx21, dx22, dx23, dx30, dx31, dx32, dx33, dx40, dx41, dx42, dx43]) (x_ret (x_CXS ?_)))
    simp? only [mk_nil, tk1, dp1, T, at_0, at_1, at_2, at_3]
  | [a], _, T =>
    have T : d_Taking [d, .tup [.str a]] = .exc x := T
    rw [show startS 2 [d, .lst (rD [a])] = [(some (Sl.mk false (d))), (some (Sl.mk false (.lst [.str a])))] from rfl]
    refine x_seq2 (Ok.mono (P := fun z => z = (.nx, [(some (Sl.mk false (d))), (some (Sl.mk false (.lst [.str a])))])) (by simp? only [dx00, dx01, dx02, dx03, dx10, dx11, dx12, dx13, dx20, dx21, dx22, dx23, dx30, dx31, dx32, dx33, dx40, dx41, dx42, dx43]) ?_)
    rintro z rfl
    refine ⟨rfl, ?_⟩
    refine x_seq1 (x_if1 (by simp? only [dx00, dx01, dx02, dx03, dx10, dx11, dx12, dx13, dx20, dx21, dx22, dx23, dx30, dx31, dx32, dx33, dx40, dx41, dx42, dx43]) (x_ret (x_CXS ?_)))
    simp? only [mk_nil, tk1, dp1, T, at_0, at_1, at_2, at_3]
  | [a, b], _, T =>
    have T : d_Taking [d, .tup [.str a, .str b]] = .exc x := T
    rw [show startS 2 [d, .lst (rD [a, b])] = [(some (Sl.mk false (d))), (some (Sl.mk false (.lst [.str a, .str b])))] from rfl]
    refine x_seq2 (Ok.mono (P := fun z => z = (.nx, [(some (Sl.mk false (d))), (some (Sl.mk false (.lst [.str a, .str b])))])) (by simp? only [dx00, dx01, dx02, dx03, dx10, dx11, dx12, dx13, dx20, dx21, dx22, dx23, dx30, dx31, dx32, dx33, dx40, dx41, dx42, dx43]) ?_)
    rintro z rfl
    refine ⟨rfl, ?_⟩
    refine x_seq2 (Ok.mono (P := fun z => z = (.nx, [(some (Sl.mk false (d))), (some (Sl.mk false (.lst [.str a, .str b])))])) (by simp? only [dx00, dx01, dx02, dx03, dx10, dx11, dx12, dx13, dx20, dx21, dx22, dx23, dx30, dx31, dx32, dx33, dx40, dx41, dx42, dx43]) ?_)
    rintro z rfl
    refine ⟨rfl, ?_⟩
    refine x_seq1 (x_if1 (by simp? only [dx00, dx01, dx02, dx03, dx10, dx11, dx12, dx13, dx20, dx21, dx22, dx23, dx30, dx31, dx32, dx33, dx40, dx41, dx42, dx43]) (x_ret (x_CXS ?_)))
    simp? only [mk_nil, tk1, dp1, T, at_0, at_1, at_2, at_3]
  | [a, b, c], _, T =>
    have T : d_Taking [d, .tup [.str a, .str b, .str c]] = .exc x := T
    rw [show startS 2 [d, .lst (rD [a, b, c])] = [(some (Sl.mk false (d))), (some (Sl.mk false (.lst [.str a, .str b, .str c])))] from rfl]
    refine x_seq2 (Ok.mono (P := fun z => z = (.nx, [(some (Sl.mk false (d))), (some (Sl.mk false (.lst [.str a, .str b, .str c])))])) (by simp? only [dx00, dx01, dx02, dx03, dx10, dx11, dx12, dx13, dx20, dx21, dx22, dx23, dx30, dx31, dx32, dx33, dx40, dx41, dx42, dx43]) ?_)
    rintro z rfl
    refine ⟨rfl, ?_⟩
    refine x_seq2 (Ok.mono (P := fun z => z = (.nx, [(some (Sl.mk false (d))), (some (Sl.mk false (.lst [.str a, .str b, .str c])))])) (by simp? only [dx00, dx01, dx02, dx03, dx10, dx11, dx12, dx13, dx20, dx21, dx22, dx23, dx30, dx31, dx32, dx33, dx40, dx41, dx42, dx43]) ?_)
    rintro z rfl
    refine ⟨rfl, ?_⟩
    refine x_seq2 (Ok.mono (P := fun z => z = (.nx, [(some (Sl.mk false (d))), (some (Sl.mk false (.lst [.str a, .str b, .str c])))])) (by simp? only [dx00, dx01, dx02, dx03, dx10, dx11, dx12, dx13, dx20, dx21, dx22, dx23, dx30, dx31, dx32, dx33, dx40, dx41, dx42, dx43]) ?_)
    rintro z rfl
    refine ⟨rfl, ?_⟩
    refine x_seq1 (x_if1 (by simp? only [dx00, dx01, dx02, dx03, dx10, dx11, dx12, dx13, dx20, dx21, dx22, dx23, dx30, dx31, dx32, dx33, dx40, dx41, dx42, dx43]) (x_ret (x_CXS ?_)))
    simp? only [mk_nil, tk1, dp1, T, at_0, at_1, at_2, at_3]
  | [a, b, c, e], _, T =>
    have T : d_Taking [d, .tup [.str a, .str b, .str c, .str e]] = .exc x := T
    rw [show startS 2 [d, .lst (rD [a, b, c, e])] = [(some (Sl.mk false (d))), (some (Sl.mk false (.lst [.str a, .str b, .str c, .str e])))] from rfl]
    refine x_seq2 (Ok.mono (P := fun z => z = (.nx, [(some (Sl.mk false (d))), (some (Sl.mk false (.lst [.str a, .str b, .str c, .str e])))])) (by simp? only [dx00, dx01, dx02, dx03, dx10, dx11, dx12, dx13, dx20, dx21, dx22, dx23, dx30, dx31, dx32, dx33, dx40, dx41, dx42, dx43]) ?_)
    rintro z rfl
    refine ⟨rfl, ?_⟩
    refine x_seq2 (Ok.mono (P := fun z => z = (.nx, [(some (Sl.mk false (d))), (some (Sl.mk false (.lst [.str a, .str b, .str c, .str e])))])) (by simp? only [dx00, dx01, dx02, dx03, dx10, dx11, dx12, dx13, dx20, dx21, dx22, dx23, dx30, dx31, dx32, dx33, dx40, dx41, dx42, dx43]) ?_)
    rintro z rfl
    refine ⟨rfl, ?_⟩
    refine x_seq2 (Ok.mono (P := fun z => z = (.nx, [(some (Sl.mk false (d))), (some (Sl.mk false (.lst [.str a, .str b, .str c, .str e])))])) (by simp? only [dx00, dx01, dx02, dx03, dx10, dx11, dx12, dx13, dx20, dx21, dx22, dx23, dx30, dx31, dx32, dx33, dx40, dx41, dx42, dx43]) ?_)
    rintro z rfl
    refine ⟨rfl, ?_⟩
    refine x_seq2 (Ok.mono (P := fun z => z = (.nx, [(some (Sl.mk false (d))), (some (Sl.mk false (.lst [.str a, .str b, .str c, .str e])))])) (by simp? only [dx00, dx01, dx02, dx03, dx10, dx11, dx12, dx13, dx20, dx21, dx22, dx23, dx30, dx31, dx32, dx33, dx40, dx41, dx42, dx43]) ?_)
    rintro z rfl
    refine ⟨rfl, ?_⟩
    refine x_ret (x_CXS ?_)
    simp? only [mk_nil, tk1, dp1, T, at_0, at_1, at_2, at_3]
  | _ :: _ :: _ :: _ :: _ :: _, h, _ => exact absurd h (by simp)
theorem p_alone : d__law_alone ⟨210, []⟩ [.cls xix] = .ok (.bl true) := by kernel_rfl
theorem try_refused {d1 d2 : D} {f : FE} (h : f [(some (Sl.mk false (d1))), (some (Sl.mk false (d2))), none] = .exc ⟨210, []⟩) : Ok (sSeq (sTryAs mt_BreachError 2 (sDrop f) fun y => (sRet (eCHE y d__law_alone (aC (eV 2) aN)))) (sRet (eB false)) [(some (Sl.mk false (d1))), (some (Sl.mk false (d2))), none]) fun z => z.1 = .rt (.bl true) := by
  have e1 : sDrop f [(some (Sl.mk false (d1))), (some (Sl.mk false (d2))), none] = .exc ⟨210, []⟩ := x_drop h
  have e2 : sTryAs mt_BreachError 2 (sDrop f) (fun y => (sRet (eCHE y d__law_alone (aC (eV 2) aN)))) [(some (Sl.mk false (d1))), (some (Sl.mk false (d2))), none] = .ok (.rt (.bl true), [(some (Sl.mk false (d1))), (some (Sl.mk false (d2))), (some (Sl.mk false (.cls xix)))]) := by
    unfold sTryAs
    rw [if_pos (show noOwn [(some (Sl.mk false (d1))), (some (Sl.mk false (d2))), none] = true from rfl), e1]
    show hndF (sRet (eCHE ⟨210, []⟩ d__law_alone (aC (eV 2) aN))) [(some (Sl.mk false (d1))), (some (Sl.mk false (d2))), (some (Sl.mk false (.cls xix)))] = _
    have e3 : (sRet (eCHE ⟨210, []⟩ d__law_alone (aC (eV 2) aN))) [(some (Sl.mk false (d1))), (some (Sl.mk false (d2))), (some (Sl.mk false (.cls xix)))] = .ok (.rt (.bl true), [(some (Sl.mk false (d1))), (some (Sl.mk false (d2))), (some (Sl.mk false (.cls xix)))]) := by
      show ((d__law_alone ⟨210, []⟩ [.cls xix]).nox >>= _) = _
      rw [p_alone]
      rfl
    unfold hndF
    rw [e3]
    rfl
  unfold sSeq
  rw [e2]
  exact ⟨_, rfl, rfl⟩
theorem p_brefused {b : Bool} {L : List Int} {ru : List Str} (hx : TxS ru) (hl : L.length ≤ 10) (hr : ru.length ≤ 4) (h : ¬ (GT1 L ∧ GT2 ru)) : d__law_book_refused [seqD b (L.map .int), .lst (rD ru)] = .ok (.bl true) := by
  have e : Ok (m__law_book_refused [(some (Sl.mk false (seqD b (L.map .int)))), (some (Sl.mk false (.lst (rD ru)))), none]) fun z => z.1 = .rt (.bl true) := try_refused (by
    show d__law_taking [seqD b (L.map .int), .lst (rD ru)] = _
    exact p_ltX hr (p_TakingX hx hl (by omega) h))
  obtain ⟨⟨fl, S⟩, e1, e2⟩ := e
  dsimp only at e2
  subst e2
  show (runF false 3 m__law_book_refused [seqD b (L.map .int), .lst (rD ru)]).nox = _
  unfold runF
  have e3 : startS 3 [seqD b (L.map .int), .lst (rD ru)] = [(some (Sl.mk false (seqD b (L.map .int)))), (some (Sl.mk false (.lst (rD ru)))), none] := rfl
  rw [e3, e1]
  rfl
theorem cnt_rD {t : Str} {ru : List Str} : cntD (.lst (rD ru)) (.str t) = .ok (.int ((ru.filter fun z => decide (z = t)).length : Nat)) := by
  have h := txs_map (fun z : Str => z) ru
  rw [List.map_id'] at h
  have h : txsOf (rD ru) = some ru := h
  simp only [cntD, h]
theorem k_Cnt {f g : FE} {S : M.Env} {Q : D → Prop} : Ok (eCnt f g S) Q ↔ Ok (f S) fun x => M.isLst x = true ∧ Ok (g S) fun y => Ok (cntD x y).nox Q := by
  unfold eCnt
  simp only [ok_bind, ok_if]
theorem cnt_nd {ru : List Str} {r : Str} (hn : ru.Nodup) (hr : r ∈ ru) : (ru.filter fun z => decide (z = r)).length = 1 := by
  have h1 : (ru.filter fun z => decide (z = r)).length ≤ [r].length := nd_subT (hn.sublist List.filter_sublist) fun x hx => by
    have := (List.mem_filter.mp hx).2
    simpa using this
  have h2 : 0 < (ru.filter fun z => decide (z = r)).length := List.length_pos_of_mem (List.mem_filter.mpr ⟨hr, by simp⟩)
  simp only [List.length_cons, List.length_nil] at h1
  omega
theorem good2 {ru : List Str} : (nmT.filter fun n => decide (((ru.filter fun z => decide (z = n)).length : Int) = 1)).length = ru.length ↔ GT2 ru := by
  have hF : (nmT.filter fun n => decide (((ru.filter fun z => decide (z = n)).length : Int) = 1)).Nodup := List.Nodup.sublist List.filter_sublist (by decide)
  have hm : ∀ n ∈ nmT.filter fun n => decide (((ru.filter fun z => decide (z = n)).length : Int) = 1), n ∈ nmT ∧ n ∈ ru := fun n hn => by
    obtain ⟨h1, h2⟩ := List.mem_filter.mp hn
    refine ⟨h1, ?_⟩
    have h2 := of_decide_eq_true h2
    have h3 : 0 < (ru.filter fun z => decide (z = n)).length := by omega
    obtain ⟨z, hz⟩ := List.exists_mem_of_length_pos h3
    obtain ⟨h4, h5⟩ := List.mem_filter.mp hz
    have h5 := of_decide_eq_true h5
    rw [← h5]; exact h4
  constructor
  · intro h
    refine ⟨fun r hr => ?_, ?_⟩
    · refine Classical.byContradiction fun hn => ?_
      have := nd_subT hF (b := ru.erase r) fun n hn' => by
        obtain ⟨h1, h2⟩ := hm n hn'
        exact (List.mem_erase_of_ne (fun z : n = r => hn (by rw [← z]; exact h1))).mpr h2
      rw [List.length_erase_of_mem hr] at this
      have := List.length_pos_of_mem hr
      omega
    · refine Classical.byContradiction fun hn => ?_
      obtain ⟨ys, h1, h2⟩ := short_of hn
      have := nd_subT hF (b := ys) fun n hn' => h2 n (hm n hn').2
      omega
  · rintro ⟨h1, h2⟩
    have a1 := nd_subT hF (b := ru) fun n hn => (hm n hn).2
    have a2 := nd_subT h2 (b := nmT.filter fun n => decide (((ru.filter fun z => decide (z = n)).length : Int) = 1)) fun r hr => List.mem_filter.mpr ⟨h1 r hr, by rw [cnt_nd h2 hr]; rfl⟩
    omega
theorem p_gbook {L : List Int} {ru : List Str} (hl : L.length ≤ 10) (hr : ru.length ≤ 10) : d__law_good_book [.lst (L.map .int), .lst (rD ru)] = .ok (.bl (decide (GT1 L ∧ GT2 ru))) := by
  have hs := size_ge
  apply Ok.eq
  unfold d__law_good_book m__law_good_book
  rw [ok_nox, k_run]
  refine seq_cut (fun S => S = [(some (Sl.mk false (.lst (L.map .int)))), (some (Sl.mk false (.lst (rD ru)))), (some (Sl.mk false (.lst (rD (nmT.filter fun n => decide (((ru.filter fun z => decide (z = n)).length : Int) = 1)))))), none, none]) ?_ ?_
  · simp? only []
    refine k_lcT D.str (fun n => decide (((ru.filter fun z => decide (z = n)).length : Int) = 1)) D.str nmT (by simp? only []; rfl) (by decide) (fun n _ => ?_) ?_
    · simp? only [k_Cnt, cnt_rD]
      rfl
    · simp? only []
  rintro S rfl
  have hg : decide (((nmT.filter fun n => decide (((ru.filter fun z => decide (z = n)).length : Int) = 1)).length : Int) = ru.length) = decide (GT2 ru) := by
    have := good2 (ru := ru)
    rw [decide_eq_decide, ← this]
    omega
  simp? only []
  refine ⟨fun h1 => ⟨fun h2 => ?_, fun h2 => ?_⟩, fun h1 => ?_⟩
  · refine k_lcM D.int (fun x => .bl (decide (0 ≤ x) && decide (x ≤ 5))) L (by simp? only []) (by omega) ?_ ?_
    · intro x hx
      simp? only []
      exact ⟨fun h => by rw [h]; rfl, fun h => by rw [h]; rfl⟩
    · simp? only [k_all]
      have h1 := of_decide_eq_true h1
      have h2 := of_decide_eq_true h2
      refine ⟨fun h => ?_, fun h => ?_⟩
      · have g : GT1 L := ⟨⟨by omega, by omega⟩, fun x hx => by
          have := List.all_eq_true.mp h x hx
          simp at this
          exact this⟩
        rw [hg]
        congr 1
        rw [decide_eq_decide]
        exact ⟨fun z => ⟨g, z⟩, fun z => z.2⟩
      · rw [decide_eq_false fun z => ?_]
        have : (L.all fun x => decide (0 ≤ x) && decide (x ≤ 5)) = true := List.all_eq_true.mpr fun x hx => by
          have := z.1.2 x hx
          simp [this.1, this.2]
        rw [this] at h
        cases h
  · have h2 := of_decide_eq_false h2
    rw [decide_eq_false fun z => h2 (by have := z.1.1.2; omega)]
  · have h1 := of_decide_eq_false h1
    rw [decide_eq_false fun z => h1 (by have := z.1.1.1; omega)]
set_option Elab.async false
set_option linter.all false
set_option maxRecDepth 100000
open M PySem L2
theorem p_put {xs : List D} {i : Int} {y : D} (hl : xs.length ≤ 100) : ∃ k, k ≤ xs.length ∧ d__law_put [.lst xs, .int i, y] = .ok (.lst (xs.take k ++ [y] ++ xs.drop k)) := by
  have hs := size_ge
  have hb := mod_b i (m := (xs.length : Int) + 1) (by omega)
  obtain ⟨k, hk⟩ : ∃ k : Nat, i % ((xs.length : Int) + 1) = k := ⟨(i % ((xs.length : Int) + 1)).toNat, by omega⟩
  refine ⟨k, by omega, ?_⟩
  apply Ok.eq
  unfold d__law_put m__law_put
  rw [ok_nox, k_run]
  refine seq_cut (fun S => S = [(some (Sl.mk false (.lst xs))), (some (Sl.mk false (.int i))), (some (Sl.mk false (y))), (some (Sl.mk false (.int k)))]) ?_ ?_
  · simp? only []
    exact ⟨by omega, by rw [hk]⟩
  rintro S rfl
  simp? only [k_Sl, k_oS, k_toI, k_slL]
  rw [cut_take (by omega), cut_drop (by omega), Int.toNat_natCast]
  refine ⟨?_, ?_, rfl⟩
  · rw [List.length_take]; omega
  · simp only [List.length_append, List.length_take, List.length_drop, List.length_cons, List.length_nil]; omega
theorem p_putS {ru : List Str} {i : Int} {t : Str} (hl : ru.length ≤ 50) : ∃ ru' : List Str, ru'.Perm (t :: ru) ∧ d__law_put [.lst (rD ru), .int i, .str t] = .ok (.lst (rD ru')) := by
  obtain ⟨k, hk, e⟩ := p_put (xs := rD ru) (i := i) (y := .str t) (by rw [List.length_map]; omega)
  refine ⟨ru.take k ++ [t] ++ ru.drop k, ?_, ?_⟩
  · rw [List.append_assoc]
    show (ru.take k ++ t :: ru.drop k).Perm (t :: ru)
    refine List.perm_middle.trans ?_
    rw [List.take_append_drop]
  · rw [e]
    unfold rD
    simp only [List.map_append, List.map_take, List.map_drop, List.map_cons, List.map_nil]
theorem nm_tx : ∀ x ∈ nmT, x ∈ txT := by decide
theorem ne_tx {r t : Str} (hr : r ∈ txT) (ht : t ∈ txT) : neD (.str r) (.str t) = .ok (.bl (!decide (r = t))) := by
  have h1 : dok 60 (.str r) = true := by simp only [dok]; exact dok_tx r hr
  have h2 : dok 60 (.str t) = true := by simp only [dok]; exact dok_tx t ht
  unfold neD
  rw [h1, h2]
  have : deq (.str r) (.str t) = decide (r = t) := by
    simp only [deq]
    by_cases h : r = t
    · subst h; simp
    · simp [h]
  rw [this]
  rfl
theorem p_putI {q : List Int} {i z : Int} (hl : q.length ≤ 50) : ∃ q' : List Int, q'.length = q.length + 1 ∧ d__law_put [.lst (q.map .int), .int i, .int z] = .ok (.lst (q'.map .int)) := by
  obtain ⟨k, hk, e⟩ := p_put (xs := q.map D.int) (i := i) (y := .int z) (by rw [List.length_map]; omega)
  refine ⟨q.take k ++ [z] ++ q.drop k, ?_, ?_⟩
  · simp only [List.length_append, List.length_take, List.length_drop, List.length_cons, List.length_nil]
    rw [List.length_map] at hk
    omega
  · rw [e]
    simp only [List.map_append, List.map_take, List.map_drop, List.map_cons, List.map_nil]
theorem p_lbook {l : List Int} (hl : Dr 14 l) : ∃ (L : List Int) (ru : List Str), L.length ≤ 6 ∧ ru.length ≤ 4 ∧ TxS ru ∧ d__law_book [.lst (l.map .int)] = .ok (.tup [.lst (L.map .int), .lst (rD ru)]) := by
  have hs := size_ge
  have at_ : ∀ i : Int, 0 ≤ i → i < 14 → L2.atI (l.map D.int) i = some (.int (drw l i)) := fun i h0 h1 => hl.at h0 h1
  suffices h : Ok (d__law_book [.lst (l.map .int)]) fun d => ∃ (L : List Int) (ru : List Str), (L.length ≤ 6 ∧ ru.length ≤ 4 ∧ TxS ru) ∧ d = .tup [.lst (L.map .int), .lst (rD ru)] by
    obtain ⟨d, e, L, ru, ⟨h1, h2, h3⟩, rfl⟩ := h
    exact ⟨L, ru, h1, h2, h3, e⟩
  unfold d__law_book m__law_book
  rw [ok_nox, k_run]
  refine seq_cut (fun S => ∃ L : List Int, (1 ≤ L.length ∧ L.length ≤ 5) ∧ S = [(some (Sl.mk false (.lst (l.map .int)))), none, (some (Sl.mk true (.lst (L.map .int)))), none, none, none, none, none, none]) ?_ ?_
  · have b0 := mod_b (drw l 0) (m := 5) (by omega)
    obtain ⟨m, hm⟩ : ∃ m : Nat, 1 + drw l 0 % 5 = m := ⟨(1 + drw l 0 % 5).toNat, by omega⟩
    simp? only []
    refine k_lcM (fun (i : Nat) => D.int (0 + (i : Int))) (fun (i : Nat) => .int (drw l (1 + (0 + (i : Int))) % 6)) (List.range m) ?_ (by rw [List.length_range]; omega) ?_ ?_
    · simp? only [at_ 0 (by omega) (by omega), hm]
      exact ⟨by omega, ⟨by omega, by omega⟩, by rw [Int.toNat_natCast]; rfl⟩
    · intro i hi
      have hi := List.mem_range.mp hi
      simp? only [at_ (1 + (0 + (i : Int))) (by omega) (by omega)]
      omega
    · simp? only []
      refine ⟨(List.range m).map fun (i : Nat) => drw l (1 + (0 + (i : Int))) % 6, ⟨by rw [List.length_map, List.length_range]; omega, by rw [List.length_map, List.length_range]; omega⟩, by rw [List.map_map]; rfl⟩
  rintro S ⟨L, hL, rfl⟩
  refine seq_cut (fun S => S = [(some (Sl.mk false (.lst (l.map .int)))), none, (some (Sl.mk true (.lst (L.map .int)))), (some (Sl.mk false (.lst (rD nmT)))), (some (Sl.mk false (.lst []))), none, none, none, none]) (by simp? only [putS]; rfl) ?_
  rintro S rfl
  refine seq_cut (fun S => ∃ (k : Option Sl) (ru : List Str), (ru.Nodup ∧ ∀ r ∈ ru, r ∈ nmT) ∧ S = [(some (Sl.mk false (.lst (l.map .int)))), k, (some (Sl.mk true (.lst (L.map .int)))), (some (Sl.mk false (.lst (rD nmT)))), (some (Sl.mk false (.lst (rD ru)))), none, none, none, none]) ?_ ?_
  · rw [k_for]
    simp? only []
    refine ⟨⟨by omega, by omega⟩, ?_⟩
    refine for_inv (fun i S => ∃ (k : Option Sl) (ru : List Str), (ru.Nodup ∧ ∀ r ∈ ru, r ∈ nmT.take i) ∧ S = [(some (Sl.mk false (.lst (l.map .int)))), k, (some (Sl.mk true (.lst (L.map .int)))), (some (Sl.mk false (.lst (rD nmT)))), (some (Sl.mk false (.lst (rD ru)))), none, none, none, none]) _ (0 : Nat) _ ⟨none, [], ⟨List.nodup_nil, fun r h => nomatch h⟩, rfl⟩ ?_ ?_
    · rintro i d S hd ⟨k, ru, ⟨hr, hx⟩, rfl⟩
      obtain ⟨hi, rfl⟩ := rngL_get hd
      rw [Nat.zero_add] at hx
      have hi : i < 3 := hi
      rw [k_gN]
      have h3 : ru.length ≤ 3 := Nat.le_trans (nd_subT hr hx) (by rw [List.length_take]; omega)
      have n0 : L2.atI (rD nmT) 0 = some (.str "again") := rfl
      have n1 : L2.atI (rD nmT) 1 = some (.str "any") := rfl
      have n2 : L2.atI (rD nmT) 2 = some (.str "half") := rfl
      have up : ∀ {ru' : List Str} {t : Str} {i : Nat}, (∀ r ∈ ru, r ∈ nmT.take i) → ru'.Perm (t :: ru) → t ∉ nmT.take i → (∀ r ∈ t :: nmT.take i, r ∈ nmT.take (i + 1)) → ru'.Nodup ∧ ∀ r ∈ ru', r ∈ nmT.take (i + 1) := fun {ru' t i} hx h1 h2 h3 => by
        refine ⟨h1.nodup_iff.mpr (List.nodup_cons.mpr ⟨fun z => h2 (hx _ z), hr⟩), fun r hr => ?_⟩
        have := h1.mem_iff.mp hr
        rcases List.mem_cons.mp this with rfl | h
        · exact h3 _ (by simp)
        · exact h3 _ (List.mem_cons_of_mem _ (hx _ h))
      have st : ∀ {i : Nat}, (∀ r ∈ nmT.take i, r ∈ nmT.take (i + 1)) → (∀ r ∈ ru, r ∈ nmT.take i) → ru.Nodup ∧ ∀ r ∈ ru, r ∈ nmT.take (i + 1) := fun h1 hx => ⟨hr, fun r hr => h1 r (hx r hr)⟩
      obtain rfl | rfl | rfl : i = 0 ∨ i = 1 ∨ i = 2 := by omega
      · obtain ⟨ru', r1, r2⟩ := p_putS (ru := ru) (i := drw l 7) (t := "again") (by omega)
        simp? only [at_ 6 (by omega) (by omega), at_ 7 (by omega) (by omega), show ((0 : Int) + ((0 : Nat) : Int)) = 0 from rfl, show (7 : Int) + 0 = 7 from rfl, at_0, n0, r2]
        exact ⟨div_c (by omega) (by omega), by omega, fun _ => ⟨_, ru', up hx r1 (by decide) (by decide), rfl⟩, fun _ => ⟨_, ru, st (by decide) hx, rfl⟩⟩
      · obtain ⟨ru', r1, r2⟩ := p_putS (ru := ru) (i := drw l 8) (t := "any") (by omega)
        simp? only [at_ 6 (by omega) (by omega), at_ 8 (by omega) (by omega), show ((0 : Int) + ((1 : Nat) : Int)) = 1 from rfl, show (7 : Int) + 1 = 8 from rfl, at_1, n1, r2]
        exact ⟨div_c (by omega) (by omega), by omega, fun _ => ⟨_, ru', up hx r1 (by decide) (by decide), rfl⟩, fun _ => ⟨_, ru, st (by decide) hx, rfl⟩⟩
      · obtain ⟨ru', r1, r2⟩ := p_putS (ru := ru) (i := drw l 9) (t := "half") (by omega)
        simp? only [at_ 6 (by omega) (by omega), at_ 9 (by omega) (by omega), show ((0 : Int) + ((2 : Nat) : Int)) = 2 from rfl, show (7 : Int) + 2 = 9 from rfl, at_2, n2, r2]
        exact ⟨div_c (by omega) (by omega), by omega, fun _ => ⟨_, ru', up hx r1 (by decide) (by decide), rfl⟩, fun _ => ⟨_, ru, st (by decide) hx, rfl⟩⟩
    · rintro S ⟨k, ru, ⟨hr, hx⟩, rfl⟩
      exact ⟨rfl, k, ru, ⟨hr, hx⟩, rfl⟩
  rintro S ⟨k, ru, ⟨hr, hx⟩, rfl⟩
  have b12 := mod_b (drw l 12) (m := 3) (by omega)
  obtain ⟨j, hj⟩ : ∃ j : Nat, drw l 12 % 3 = j := ⟨(drw l 12 % 3).toNat, by omega⟩
  refine seq_cut (fun S => ∃ (f a : Int) (nm : Str), (0 ≤ a ∧ a < L.length ∧ nm ∈ nmT) ∧ S = [(some (Sl.mk false (.lst (l.map .int)))), k, (some (Sl.mk true (.lst (L.map .int)))), (some (Sl.mk false (.lst (rD nmT)))), (some (Sl.mk false (.lst (rD ru)))), (some (Sl.mk false (.int f))), (some (Sl.mk false (.int a))), (some (Sl.mk false (.str nm))), none]) ?_ ?_
  · simp? only [at_ 10 (by omega) (by omega), at_ 11 (by omega) (by omega), at_ 12 (by omega) (by omega)]
    have ba := mod_b (drw l 11) (m := (L.length : Int)) (by omega)
    have hj3 : j < 3 := by omega
    refine ⟨by omega, by omega, by omega, .str (nmT[j]'hj3), ?_, _, _, _, ⟨ba.1, ba.2, ?_⟩, rfl⟩
    · rw [hj, atI_map, atN (xs := nmT) (c := j) hj3]; rfl
    · exact List.getElem_mem hj3
  rintro S ⟨f, a, nm, ⟨ha0, ha1, hnm⟩, rfl⟩
  refine seq_cut (fun S => ∃ L2 : List Int, (L2.length ≤ 5 ∧ (f ≠ 0 → L2.length = L.length)) ∧ S = [(some (Sl.mk false (.lst (l.map .int)))), k, (some (Sl.mk true (.lst (L2.map .int)))), (some (Sl.mk false (.lst (rD nmT)))), (some (Sl.mk false (.lst (rD ru)))), (some (Sl.mk false (.int f))), (some (Sl.mk false (.int a))), (some (Sl.mk false (.str nm))), none]) ?_ ?_
  · simp? only []
    refine ⟨fun h => ⟨[], ⟨by simp, fun z => absurd (of_decide_eq_true h) z⟩, rfl⟩, fun h => ⟨L, ⟨hL.2, fun _ => rfl⟩, rfl⟩⟩
  rintro S ⟨L2, ⟨h2, h2'⟩, rfl⟩
  refine seq_cut (fun S => ∃ (o : Bool) (L3 : List Int), (L3.length ≤ 6 ∧ (f ≠ 0 → f ≠ 1 → o = true ∧ L3.length = L.length)) ∧ S = [(some (Sl.mk false (.lst (l.map .int)))), k, some ⟨o, .lst (L3.map .int)⟩, (some (Sl.mk false (.lst (rD nmT)))), (some (Sl.mk false (.lst (rD ru)))), (some (Sl.mk false (.int f))), (some (Sl.mk false (.int a))), (some (Sl.mk false (.str nm))), none]) ?_ ?_
  · simp? only [k_Sl, k_oS, k_toI, k_slL]
    refine ⟨fun h => ⟨by omega, false, (L2 ++ [0, 5, 2, 1, 3]).take 6, ⟨by rw [List.length_take]; omega, fun _ z => absurd (of_decide_eq_true h) z⟩, ?_⟩, fun h => ⟨true, L2, ⟨by omega, fun z _ => ⟨rfl, h2' z⟩⟩, rfl⟩⟩
    rw [cut_take (by omega)]
    simp only [List.map_append, List.map_take, List.map_cons, List.map_nil]
    rfl
  rintro S ⟨o, L3, ⟨h3, h3'⟩, rfl⟩
  have b1 := hl.b 12
  refine seq_cut (fun S => ∃ (o : Bool) (L3 : List Int), (L3.length ≤ 6 ∧ (f = 3 → o = true ∧ L3.length = L.length)) ∧ S = [(some (Sl.mk false (.lst (l.map .int)))), k, some ⟨o, .lst (L3.map .int)⟩, (some (Sl.mk false (.lst (rD nmT)))), (some (Sl.mk false (.lst (rD ru)))), (some (Sl.mk false (.int f))), (some (Sl.mk false (.int a))), (some (Sl.mk false (.str nm))), none]) ?_ ?_
  · simp? only [k_subN, at_ 12 (by omega) (by omega)]
    refine ⟨fun h => ?_, fun h => ⟨o, L3, ⟨h3, fun z => h3' (by omega) (by omega)⟩, rfl⟩⟩
    have h := of_decide_eq_true h
    obtain ⟨rfl, hlen⟩ := h3' (by omega) (by omega)
    simp? only []
    refine ⟨div_c (by omega) (by omega), a, a.toNat, rfl, (by have z := ixN_N (n := L3.length) (c := a.toNat) (by omega); rw [show ((a.toNat : Nat) : Int) = a by omega] at z; exact z), true, L3.set a.toNat (6 + drw l 12 / 10), ⟨by rw [List.length_set]; exact h3, fun z => by omega⟩, ?_⟩
    rw [List.map_set]
  rintro S ⟨o, L4, ⟨h4, h4'⟩, rfl⟩
  refine seq_cut (fun S => ∃ (o : Bool) (L3 : List Int), L3.length ≤ 6 ∧ S = [(some (Sl.mk false (.lst (l.map .int)))), k, some ⟨o, .lst (L3.map .int)⟩, (some (Sl.mk false (.lst (rD nmT)))), (some (Sl.mk false (.lst (rD ru)))), (some (Sl.mk false (.int f))), (some (Sl.mk false (.int a))), (some (Sl.mk false (.str nm))), none]) ?_ ?_
  · simp? only [k_subN, at_ 12 (by omega) (by omega)]
    refine ⟨fun h => ?_, fun h => ⟨o, L4, h4, rfl⟩⟩
    have h := of_decide_eq_true h
    obtain ⟨rfl, hlen⟩ := h4' h
    simp? only []
    refine ⟨div_c (by omega) (by omega), a, a.toNat, rfl, (by have z := ixN_N (n := L4.length) (c := a.toNat) (by omega); rw [show ((a.toNat : Nat) : Int) = a by omega] at z; exact z), true, L4.set a.toNat (-1 - drw l 12 / 10), by rw [List.length_set]; exact h4, ?_⟩
    rw [List.map_set]
  rintro S ⟨o, L5, h5, rfl⟩
  refine seq_cut (fun S => ∃ (ru2 : List Str), (ru2.length ≤ 4 ∧ TxS ru2 ∧ (f ≠ 4 → ru2.Nodup ∧ ∀ r ∈ ru2, r ∈ nmT)) ∧ S = [(some (Sl.mk false (.lst (l.map .int)))), k, some ⟨o, .lst (L5.map .int)⟩, (some (Sl.mk false (.lst (rD nmT)))), (some (Sl.mk false (.lst (rD ru2)))), (some (Sl.mk false (.int f))), (some (Sl.mk false (.int a))), (some (Sl.mk false (.str nm))), none]) ?_ ?_
  · simp? only [at_ 11 (by omega) (by omega), at_ 12 (by omega) (by omega)]
    have hru : ru.length ≤ 3 := nd_subT hr hx
    have hxt : TxS ru := fun r h => nm_tx r (hx r h)
    refine ⟨fun h => ⟨by omega, ?_⟩, fun h => ⟨ru, ⟨by omega, hxt, fun _ => ⟨hr, hx⟩⟩, rfl⟩⟩
    have h := of_decide_eq_true h
    have b5 := mod_b (drw l 12) (m := 5) (by omega)
    obtain ⟨q, hq⟩ : ∃ q : Nat, drw l 12 % 5 = q := ⟨(drw l 12 % 5).toNat, by omega⟩
    have hq5 : q < 5 := by omega
    let fs : List Str := ["all", "Any", "", "halves", "again "]
    obtain ⟨ru', r1, r2⟩ := p_putS (ru := ru) (i := drw l 11) (t := fs[q]'hq5) (by omega)
    have hfs : ∀ x ∈ fs, x ∈ txT := by decide
    refine ⟨.str (fs[q]'hq5), ?_, ?_⟩
    · rw [hq]
      have := atN (xs := fs.map D.str) (c := q) (by rw [List.length_map]; exact hq5)
      rw [List.getElem_map] at this
      exact this
    · rw [r2, ok_ok]
      have hl' := r1.length_eq
      rw [List.length_cons] at hl'
      refine ⟨ru', ⟨by omega, fun r hr' => ?_, fun z => absurd h z⟩, rfl⟩
      rcases List.mem_cons.mp (r1.mem_iff.mp hr') with rfl | h
      · exact hfs _ (List.getElem_mem hq5)
      · exact hxt r h
  rintro S ⟨ru2, ⟨r1, r2, r3⟩, rfl⟩
  refine seq_cut (fun S => ∃ (x : Option Sl) (ru2 : List Str), (ru2.length ≤ 4 ∧ TxS ru2) ∧ S = [(some (Sl.mk false (.lst (l.map .int)))), k, some ⟨o, .lst (L5.map .int)⟩, (some (Sl.mk false (.lst (rD nmT)))), (some (Sl.mk false (.lst (rD ru2)))), (some (Sl.mk false (.int f))), (some (Sl.mk false (.int a))), (some (Sl.mk false (.str nm))), x]) ?_ ?_
  · simp? only [at_ 11 (by omega) (by omega), at_ 13 (by omega) (by omega)]
    refine ⟨fun h => ?_, fun h => ⟨none, ru2, ⟨r1, r2⟩, rfl⟩⟩
    have h := of_decide_eq_true h
    obtain ⟨n1, n2⟩ := r3 (by omega)
    have hlen : ru2.length ≤ 3 := nd_subT n1 n2
    have hfl : (ru2.filter fun r => !decide (r = nm)).length ≤ 2 := by
      have := nd_subT (n1.sublist (List.filter_sublist (p := fun r => !decide (r = nm)))) (b := nmT.erase nm) fun r hr' => by
        obtain ⟨q1, q2⟩ := List.mem_filter.mp hr'
        exact (List.mem_erase_of_ne (by simpa using q2)).mpr (n2 r q1)
      rw [List.length_erase_of_mem hnm] at this
      exact this
    refine k_lcT D.str (fun r => !decide (r = nm)) D.str ru2 (by simp? only []) (by omega) (fun r hr' => by simp? only [ne_tx (r2 r hr') (nm_tx nm hnm)]) ?_
    obtain ⟨ra, a1, a2⟩ := p_putS (ru := ru2.filter fun r => !decide (r = nm)) (i := drw l 11) (t := nm) (by omega)
    have la := a1.length_eq
    rw [List.length_cons] at la
    obtain ⟨rb, b1, b2⟩ := p_putS (ru := ra) (i := drw l 13) (t := nm) (by omega)
    have lb := b1.length_eq
    rw [List.length_cons] at lb
    simp? only [a2, b2]
    refine ⟨_, rb, ⟨by omega, fun r hr' => ?_⟩, rfl⟩
    rcases List.mem_cons.mp (b1.mem_iff.mp hr') with rfl | h
    · exact nm_tx _ hnm
    · rcases List.mem_cons.mp (a1.mem_iff.mp h) with rfl | h
      · exact nm_tx _ hnm
      · exact r2 r (List.mem_filter.mp h).1
  rintro S ⟨x, ru3, ⟨r4, r5⟩, rfl⟩
  cases o
  · simp? only []
    exact ⟨L5, ru3, ⟨h5, r4, r5⟩, rfl⟩
  · simp? only []
    exact ⟨L5, ru3, ⟨h5, r4, r5⟩, rfl⟩
set_option Elab.async false
set_option linter.all false
set_option maxRecDepth 100000
open M PySem L2
def QB (m : Nat) (qs : List (List Int)) : Prop := ∀ q ∈ qs, q.length ≤ m
theorem qb_set {m : Nat} {qs : List (List Int)} {a : Nat} {q : List Int} (h : QB m qs) (hq : q.length ≤ m) : QB m (qs.set a q) := fun x hx => by
  rcases List.mem_or_eq_of_mem_set hx with hx | rfl
  · exact h x hx
  · exact hq
theorem qb_mono {m k : Nat} {qs : List (List Int)} (h : QB m qs) (hk : m ≤ k) : QB k qs := fun q hq => Nat.le_trans (h q hq) hk
theorem qv_b {m : Nat} {qs : List (List Int)} {a : Nat} (h : QB m qs) (ha : a < qs.length) : (qv qs a).length ≤ m := by
  rw [qv_at ha]
  exact h _ (List.getElem_mem ha)
theorem put_q {m : Nat} {qs : List (List Int)} {a : Nat} {i z : Int} (h : QB m qs) (hm : m ≤ 40) (ha : a < qs.length) : ∃ q' : List Int, q'.length ≤ m + 1 ∧ d__law_put [.lst ((qv qs a).map .int), .int i, .int z] = .ok (.lst (q'.map .int)) ∧ (qs.map qL).set a (.lst (q'.map .int)) = (qs.set a q').map qL := by
  have hb := qv_b h ha
  obtain ⟨q', h1, h2⟩ := p_putI (q := qv qs a) (i := i) (z := z) (by omega)
  refine ⟨q', by omega, h2, ?_⟩
  rw [List.map_set]
theorem k_mxT {a b : Int} {Q : D → Prop} : Ok (max2D (.int a) (.int b)) Q ↔ Q (.int (if b > a then b else a)) := ok_ok
theorem p_lqueues {l : List Int} (hl : Dr 12 l) : ∃ qs : List (List Int), qs.length ≤ 4 ∧ QB 9 qs ∧ d__law_queues [.lst (l.map .int)] = .ok (.lst (qs.map qL)) := by
  have hs := size_ge
  have at_ : ∀ i : Int, 0 ≤ i → i < 12 → L2.atI (l.map D.int) i = some (.int (drw l i)) := fun i h0 h1 => hl.at h0 h1
  suffices h : Ok (d__law_queues [.lst (l.map .int)]) fun d => ∃ qs : List (List Int), (qs.length ≤ 4 ∧ QB 9 qs) ∧ d = .lst (qs.map qL) by
    obtain ⟨d, e, qs, ⟨h1, h2⟩, rfl⟩ := h
    exact ⟨qs, h1, h2, e⟩
  unfold d__law_queues m__law_queues
  rw [ok_nox, k_run]
  have b1 := mod_b (drw l 1) (m := 6) (by omega)
  have b2 := mod_b (drw l 2) (m := 3) (by omega)
  obtain ⟨t0, ht0⟩ : ∃ m : Nat, drw l 1 % 6 = m := ⟨(drw l 1 % 6).toNat, by omega⟩
  obtain ⟨n, hn⟩ : ∃ m : Nat, 1 + drw l 2 % 3 = m := ⟨(1 + drw l 2 % 3).toNat, by omega⟩
  refine seq_cut (fun S => ∃ f : Int, S = [(some (Sl.mk false (.lst (l.map .int)))), (some (Sl.mk false (.int f))), (some (Sl.mk false (.int t0))), (some (Sl.mk false (.int n))), none, none, none, none]) ?_ ?_
  · simp? only [at_ 0 (by omega) (by omega), at_ 1 (by omega) (by omega), at_ 2 (by omega) (by omega), putS]
    rw [ht0, hn]
    refine ⟨by omega, by omega, by omega, _, rfl⟩
  rintro S ⟨f, rfl⟩
  refine seq_cut (fun S => ∃ t : Nat, t ≤ 6 ∧ S = [(some (Sl.mk false (.lst (l.map .int)))), (some (Sl.mk false (.int f))), (some (Sl.mk false (.int t))), (some (Sl.mk false (.int n))), none, none, none, none]) ?_ ?_
  · simp? only []
    exact ⟨fun _ => ⟨6, by omega, rfl⟩, fun _ => ⟨t0, by omega, rfl⟩⟩
  rintro S ⟨t, ht, rfl⟩
  refine seq_cut (fun S => S = [(some (Sl.mk false (.lst (l.map .int)))), (some (Sl.mk false (.int f))), (some (Sl.mk false (.int t))), (some (Sl.mk false (.int n))), (some (Sl.mk true (.lst ((List.replicate n ([] : List Int)).map qL)))), none, none, none]) ?_ ?_
  · simp? only []
    refine k_lcM (fun (i : Nat) => D.int (0 + (i : Int))) (fun _ => .lst []) (List.range n) ?_ (by rw [List.length_range]; omega) ?_ ?_
    · simp? only []
      exact ⟨⟨by omega, by omega⟩, by rw [Int.toNat_natCast]; rfl⟩
    · intro i hi
      simp? only []
    · have e : ((List.range n).map fun _ => D.lst []) = (List.replicate n ([] : List Int)).map qL := by
        rw [List.map_replicate, List.map_const', List.length_range]
        rfl
      rw [e]
      simp? only []
  rintro S rfl
  refine seq_cut (fun S => ∃ (qs : List (List Int)) (a b : Option Sl), (qs.length = n ∧ QB 6 qs) ∧ S = [(some (Sl.mk false (.lst (l.map .int)))), (some (Sl.mk false (.int f))), (some (Sl.mk false (.int t))), (some (Sl.mk false (.int n))), (some (Sl.mk true (.lst (qs.map qL)))), a, b, none]) ?_ ?_
  · rw [k_for]
    simp? only []
    refine ⟨⟨by omega, by omega⟩, ?_⟩
    rw [Int.toNat_natCast]
    refine for_inv (fun i S => ∃ (qs : List (List Int)) (a b : Option Sl), (qs.length = n ∧ QB i qs) ∧ S = [(some (Sl.mk false (.lst (l.map .int)))), (some (Sl.mk false (.int f))), (some (Sl.mk false (.int t))), (some (Sl.mk false (.int n))), (some (Sl.mk true (.lst (qs.map qL)))), a, b, none]) _ (0 : Nat) _ ⟨List.replicate n [], none, none, ⟨List.length_replicate .., fun q hq => by rw [List.eq_of_mem_replicate hq]; exact Nat.le_refl _⟩, rfl⟩ ?_ ?_
    · rintro i d S hd ⟨qs, a, b, ⟨hq, hb⟩, rfl⟩
      obtain ⟨hi, rfl⟩ := rngL_get hd
      rw [Nat.zero_add] at hb
      rw [Int.zero_add, k_gN]
      have hm := mod_b (drw l (3 + (i : Int))) (m := n) (by omega)
      obtain ⟨a', ha'⟩ : ∃ m : Nat, drw l (3 + (i : Int)) % (n : Int) = m := ⟨(drw l (3 + (i : Int)) % (n : Int)).toNat, by omega⟩
      refine seq_cut (fun S => S = [(some (Sl.mk false (.lst (l.map .int)))), (some (Sl.mk false (.int f))), (some (Sl.mk false (.int t))), (some (Sl.mk false (.int n))), (some (Sl.mk true (.lst (qs.map qL)))), (some (Sl.mk false (.int i))), (some (Sl.mk false (.int a'))), none]) ?_ ?_
      · simp? only [at_ (3 + (i : Int)) (by omega) (by omega), ha']
        omega
      rintro S rfl
      have atq := atQ qL (qs := qs) (c := a') (by omega)
      rw [show (qs[a']?).getD [] = qv qs a' from rfl] at atq
      obtain ⟨q', q1, q2, q3⟩ := put_q (i := drw l (3 + (i : Int)) / 3) (z := (i : Int)) hb (by omega) (show a' < qs.length by omega)
      simp? only [k_subN, at_ (3 + (i : Int)) (by omega) (by omega), atq, q2]
      refine ⟨div_c (by omega) (by omega), _, _, rfl, ixN_N (by omega), qs.set a' q', (some (Sl.mk false (.int i))), (some (Sl.mk false (.int a'))), ⟨by rw [List.length_set]; exact hq, qb_set (qb_mono hb (by omega)) q1⟩, ?_⟩
      rw [q3]
    · rintro S ⟨qs, a, b, ⟨hq, hb⟩, rfl⟩
      rw [rngL_len, Nat.zero_add] at hb
      exact ⟨rfl, qs, a, b, ⟨hq, qb_mono hb (by omega)⟩, rfl⟩
  rintro S ⟨qs, a, b, ⟨hq, hb⟩, rfl⟩
  have hm := mod_b (drw l 9) (m := n) (by omega)
  obtain ⟨a', ha'⟩ : ∃ m : Nat, drw l 9 % (n : Int) = m := ⟨(drw l 9 % (n : Int)).toNat, by omega⟩
  refine seq_cut (fun S => S = [(some (Sl.mk false (.lst (l.map .int)))), (some (Sl.mk false (.int f))), (some (Sl.mk false (.int t))), (some (Sl.mk false (.int n))), (some (Sl.mk true (.lst (qs.map qL)))), a, (some (Sl.mk false (.int a'))), none]) ?_ ?_
  · simp? only [at_ 9 (by omega) (by omega), ha']
    omega
  rintro S rfl
  refine seq_cut (fun S => ∃ q2 : List (List Int), (q2.length ≤ 3 ∧ QB 6 q2 ∧ (f ≠ 0 → q2 = qs)) ∧ S = [(some (Sl.mk false (.lst (l.map .int)))), (some (Sl.mk false (.int f))), (some (Sl.mk false (.int t))), (some (Sl.mk false (.int n))), (some (Sl.mk true (.lst (q2.map qL)))), a, (some (Sl.mk false (.int a'))), none]) ?_ ?_
  · simp? only []
    refine ⟨fun h => ⟨[], ⟨by simp, (fun q hq => absurd hq List.not_mem_nil : QB 6 []), fun z => absurd (of_decide_eq_true h) z⟩, rfl⟩, fun h => ⟨qs, ⟨by omega, hb, fun _ => rfl⟩, rfl⟩⟩
  rintro S ⟨q2, ⟨h1, h2, h3⟩, rfl⟩
  refine seq_cut (fun S => ∃ (o : Bool) (q3 : List (List Int)), (q3.length ≤ 4 ∧ QB 6 q3 ∧ (f ≠ 0 → f ≠ 1 → o = true ∧ q3.length = n)) ∧ S = [(some (Sl.mk false (.lst (l.map .int)))), (some (Sl.mk false (.int f))), (some (Sl.mk false (.int t))), (some (Sl.mk false (.int n))), some ⟨o, .lst (q3.map qL)⟩, a, (some (Sl.mk false (.int a'))), none]) ?_ ?_
  · simp? only [k_Sl, k_oS, k_toI, k_slL]
    refine ⟨fun h => ⟨by omega, by omega, false, ([] :: (q2 ++ [[], []])).take 4, ⟨by rw [List.length_take]; omega, fun q hq => ?_, fun _ z => absurd (of_decide_eq_true h) z⟩, ?_⟩, fun h => ⟨true, q2, ⟨by omega, h2, fun z _ => ⟨rfl, by rw [h3 z]; exact hq⟩⟩, rfl⟩⟩
    · have hq := List.mem_of_mem_take hq
      simp only [List.mem_cons, List.mem_append, List.not_mem_nil, or_false] at hq
      rcases hq with rfl | hq | rfl | rfl
      · exact Nat.zero_le _
      · exact h2 q hq
      · exact Nat.zero_le _
      · exact Nat.zero_le _
    · rw [cut_take (by omega)]
      have e : (([] :: (q2 ++ [[], []])).take 4).map qL = (D.lst [] :: (q2.map qL ++ [D.lst [], D.lst []])).take (Int.toNat 4) := by
        rw [List.map_take]
        simp
        rfl
      rw [e]
  rintro S ⟨o, q3, ⟨g1, g2, g3⟩, rfl⟩
  refine seq_cut (fun S => ∃ (o : Bool) (q3 : List (List Int)), (q3.length ≤ 4 ∧ QB 7 q3 ∧ (f ≠ 0 → f ≠ 1 → f ≠ 3 → o = true ∧ q3.length = n)) ∧ S = [(some (Sl.mk false (.lst (l.map .int)))), (some (Sl.mk false (.int f))), (some (Sl.mk false (.int t))), (some (Sl.mk false (.int n))), some ⟨o, .lst (q3.map qL)⟩, a, (some (Sl.mk false (.int a'))), none]) ?_ ?_
  · rw [k_if]
    have et : Ok (tB' (e2 eqD (eW 1) (eI (3))) [(some (Sl.mk false (.lst (l.map .int)))), (some (Sl.mk false (.int f))), (some (Sl.mk false (.int t))), (some (Sl.mk false (.int n))), some ⟨o, .lst (q3.map qL)⟩, a, (some (Sl.mk false (.int a'))), none]) fun v => v = decide (f = 3) := by simp? only []
    refine et.mono ?_
    rintro _ rfl
    refine ⟨fun h => ?_, fun h => ?_⟩
    · have h := of_decide_eq_true h
      obtain ⟨rfl, hl3⟩ := g3 (by omega) (by omega)
      have atq := atQ qL (qs := q3) (c := a') (by omega)
      rw [show (q3[a']?).getD [] = qv q3 a' from rfl] at atq
      obtain ⟨q', w1, w2, w3⟩ := put_q (i := drw l 10) (z := (t : Int) + 1 + drw l 11 % 4) g2 (by omega) (show a' < q3.length by omega)
      simp? only [k_subN, at_ 10 (by omega) (by omega), at_ 11 (by omega) (by omega), atq, w2]
      refine ⟨by omega, _, _, rfl, ixN_N (by omega), true, q3.set a' q', ⟨by rw [List.length_set]; exact g1, qb_set (qb_mono g2 (by omega)) w1, fun _ _ z => absurd h z⟩, ?_⟩
      rw [w3]
    · rw [k_nil]
      exact ⟨rfl, o, q3, ⟨g1, qb_mono g2 (by omega), fun z1 z2 _ => g3 z1 z2⟩, rfl⟩
  rintro S ⟨o, q3, ⟨g1, g2, g3⟩, rfl⟩
  refine seq_cut (fun S => ∃ (o : Bool) (q3 : List (List Int)), (q3.length ≤ 4 ∧ QB 8 q3 ∧ (f = 5 → o = true ∧ q3.length = n)) ∧ S = [(some (Sl.mk false (.lst (l.map .int)))), (some (Sl.mk false (.int f))), (some (Sl.mk false (.int t))), (some (Sl.mk false (.int n))), some ⟨o, .lst (q3.map qL)⟩, a, (some (Sl.mk false (.int a'))), none]) ?_ ?_
  · rw [k_if]
    have et : Ok (tB' (e2 eqD (eW 1) (eI (4))) [(some (Sl.mk false (.lst (l.map .int)))), (some (Sl.mk false (.int f))), (some (Sl.mk false (.int t))), (some (Sl.mk false (.int n))), some ⟨o, .lst (q3.map qL)⟩, a, (some (Sl.mk false (.int a'))), none]) fun v => v = decide (f = 4) := by simp? only []
    refine et.mono ?_
    rintro _ rfl
    refine ⟨fun h => ?_, fun h => ?_⟩
    · have h := of_decide_eq_true h
      obtain ⟨rfl, hl3⟩ := g3 (by omega) (by omega) (by omega)
      have atq := atQ qL (qs := q3) (c := a') (by omega)
      rw [show (q3[a']?).getD [] = qv q3 a' from rfl] at atq
      obtain ⟨q', w1, w2, w3⟩ := put_q (i := drw l 10) (z := drw l 11 % (if (t : Int) > 1 then (t : Int) else 1)) g2 (by omega) (show a' < q3.length by omega)
      simp? only [k_subN, at_ 10 (by omega) (by omega), at_ 11 (by omega) (by omega), atq, w2]
      have hmx : (if (t : Int) > 1 then (t : Int) else 1) ≥ 1 := by split <;> omega
      simp? only [k_mxT]
      generalize hmm : (if (t : Int) > 1 then (t : Int) else 1) = mx at *
      simp? only [w2]
      refine ⟨by omega, _, _, rfl, ixN_N (by omega), true, q3.set a' q', ⟨by rw [List.length_set]; exact g1, qb_set (qb_mono g2 (by omega)) w1, fun z => by omega⟩, ?_⟩
      rw [w3]
    · rw [k_nil]
      exact ⟨rfl, o, q3, ⟨g1, qb_mono g2 (by omega), fun z => g3 (by omega) (by omega) (by omega)⟩, rfl⟩
  rintro S ⟨o, q3, ⟨g1, g2, g3⟩, rfl⟩
  refine seq_cut (fun S => ∃ (o : Bool) (q3 : List (List Int)), (q3.length ≤ 4 ∧ QB 9 q3) ∧ S = [(some (Sl.mk false (.lst (l.map .int)))), (some (Sl.mk false (.int f))), (some (Sl.mk false (.int t))), (some (Sl.mk false (.int n))), some ⟨o, .lst (q3.map qL)⟩, a, (some (Sl.mk false (.int a'))), none]) ?_ ?_
  · rw [k_if]
    have et : Ok (tB' (e2 eqD (eW 1) (eI (5))) [(some (Sl.mk false (.lst (l.map .int)))), (some (Sl.mk false (.int f))), (some (Sl.mk false (.int t))), (some (Sl.mk false (.int n))), some ⟨o, .lst (q3.map qL)⟩, a, (some (Sl.mk false (.int a'))), none]) fun v => v = decide (f = 5) := by simp? only []
    refine et.mono ?_
    rintro _ rfl
    refine ⟨fun h => ?_, fun h => ?_⟩
    · have h := of_decide_eq_true h
      obtain ⟨rfl, hl3⟩ := g3 h
      have atq := atQ qL (qs := q3) (c := a') (by omega)
      rw [show (q3[a']?).getD [] = qv q3 a' from rfl] at atq
      obtain ⟨q', w1, w2, w3⟩ := put_q (i := drw l 10) (z := -1 - drw l 11 % 4) g2 (by omega) (show a' < q3.length by omega)
      simp? only [k_subN, at_ 10 (by omega) (by omega), at_ 11 (by omega) (by omega), atq, w2]
      refine ⟨by omega, _, _, rfl, ixN_N (by omega), true, q3.set a' q', ⟨by rw [List.length_set]; exact g1, qb_set (qb_mono g2 (by omega)) w1⟩, ?_⟩
      rw [w3]
    · rw [k_nil]
      exact ⟨rfl, o, q3, ⟨g1, qb_mono g2 (by omega)⟩, rfl⟩
  rintro S ⟨o, q3, ⟨g1, g2⟩, rfl⟩
  cases o
  · simp? only []
    exact ⟨q3, ⟨g1, g2⟩, rfl⟩
  · simp? only []
    exact ⟨q3, ⟨g1, g2⟩, rfl⟩
set_option Elab.async false
set_option linter.all false
set_option maxRecDepth 100000
open M PySem L2
theorem deqs_intsT : ∀ a b : List Int, deqs (a.map D.int) (b.map D.int) = decide (a = b)
  | [], [] => by simp [deqs]
  | [], _ :: _ => by simp [deqs]
  | _ :: _, [] => by simp [deqs]
  | x :: a, y :: b => by
    have h := deqs_intsT a b
    simp only [List.map_cons, deqs, deq, h]
    by_cases h1 : x = y <;> by_cases h2 : a = b <;> simp [h1, h2]
theorem eq_intsT (a b : List Int) : eqD (.lst (a.map .int)) (.lst (b.map .int)) = .ok (.bl (decide (a = b))) := by
  unfold eqD
  rw [dok_ints, dok_ints]
  simp only [deq, deqs_intsT]
  rfl
theorem ne_intsT (a b : List Int) : neD (.lst (a.map .int)) (.lst (b.map .int)) = .ok (.bl (!decide (a = b))) := by
  unfold neD
  rw [dok_ints, dok_ints]
  simp only [deq, deqs_intsT]
  rfl
abbrev qT (b : Bool) (q : List Int) : D := seqD b (q.map .int)
def hqO (qs : List (List Int)) (tk : D) : D := .obj 8 [.tup (qs.map qD), tk]
theorem hq_0 {qs : List (List Int)} {tk : D} : fldD 8 0 (hqO qs tk) = .ok (.tup (qs.map qD)) := rfl
theorem hq_1 {qs : List (List Int)} {tk : D} : fldD 8 1 (hqO qs tk) = .ok tk := rfl
theorem hq_o {qs : List (List Int)} {tk : D} : (hqO qs tk).isObj 8 = true := rfl
def GQ1 (qs : List (List Int)) : Prop := 1 ≤ qs.length ∧ qs.length ≤ 3
def GQ2 (qs : List (List Int)) : Prop := qs.flatten.length ≤ 5 ∧ qs.flatten.mergeSort ile = rgI qs.flatten.length
instance {qs : List (List Int)} : Decidable (GQ1 qs) := by unfold GQ1; infer_instance
instance {qs : List (List Int)} : Decidable (GQ2 qs) := by unfold GQ2; infer_instance
theorem flat_le {m : Nat} : ∀ {qs : List (List Int)}, QB m qs → qs.flatten.length ≤ m * qs.length
  | [], _ => Nat.zero_le _
  | q :: qs, h => by
    have h1 := flat_le (qs := qs) fun x hx => h x (by simp [hx])
    have h2 := h q (by simp)
    rw [List.flatten_cons, List.length_append, List.length_cons, Nat.mul_succ]
    omega
theorem hall_st {b b2 : Bool} {qs : List (List Int)} {tk : D} {r : FS} {QS : Fl × M.Env → Prop} (h4 : qs.length ≤ 4) (hb : QB 9 qs) (h : Ok (r [(some (Sl.mk true (hqO qs tk))), (some (Sl.mk false (seqD b (qs.map (qT b2))))), (some (Sl.mk false (tk))), (some (Sl.mk false (.lst ((qs.flatten.mergeSort ile).map .int)))), none, none]) QS) :
    Ok (sSeq (sFldN 8 0 0 (eC (f1 tupD) (aC (lcE (fun S => (eV 1) S >>= itemsD) (gN 4) tY (eC (f1 tupD) (aC (eW 4) aN)) [4]) aN)))
    (sSeq (sFldN 8 0 1 (eV 2))
    (sSeq (sSet 3 (eC (f1 srtAD) (aC (lc2E (fun S => (e1 (fldD 8 0) (eW 0)) S >>= itemsD) (gN 4) tY (fun S => (eV 4) S >>= itemsD) (gN 5) tY (eV 5) [4, 5] [5]) aN))) r)) (startN 6 8 [seqD b (qs.map (qT b2)), tk])) QS := by
  have hs := size_ge
  have fl := flat_le hb
  have e0 : startN 6 8 [seqD b (qs.map (qT b2)), tk] = [(some (Sl.mk true (.obj 8 []))), (some (Sl.mk false (seqD b (qs.map (qT b2))))), (some (Sl.mk false (tk))), none, none, none] := rfl
  rw [e0]
  refine seq_cut (fun S => S = [(some (Sl.mk true (.obj 8 [.tup (qs.map qD)]))), (some (Sl.mk false (seqD b (qs.map (qT b2))))), (some (Sl.mk false (tk))), none, none, none]) ?_ ?_
  · simp? only []
    refine k_lcM (qT b2) qD qs (by cases b <;> simp? only []) (by omega) ?_ ?_
    · intro q hq; simp? only [tupD_seq]
    · simp? only []
  rintro S rfl
  refine seq_cut (fun S => S = [(some (Sl.mk true (hqO qs tk))), (some (Sl.mk false (seqD b (qs.map (qT b2))))), (some (Sl.mk false (tk))), none, none, none]) ?_ ?_
  · simp? only []
    rfl
  rintro S rfl
  refine seq_cut (fun S => S = [(some (Sl.mk true (hqO qs tk))), (some (Sl.mk false (seqD b (qs.map (qT b2))))), (some (Sl.mk false (tk))), (some (Sl.mk false (.lst ((qs.flatten.mergeSort ile).map .int)))), none, none]) ?_ ?_
  · simp? only []
    have key : Ok (lc2E (fun S => (e1 (fldD 8 0) (eW 0)) S >>= itemsD) (gN 4) tY (fun S => (eV 4) S >>= itemsD) (gN 5) tY (eV 5) [4, 5] [5] [(some (Sl.mk true (hqO qs tk))), (some (Sl.mk false (seqD b (qs.map (qT b2))))), (some (Sl.mk false (tk))), none, none, none]) fun d => d = .lst (qs.flatten.map .int) := by
      have z := lc2_typed (ga := gN 4) (t := tY) (fi1 := fun S => (eV 4) S >>= itemsD) (ga1 := gN 5) (t1 := tY) (fe := eV 5) (vs := [4, 5]) (vs1 := [5]) (S := wipeS [(some (Sl.mk true (hqO qs tk))), (some (Sl.mk false (seqD b (qs.map (qT b2))))), (some (Sl.mk false (tk))), none, none, none] [4, 5]) qD D.int (fun q => q) (fun _ => true) (fun _ _ => true) (fun _ y => .int y) qs (fun x hx => by
        simp? only []
        rfl)
      have e2 : ((qs.filter fun _ => true).flatMap fun x => (((fun q => q) x).filter fun _ => true).map fun y => D.int y) = qs.flatten.map .int := by
        rw [filter_true (fun _ _ => rfl)]
        have e3 : (fun x : List Int => (((fun q => q) x).filter fun _ => true).map fun y => D.int y) = fun q => q.map D.int := by
          funext q
          rw [filter_true (fun _ _ => rfl)]
        rw [e3, List.map_flatten]
        rfl
      rw [e2] at z
      have hl : (qs.flatten.map D.int).length ≤ sizeLine := by rw [List.length_map]; omega
      refine ⟨_, ?_, rfl⟩
      show (lc2F _ _ _ _ _ _ _ _ _ (qs.map qD) >>= fun ys => if ys.length ≤ sizeLine then R.ok (D.lst ys) else R.fail) = _
      rw [z, R.ok_bind, if_pos hl]
    refine key.mono ?_
    rintro d rfl
    simp? only []
  rintro S rfl
  exact h
theorem seq3_eq {a b c r : FS} {S0 S3 : M.Env} (h : Ok (sSeq a (sSeq b (sSeq c (fun S => .ok (.nx, S)))) S0) fun z => z = (.nx, S3)) : sSeq a (sSeq b (sSeq c r)) S0 = r S3 := by
  obtain ⟨z, e, rfl⟩ := h
  have one : ∀ {a r : FS} {S0 S3 : M.Env}, sSeq a r S0 = .ok (.nx, S3) → ∃ S1, a S0 = .ok (.nx, S1) ∧ r S1 = .ok (.nx, S3) := fun {a r S0 S3} e => by
    unfold sSeq at e
    cases e1 : a S0 with
    | exc x => rw [e1] at e; cases e
    | fail => rw [e1] at e; cases e
    | ok z =>
      rw [e1] at e
      obtain ⟨fl, S1⟩ := z
      cases fl with
      | nx => exact ⟨S1, rfl, e⟩
      | bk => cases e
      | ct => cases e
      | rt d => cases e
  obtain ⟨S1, e1, e⟩ := one e
  obtain ⟨S2, e2, e⟩ := one e
  obtain ⟨S4, e3, e⟩ := one e
  cases e
  have two : ∀ {a r : FS} {S0 S1 : M.Env}, a S0 = .ok (.nx, S1) → sSeq a r S0 = r S1 := fun {a r S0 S1} e => by
    unfold sSeq
    rw [e]; rfl
  rw [two e1, two e2, two e3]
theorem hall_t1 {qs : List (List Int)} {tk x y z : D} : Ok (tNo (tB' (e3 leD leD (eI (1)) (eC (f1 lenD) (aC (e1 (fldD 8 0) (eW 0)) aN)) (eG gv_MOST_QUEUES))) [(some (Sl.mk true (hqO qs tk))), (some (Sl.mk false (x))), (some (Sl.mk false (y))), (some (Sl.mk false (z))), none, none]) fun v => v = !decide (GQ1 qs) := by
  simp? only [hq_0, gv_MOST_QUEUES]
  refine ⟨fun h => ?_, fun h => ?_⟩
  · have h := of_decide_eq_true h
    congr 1
    rw [decide_eq_decide]
    unfold GQ1
    omega
  · have h := of_decide_eq_false h
    rw [decide_eq_false (p := GQ1 qs) (fun z => h (by have := z.1; omega))]
    rfl
theorem hall_t2 {qs : List (List Int)} {tk x y : D} (h4 : qs.length ≤ 4) (hb : QB 9 qs) : Ok (tO (tB' (e2 gtD (eC (f1 lenD) (aC (eW 3) aN)) (eG gv_MOST_TASKS))) (tB' (e2 neD (eW 3) (eLstRg (rg1 (eC (f1 lenD) (aC (eW 3) aN)))))) [(some (Sl.mk true (hqO qs tk))), (some (Sl.mk false (x))), (some (Sl.mk false (y))), (some (Sl.mk false (.lst ((qs.flatten.mergeSort ile).map .int)))), none, none]) fun v => v = !decide (GQ2 qs) := by
  have hs := size_ge
  have fl := flat_le hb
  have hl : (qs.flatten.mergeSort ile).length = qs.flatten.length := List.length_mergeSort _
  simp? only [gv_MOST_TASKS]
  rw [hl]
  refine ⟨fun h => ?_, fun h => ?_⟩
  · have h := of_decide_eq_true h
    rw [decide_eq_false (p := GQ2 qs) (fun z => by have := z.1; omega)]
    rfl
  · have h := of_decide_eq_false h
    refine k_lstRg hl (by omega) ?_
    simp? only [ne_intsT]
    congr 1
    rw [decide_eq_decide]
    unfold GQ2
    exact ⟨fun z => ⟨by omega, z⟩, fun z => z.2⟩
theorem p_HallG {b b2 : Bool} {qs : List (List Int)} {tk : D} (h4 : qs.length ≤ 4) (hb : QB 9 qs) (g1 : GQ1 qs) (g2 : GQ2 qs) : d_Hall [seqD b (qs.map (qT b2)), tk] = .ok (hqO qs tk) := by
  apply Ok.eq
  unfold d_Hall m_Hall
  rw [k_runN]
  refine hall_st h4 hb ?_
  refine seq_cut (fun S => S = [(some (Sl.mk true (hqO qs tk))), (some (Sl.mk false (seqD b (qs.map (qT b2))))), (some (Sl.mk false (tk))), (some (Sl.mk false (.lst ((qs.flatten.mergeSort ile).map .int)))), none, none]) ?_ ?_
  · rw [k_guardX]
    refine hall_t1.mono ?_
    rintro v rfl
    rw [decide_eq_true g1]
    exact ⟨rfl, rfl, rfl⟩
  rintro S rfl
  rw [k_guardX]
  refine (hall_t2 h4 hb).mono ?_
  rintro v rfl
  rw [decide_eq_true g2]
  refine ⟨rfl, ?_⟩
  simp? only []
theorem p_HallX {b b2 : Bool} {qs : List (List Int)} {tk : D} (h4 : qs.length ≤ 4) (hb : QB 9 qs) (h : ¬ (GQ1 qs ∧ GQ2 qs)) : d_Hall [seqD b (qs.map (qT b2)), tk] = .exc ⟨210, []⟩ := by
  refine x_runN ?_
  unfold m_Hall
  have e := hall_st (b := b) (b2 := b2) (tk := tk) (r := fun S => .ok (.nx, S)) (QS := fun z => z = (.nx, [(some (Sl.mk true (hqO qs tk))), (some (Sl.mk false (seqD b (qs.map (qT b2))))), (some (Sl.mk false (tk))), (some (Sl.mk false (.lst ((qs.flatten.mergeSort ile).map .int)))), none, none])) h4 hb (ok_ok.mpr rfl)
  rw [seq3_eq e]
  by_cases g1 : GQ1 qs
  · refine x_seq2 (Ok.mono (P := fun z => z = (.nx, [(some (Sl.mk true (hqO qs tk))), (some (Sl.mk false (seqD b (qs.map (qT b2))))), (some (Sl.mk false (tk))), (some (Sl.mk false (.lst ((qs.flatten.mergeSort ile).map .int)))), none, none])) ?_ ?_)
    · rw [k_guardX]
      refine hall_t1.mono ?_
      rintro v rfl
      rw [decide_eq_true g1]
      exact ⟨rfl, rfl⟩
    · rintro z rfl
      refine ⟨rfl, x_if ((hall_t2 h4 hb).mono ?_)⟩
      rintro v rfl
      rw [decide_eq_false fun g2 => h ⟨g1, g2⟩]
      rfl
  · refine x_seq1 (x_if (hall_t1.mono ?_))
    rintro v rfl
    rw [decide_eq_false g1]
    rfl
theorem p_gqueues {qs : List (List Int)} (h4 : qs.length ≤ 4) (hb : QB 9 qs) : d__law_good_queues [.lst (qs.map qL)] = .ok (.bl (decide (GQ1 qs ∧ GQ2 qs))) := by
  have hs := size_ge
  have fl := flat_le hb
  have hl : (qs.flatten.mergeSort ile).length = qs.flatten.length := List.length_mergeSort _
  apply Ok.eq
  unfold d__law_good_queues m__law_good_queues
  rw [ok_nox, k_run]
  refine seq_cut (fun S => S = [(some (Sl.mk false (.lst (qs.map qL)))), (some (Sl.mk true (.lst []))), none]) (by simp? only []) ?_
  rintro S rfl
  refine seq_cut (fun S => ∃ x, S = [(some (Sl.mk false (.lst (qs.map qL)))), (some (Sl.mk true (.lst (qs.flatten.map .int)))), x]) ?_ ?_
  · rw [k_for]
    have ei : Ok ((fun S => (eV 0) S >>= itemsD) [(some (Sl.mk false (.lst (qs.map qL)))), (some (Sl.mk true (.lst []))), none]) fun ds => ds = qs.map qL := by simp? only []
    refine ei.mono ?_
    rintro ds rfl
    refine for_typed qL (fun dn S => ∃ x, S = [(some (Sl.mk false (.lst (qs.map qL)))), (some (Sl.mk true (.lst (dn.flatten.map .int)))), x]) qs _ ⟨none, rfl⟩ ?_ ?_
    · rintro dn q rest S eq ⟨x, rfl⟩
      have hl : dn.flatten.length + q.length ≤ qs.flatten.length := by
        rw [eq]
        simp
      simp? only []
      refine ⟨_, rfl, by rw [List.length_map]; omega, (some (Sl.mk false (qL q))), ?_⟩
      rw [List.flatten_append, List.flatten_cons, List.flatten_nil, List.append_nil, List.map_append]
    · rintro S ⟨x, rfl⟩
      exact ⟨rfl, x, rfl⟩
  rintro S ⟨x, rfl⟩
  simp? only []
  have no : ∀ {P : Prop}, ¬ P → (D.bl false = D.bl (decide (GQ1 qs ∧ GQ2 qs)) ↔ ¬ (GQ1 qs ∧ GQ2 qs)) := fun {P} _ => by
    constructor
    · intro e z
      rw [decide_eq_true z] at e
      cases e
    · intro z
      rw [decide_eq_false z]
  refine ⟨fun h1 => ⟨fun h2 => ⟨fun h3 => ?_, fun h3 => ?_⟩, fun h2 => ?_⟩, fun h1 => ?_⟩
  · have h1 := of_decide_eq_true h1
    have h2 := of_decide_eq_true h2
    have h3 := of_decide_eq_true h3
    have e1 : rg1 (eC (f1 lenD) (aC (eW 1) aN)) [(some (Sl.mk false (.lst (qs.map qL)))), (some (Sl.mk true (.lst (qs.flatten.map .int)))), x] = .ok (0, (qs.flatten.length : Int)) := by
      show R.ok (_, (((qs.flatten.map D.int).length : Nat) : Int)) = _
      rw [List.length_map]
    unfold eLstRg
    rw [e1, R.ok_bind]
    dsimp only
    rw [if_pos (by unfold RgOk; omega)]
    refine ⟨_, rfl, ?_⟩
    rw [show rgD 0 (qs.flatten.length : Int) = (rgI qs.flatten.length).map .int by unfold rgD rgI; simp]
    show Ok (eqD _ _) _
    rw [eq_intsT, ok_ok]
    congr 1
    rw [decide_eq_decide]
    exact ⟨fun z => ⟨⟨by omega, by omega⟩, by omega, z⟩, fun z => z.2.2⟩
  · have h3 := of_decide_eq_false h3
    exact (no h3).mpr fun z => h3 (by have := z.2.1; omega)
  · have h2 := of_decide_eq_false h2
    exact (no h2).mpr fun z => h2 (by have := z.1.2; omega)
  · have h1 := of_decide_eq_false h1
    exact (no h1).mpr fun z => h1 (by have := z.1.1; omega)
theorem p_hrefused {b b2 : Bool} {qs : List (List Int)} {tk : D} (h4 : qs.length ≤ 4) (hb : QB 9 qs) (h : ¬ (GQ1 qs ∧ GQ2 qs)) : d__law_hall_refused [seqD b (qs.map (qT b2)), tk] = .ok (.bl true) := by
  have e : Ok (m__law_hall_refused [(some (Sl.mk false (seqD b (qs.map (qT b2))))), (some (Sl.mk false (tk))), none]) fun z => z.1 = .rt (.bl true) := try_refused (by
    show d_Hall [seqD b (qs.map (qT b2)), tk] = _
    exact p_HallX h4 hb h)
  obtain ⟨⟨fl, S⟩, e1, e2⟩ := e
  dsimp only at e2
  subst e2
  show (runF false 3 m__law_hall_refused [seqD b (qs.map (qT b2)), tk]).nox = _
  unfold runF
  have e3 : startS 3 [seqD b (qs.map (qT b2)), tk] = [(some (Sl.mk false (seqD b (qs.map (qT b2))))), (some (Sl.mk false (tk))), none] := rfl
  rw [e3, e1]
  rfl
set_option Elab.async false
set_option linter.all false
set_option maxRecDepth 100000
open M PySem L2
theorem p_wholeT {i : Int} : d__law_whole [.int i] = .ok (.bl true) := rfl
theorem all_tt {α : Type} (l : List α) : (l.all fun _ => true) = true := by simp
theorem seq_cut' {s : FS} {S : M.Env} {QS : Fl × M.Env → Prop} (P : M.Env → Prop) (h : Ok (s S) fun z => z.1 = .nx ∧ P z.2) (k : ∀ S1, P S1 → QS (.nx, S1)) : Ok (s S) QS := by
  refine h.mono ?_
  rintro ⟨fl, S1⟩ ⟨h1, h2⟩
  dsimp only at h1 h2
  subst h1
  exact k S1 h2
theorem p_rowsT {qs : List (List Int)} {m : Nat} (h4 : qs.length ≤ 4) (hb : QB m qs) (hm : m ≤ 20) : d__law_rows_told [.tup (qs.map qD), .lst (qs.map qL)] = .ok (.bl true) := by
  have hs := size_ge
  apply Ok.eq
  unfold d__law_rows_told m__law_rows_told
  rw [ok_nox, k_run]
  refine seq_cut (fun S => S = [(some (Sl.mk false (.tup (qs.map qD)))), (some (Sl.mk false (.lst (qs.map qL)))), none, none]) ?_ ?_
  · simp? only [show isiD (.tup (qs.map qD)) (.ty "tuple") = .ok (.bl true) from rfl]
  rintro S rfl
  refine seq_cut (fun S => ∃ x, S = [(some (Sl.mk false (.tup (qs.map qD)))), (some (Sl.mk false (.lst (qs.map qL)))), x, none]) ?_ (by rintro S ⟨x, rfl⟩; simp? only [])
  rw [k_for]
  simp? only []
  refine ⟨⟨by omega, by omega⟩, ?_⟩
  rw [Int.toNat_natCast]
  refine for_inv (fun i S => ∃ x, S = [(some (Sl.mk false (.tup (qs.map qD)))), (some (Sl.mk false (.lst (qs.map qL)))), x, none]) _ (0 : Nat) _ ⟨none, rfl⟩ ?_ ?_
  · rintro i d S hd ⟨x, rfl⟩
    obtain ⟨hi, rfl⟩ := rngL_get hd
    rw [Int.zero_add, k_gN]
    have a1 := atQ qD (qs := qs) (c := i) hi
    have a2 := atQ qL (qs := qs) (c := i) hi
    have hq := qv_b hb hi
    unfold qv at hq
    generalize (qs[i]?).getD [] = q at *
    have i0 : isiD (qD q) (.ty "tuple") = .ok (.bl true) := rfl
    have i1 : lstD (qD q) = .ok (qL q) := rfl
    have i2 : neD (qL q) (qL q) = .ok (.bl false) := by rw [ne_intsT]; simp
    refine seq_cut' (fun S => S = [(some (Sl.mk false (.tup (qs.map qD)))), (some (Sl.mk false (.lst (qs.map qL)))), (some (Sl.mk false (.int i))), none]) ?_ ?_
    · simp? only [a1, a2, i0, i1, i2]
      refine k_lcM D.int (fun _ => .bl true) q (by simp? only [a1]) (by omega) (fun z _ => by simp? only [p_wholeT]) ?_
      rw [k_all (fun _ => true), all_tt]
      simp? only []
    · rintro S rfl
      exact ⟨_, rfl⟩
  · rintro S ⟨x, rfl⟩
    exact ⟨rfl, x, rfl⟩
theorem p_bookT {L : List Int} {ru : List Str} (hl : L.length ≤ 10) (hr : ru.length ≤ 10) (hx : TxS ru) : d__law_book_told [tkO L ru, .lst (L.map .int), .lst (rD ru)] = .ok (.bl true) := by
  have hs := size_ge
  obtain ⟨sl, q1, q2, q3⟩ := srt_rD hx
  apply Ok.eq
  unfold d__law_book_told m__law_book_told
  rw [ok_nox, k_run]
  refine seq_cut (fun S => S = [(some (Sl.mk false (tkO L ru))), (some (Sl.mk false (.lst (L.map .int)))), (some (Sl.mk false (.lst (rD ru)))), none]) ?_ ?_
  · simp? only [tk_0, tk_1, show isiC 7 (tkO L ru) (.cls 7) = .ok (.bl true) from rfl]
  rintro S rfl
  refine seq_cut (fun S => S = [(some (Sl.mk false (tkO L ru))), (some (Sl.mk false (.lst (L.map .int)))), (some (Sl.mk false (.lst (rD ru)))), none]) ?_ ?_
  · simp? only [tk_0, tk_1, show neD (.lst (L.map .int)) (.lst (L.map .int)) = .ok (.bl false) from by rw [ne_intsT]; simp]
    refine k_lcM D.int (fun _ => .bl true) L (by simp? only [tk_0]) (by omega) (fun z _ => by simp? only [p_wholeT]) ?_
    rw [k_all (fun _ => true), all_tt]
    simp? only []
  rintro S rfl
  have hd : dok 60 (.lst (srt (rD ru))) = true := by
    rw [q1]
    simp only [dok]
    exact doks_rD _ q3
  simp? only [tk_0, tk_1, show srtAD (.lst (rD ru)) = .ok (.lst (srt (rD ru))) from srtAD_rD (b := false) hx, k_deqS hd]
theorem p_hallT {qs : List (List Int)} {L : List Int} {ru : List Str} {tk : D} (h1 : 1 ≤ qs.length) (h4 : qs.length ≤ 3) (hb : QB 9 qs) (ht : d__law_book_told [tk, .lst (L.map .int), .lst (rD ru)] = .ok (.bl true)) : d__law_hall_told [hqO qs tk, .lst (qs.map qL), .lst (L.map .int), .lst (rD ru)] = .ok (.bl true) := by
  have hs := size_ge
  apply Ok.eq
  unfold d__law_hall_told m__law_hall_told
  rw [ok_nox, k_run]
  have st : d_Hall_start [hqO qs tk] = .ok (.tup [.tup (qs.map qD), .tup ((List.replicate qs.length (-1 : Int)).map .int)]) := by
    match qs, h1, h4 with
    | [_], _, _ => rfl
    | [_, _], _, _ => rfl
    | [_, _, _], _, _ => rfl
  have rt := p_rowsT (qs := qs) (m := 9) (by omega) hb (by omega)
  have rs := p_rowsT (qs := [List.replicate qs.length (-1 : Int)]) (m := 9) (by simp) (fun q hq => by rw [List.mem_singleton.mp hq, List.length_replicate]; omega) (by omega)
  refine seq_cut (fun S => S = [(some (Sl.mk false (hqO qs tk))), (some (Sl.mk false (.lst (qs.map qL)))), (some (Sl.mk false (.lst (L.map .int)))), (some (Sl.mk false (.lst (rD ru)))), (some (Sl.mk false (.tup [.tup (qs.map qD), .tup ((List.replicate qs.length (-1 : Int)).map .int)]))), none]) (by simp? only [hq_o, st]) ?_
  rintro S rfl
  refine seq_cut (fun S => S = [(some (Sl.mk false (hqO qs tk))), (some (Sl.mk false (.lst (qs.map qL)))), (some (Sl.mk false (.lst (L.map .int)))), (some (Sl.mk false (.lst (rD ru)))), (some (Sl.mk false (.tup [.tup (qs.map qD), .tup ((List.replicate qs.length (-1 : Int)).map .int)]))), none]) ?_ ?_
  · simp? only [rt, at_0, show isiD (.tup [.tup (qs.map qD), .tup ((List.replicate qs.length (-1 : Int)).map .int)]) (.ty "tuple") = .ok (.bl true) from rfl]
    exact fun h => absurd (of_decide_eq_false h) (by decide)
  rintro S rfl
  refine seq_cut (fun S => S = [(some (Sl.mk false (hqO qs tk))), (some (Sl.mk false (.lst (qs.map qL)))), (some (Sl.mk false (.lst (L.map .int)))), (some (Sl.mk false (.lst (rD ru)))), (some (Sl.mk false (.tup [.tup (qs.map qD), .tup ((List.replicate qs.length (-1 : Int)).map .int)]))), none]) ?_ ?_
  · simp? only [k_Sl, k_oS, k_toI]
    refine k_lcM qL (fun _ => .int (-1)) qs (by simp? only []) (by omega) (fun q _ => by simp? only []) ?_
    have e : (qs.map fun _ => D.int (-1)) = (List.replicate qs.length (-1 : Int)).map D.int := by
      rw [List.map_replicate, List.map_const']
    rw [e, cut_drop (by omega)]
    have rs : d__law_rows_told [.tup [.tup ((List.replicate qs.length (-1 : Int)).map .int)], .lst [.lst ((List.replicate qs.length (-1 : Int)).map .int)]] = .ok (.bl true) := rs
    show Ok (d__law_rows_told [.tup [.tup ((List.replicate qs.length (-1 : Int)).map .int)], .lst [.lst ((List.replicate qs.length (-1 : Int)).map .int)]]) _
    rw [rs]
    simp? only []
  rintro S rfl
  simp? only [hq_0, hq_1, rt, ht]
set_option Elab.async false
set_option linter.all false
set_option maxRecDepth 100000
open M PySem L2
theorem k_Bw58 {kd : Kd} {is : List Nat} {f : FE} {S S' : M.Env} {Q : D → Prop} (h : fzL S is = some S') : Ok (eBw kd is f S) Q ↔ Ok (f S') fun d => noK kd d = true ∧ Q d := by
  unfold eBw
  rw [h]
  simp only [ok_bind, ok_if, ok_ok]
theorem noLs_i : ∀ l : List Int, noLs (l.map D.int) = true
  | [] => rfl
  | x :: l => by
    show (noL (.int x) && noLs (l.map D.int)) = true
    rw [noLs_i l]; rfl
theorem noLs_s : ∀ l : List Str, noLs (rD l) = true
  | [] => rfl
  | x :: l => by
    show (noL (.str x) && noLs (rD l)) = true
    rw [noLs_s l]; rfl
theorem noLs_q : ∀ l : List (List Int), noLs (l.map qD) = true
  | [] => rfl
  | x :: l => by
    show (noLs (x.map D.int) && noLs (l.map qD)) = true
    rw [noLs_q l, noLs_i]; rfl
theorem noL_tk {L : List Int} {ru : List Str} (hx : TxS ru) : noL (tkO L ru) = true := by
  obtain ⟨sl, q1, _, _⟩ := srt_rD hx
  unfold tkO
  rw [q1]
  show (noLs (L.map D.int) && (noLs (rD sl) && true)) = true
  rw [noLs_i, noLs_s]; rfl
theorem noC_hq {qs : List (List Int)} {L : List Int} {ru : List Str} (hx : TxS ru) : noC (hqO qs (tkO L ru)) = true := by
  have := noL_tk (L := L) hx
  show (noLs (qs.map qD) && (noL (tkO L ru) && true)) = true
  rw [noLs_q, this]; rfl
theorem gq_0 : GQ1 [[1, 0], []] ∧ GQ2 [[1, 0], []] := by
  have A : Arr 2 [[1, 0], []] := by unfold Arr rgI; decide
  exact ⟨by decide, by decide, A.srt⟩
theorem gq_1 : GQ1 [[], [0, 2, 1]] ∧ GQ2 [[], [0, 2, 1]] := by
  have A : Arr 3 [[], [0, 2, 1]] := by unfold Arr rgI; decide
  exact ⟨by decide, by decide, A.srt⟩
theorem nlDs_i : ∀ l : List Int, nlDs (l.map D.int) = true
  | [] => rfl
  | x :: l => by
    show (nlD (.int x) && nlDs (l.map D.int)) = true
    rw [nlDs_i l]; rfl
theorem all_qL : ∀ {qs : List (List Int)}, llB (qs.map qL) = true
  | [] => rfl
  | q :: qs => by
    show (nlDs (q.map D.int) && llB (qs.map qL)) = true
    rw [all_qL, nlDs_i]; rfl
theorem nlDs_s : ∀ l : List Str, nlDs (rD l) = true
  | [] => rfl
  | x :: l => by
    show (nlD (.str x) && nlDs (rD l)) = true
    rw [nlDs_s l]; rfl
theorem nlDs_q : ∀ l : List (List Int), nlDs (l.map qD) = true
  | [] => rfl
  | x :: l => by
    show (nlDs (x.map D.int) && nlDs (l.map qD)) = true
    rw [nlDs_q l, nlDs_i]; rfl
theorem nlD_hq {qs : List (List Int)} {L : List Int} {ru : List Str} (hx : TxS ru) : nlD (hqO qs (tkO L ru)) = true := by
  obtain ⟨sl, q1, _, _⟩ := srt_rD hx
  unfold hqO tkO
  rw [q1]
  show (nlDs (qs.map qD) && ((nlDs (L.map D.int) && (nlDs (rD sl) && true)) && true)) = true
  rw [nlDs_q, nlDs_i, nlDs_s]; rfl
theorem k_Nap {i : Nat} {ch : List Nat} {f : FE} {r : FS} {S : M.Env} {es ds' : List D} {d : D} {QS : Fl × M.Env → Prop} (hS : ownL i S = .ok (.lst es :: ds')) (h1 : (okNap i ch 0 S && (nlDs es && llB ds')) = true) (hf : f S = .ok d) (hd : nlD d = true ∧ es.length < sizeLine)
    (h : Ok (r (S.set i (some ⟨true, .lst (.lst (es ++ [d]) :: ds')⟩))) fun z => ∃ v, z.1 = .rt v ∧ QS z) : Ok (sNap i ch f r S) QS := by
  unfold sNap
  rw [hS, R.ok_bind]
  dsimp only
  rw [if_pos h1, hf, R.ok_bind, if_pos hd]
  obtain ⟨⟨fl, S2⟩, e, v, e1, q⟩ := h
  dsimp only at e1
  subst e1
  rw [e]
  exact ⟨_, rfl, q⟩
theorem gt_2 : GT1 [2] := by decide
theorem gt_0 : GT2 [] := by decide
theorem pure_law : ∀ ns : List Int, ns.length ≤ 63 → (∀ z ∈ ns, PySem.Builtin.Int.intBits z ≤ 1048576) → d_law [.scr ns] = .ok (.bl true) := by
  intro ns hlen hbits
  have hs := size_ge
  refine Ok.eq ?_
  unfold d_law m_law
  rw [ok_nox, k_run]
  obtain ⟨l0, hl0, ed0⟩ := p_drawsI ns 0 14 14 (by omega) (by omega) (by omega) rfl
  obtain ⟨l1, hl1, ed1⟩ := p_drawsI ns 1 12 12 (by omega) (by omega) (by omega) rfl
  obtain ⟨L0, ru0, h0, hr0, hx0, eb0⟩ := p_lbook hl0
  obtain ⟨qs0, hq0, hb0, eq0⟩ := p_lqueues hl1
  refine seq_cut (fun S => S = [(some (Sl.mk false (.scr ns))), (some (Sl.mk false (.lst (L0.map .int)))), (some (Sl.mk false (.lst (rD ru0)))), none, none, none, none, none, none, none]) (by simp? only [ed0, eb0]) ?_
  rintro S rfl
  refine seq_cut (fun S => ∃ (L : List Int) (ru : List Str), (GT1 L ∧ GT2 ru ∧ ru.length ≤ 4 ∧ TxS ru) ∧ S = [(some (Sl.mk false (.scr ns))), (some (Sl.mk false (.lst (L.map .int)))), (some (Sl.mk false (.lst (rD ru)))), none, none, none, none, none, none, none]) ?_ ?_
  · have gb := p_gbook (L := L0) (ru := ru0) (by omega) (by omega)
    by_cases hg : GT1 L0 ∧ GT2 ru0
    · rw [decide_eq_true hg] at gb
      simp? only [gb]
      exact ⟨L0, ru0, ⟨hg.1, hg.2, hr0, hx0⟩, rfl⟩
    · rw [decide_eq_false hg] at gb
      have rf := p_brefused (b := false) hx0 (show L0.length ≤ 10 by omega) hr0 hg
      have rf : d__law_book_refused [.lst (L0.map .int), .lst (rD ru0)] = .ok (.bl true) := rf
      simp? only [gb, rf, putS]
      exact ⟨[2], [], ⟨gt_2, gt_0, by simp, fun r h => nomatch h⟩, rfl⟩
  rintro S ⟨L, ru, ⟨g1, g2, hr, hx⟩, rfl⟩
  have hl5 := g1.1
  refine seq_cut (fun S => S = [(some (Sl.mk false (.scr ns))), (some (Sl.mk false (.lst (L.map .int)))), (some (Sl.mk false (.lst (rD ru)))), (some (Sl.mk true (.lst (L.map .int)))), none, none, none, none, none, none]) (by simp? only []) ?_
  rintro S rfl
  have tk : d__law_taking [.lst (L.map .int), .lst (rD ru)] = .ok (tkO L ru) := p_ltG hr (p_TakingG (b := false) hx (by omega) (by omega) g1 g2)
  have tk2 : d__law_taking [.tup (L.map .int), .lst (rD ru)] = .ok (tkO L ru) := p_ltG hr (p_TakingG (b := true) hx (by omega) (by omega) g1 g2)
  have bt := p_bookT (L := L) (ru := ru) (by omega) (by omega) hx
  refine seq_cut (fun S => S = [(some (Sl.mk false (.scr ns))), (some (Sl.mk false (.lst (L.map .int)))), (some (Sl.mk false (.lst (rD ru)))), (some (Sl.mk true (.lst (L.map .int)))), (some (Sl.mk false (tkO L ru))), none, none, none, none, none]) ?_ ?_
  · simp? only [k_Bw58 (show fzL [(some (Sl.mk false (.scr ns))), (some (Sl.mk false (.lst (L.map .int)))), (some (Sl.mk false (.lst (rD ru)))), (some (Sl.mk true (.lst (L.map .int)))), none, none, none, none, none, none] [3] = some [(some (Sl.mk false (.scr ns))), (some (Sl.mk false (.lst (L.map .int)))), (some (Sl.mk false (.lst (rD ru)))), (some (Sl.mk false (.lst (L.map .int)))), none, none, none, none, none, none] from rfl), tk]
    exact noL_tk hx
  rintro S rfl
  obtain ⟨a0, L', hL⟩ : ∃ a0 L', L = a0 :: L' := by
    cases L with
    | nil => simp at hl5
    | cons a l => exact ⟨a, l, rfl⟩
  refine seq_cut (fun S => S = [(some (Sl.mk false (.scr ns))), (some (Sl.mk false (.lst (L.map .int)))), (some (Sl.mk false (.lst (rD ru)))), (some (Sl.mk true (.lst (((5 - a0) :: L').map .int)))), (some (Sl.mk false (tkO L ru))), none, none, none, none, none]) ?_ ?_
  · subst hL
    simp? only [k_subN]
    refine ⟨_, atI_0, ?_⟩
    simp? only []
    exact ⟨0, 0, rfl, ixN_N (c := 0) (by omega), rfl⟩
  rintro S rfl
  refine seq_cut (fun S => S = [(some (Sl.mk false (.scr ns))), (some (Sl.mk false (.lst (L.map .int)))), (some (Sl.mk false (.lst (rD ru)))), (some (Sl.mk true (.lst (((5 - a0) :: (L' ++ [0])).map .int)))), (some (Sl.mk false (tkO L ru))), none, none, none, none, none]) ?_ ?_
  · have : L.length = L'.length + 1 := by rw [hL]; rfl
    simp? only []
    refine ⟨by omega, ?_⟩
    rw [List.map_append]
    rfl
  rintro S rfl
  refine seq_cut (fun S => S = [(some (Sl.mk false (.scr ns))), (some (Sl.mk false (.lst (L.map .int)))), (some (Sl.mk false (.lst (rD ru)))), (some (Sl.mk true (.lst (((5 - a0) :: (L' ++ [0])).map .int)))), (some (Sl.mk false (tkO L ru))), none, none, none, none, none]) (by simp? only [bt]) ?_
  rintro S rfl
  generalize hP : ((5 - a0) :: (L' ++ [0])) = P3
  refine seq_cut (fun S => S = [(some (Sl.mk false (.scr ns))), (some (Sl.mk false (.lst (L.map .int)))), (some (Sl.mk false (.lst (rD ru)))), (some (Sl.mk true (.lst (P3.map .int)))), (some (Sl.mk false (tkO L ru))), (some (Sl.mk false (.lst (qs0.map qL)))), none, none, none, none]) (by simp? only [ed1, eq0]) ?_
  rintro S rfl
  have lc : ∀ {q : List (List Int)} {x y : Option Sl}, q.length ≤ 4 → Ok (sOwnK 6 (lcE (fun S => (eV 5) S >>= itemsD) (gN 9) tY (eC (f1 lstD) (aC (eW 9) aN)) [9]) [(some (Sl.mk false (.scr ns))), (some (Sl.mk false (.lst (L.map .int)))), (some (Sl.mk false (.lst (rD ru)))), (some (Sl.mk true (.lst (P3.map .int)))), (some (Sl.mk false (tkO L ru))), (some (Sl.mk false (.lst (q.map qL)))), x, none, none, none]) fun z => z = (.nx, [(some (Sl.mk false (.scr ns))), (some (Sl.mk false (.lst (L.map .int)))), (some (Sl.mk false (.lst (rD ru)))), (some (Sl.mk true (.lst (P3.map .int)))), (some (Sl.mk false (tkO L ru))), (some (Sl.mk false (.lst (q.map qL)))), (some (Sl.mk true (.lst (q.map qL)))), none, none, none]) := by
    intro q x y h4
    unfold sOwnK
    rw [if_pos (by simp)]
    simp? only []
    refine k_lcM qL qL q (by simp? only []) (by omega) (fun r _ => by simp? only []) ?_
    simp? only []
  refine seq_cut (fun S => S = [(some (Sl.mk false (.scr ns))), (some (Sl.mk false (.lst (L.map .int)))), (some (Sl.mk false (.lst (rD ru)))), (some (Sl.mk true (.lst (P3.map .int)))), (some (Sl.mk false (tkO L ru))), (some (Sl.mk false (.lst (qs0.map qL)))), (some (Sl.mk true (.lst (qs0.map qL)))), none, none, none]) ?_ ?_
  · refine (lc (y := none) hq0).mono ?_
    rintro z rfl
    exact ⟨rfl, rfl⟩
  rintro S rfl
  refine seq_cut (fun S => ∃ qs : List (List Int), (GQ1 qs ∧ GQ2 qs ∧ QB 9 qs) ∧ S = [(some (Sl.mk false (.scr ns))), (some (Sl.mk false (.lst (L.map .int)))), (some (Sl.mk false (.lst (rD ru)))), (some (Sl.mk true (.lst (P3.map .int)))), (some (Sl.mk false (tkO L ru))), (some (Sl.mk false (.lst (qs.map qL)))), (some (Sl.mk true (.lst (qs.map qL)))), none, none, none]) ?_ ?_
  · have gq := p_gqueues hq0 hb0
    by_cases hg : GQ1 qs0 ∧ GQ2 qs0
    · rw [decide_eq_true hg] at gq
      simp? only [gq]
      exact ⟨qs0, ⟨hg.1, hg.2, hb0⟩, rfl⟩
    · rw [decide_eq_false hg] at gq
      have rf : d__law_hall_refused [.lst (qs0.map qL), tkO L ru] = .ok (.bl true) := p_hrefused (b := false) (b2 := false) hq0 hb0 hg
      have hne : neD (.lst (qs0.map qL)) (.lst (qs0.map qL)) = .ok (.bl false) := by
        have hd : dok 60 (.lst (qs0.map qL)) = true := by
          simp only [dok]
          refine doks_map _ _ _ fun q hq => ?_
          simp only [dok]
          exact doks_int _ _
        unfold neD
        rw [hd, deq_self 60 _ hd]
        rfl
      rw [k_if]
      have et : Ok (tNo (tT' (eC d__law_good_queues (aC (eV 5) aN))) [(some (Sl.mk false (.scr ns))), (some (Sl.mk false (.lst (L.map .int)))), (some (Sl.mk false (.lst (rD ru)))), (some (Sl.mk true (.lst (P3.map .int)))), (some (Sl.mk false (tkO L ru))), (some (Sl.mk false (.lst (qs0.map qL)))), (some (Sl.mk true (.lst (qs0.map qL)))), none, none, none]) fun v => v = true := by simp? only [gq]
      refine et.mono ?_
      rintro _ rfl
      refine ⟨fun _ => ?_, fun h => nomatch h⟩
      refine seq_cut (fun S => S = [(some (Sl.mk false (.scr ns))), (some (Sl.mk false (.lst (L.map .int)))), (some (Sl.mk false (.lst (rD ru)))), (some (Sl.mk true (.lst (P3.map .int)))), (some (Sl.mk false (tkO L ru))), (some (Sl.mk false (.lst (qs0.map qL)))), (some (Sl.mk true (.lst (qs0.map qL)))), none, none, none]) ?_ ?_
      · simp? only [k_Bw58 (show fzL [(some (Sl.mk false (.scr ns))), (some (Sl.mk false (.lst (L.map .int)))), (some (Sl.mk false (.lst (rD ru)))), (some (Sl.mk true (.lst (P3.map .int)))), (some (Sl.mk false (tkO L ru))), (some (Sl.mk false (.lst (qs0.map qL)))), (some (Sl.mk true (.lst (qs0.map qL)))), none, none, none] [6] = some [(some (Sl.mk false (.scr ns))), (some (Sl.mk false (.lst (L.map .int)))), (some (Sl.mk false (.lst (rD ru)))), (some (Sl.mk true (.lst (P3.map .int)))), (some (Sl.mk false (tkO L ru))), (some (Sl.mk false (.lst (qs0.map qL)))), (some (Sl.mk false (.lst (qs0.map qL)))), none, none, none] from rfl), rf, hne]
        rfl
      rintro S rfl
      refine seq_cut (fun S => S = [(some (Sl.mk false (.scr ns))), (some (Sl.mk false (.lst (L.map .int)))), (some (Sl.mk false (.lst (rD ru)))), (some (Sl.mk true (.lst (P3.map .int)))), (some (Sl.mk false (tkO L ru))), (some (Sl.mk false (.lst ([[1, 0], []].map qL)))), (some (Sl.mk true (.lst (qs0.map qL)))), none, none, none]) (by simp? only []; rfl) ?_
      rintro S rfl
      refine (lc (q := [[1, 0], []]) (y := none) (by decide)).mono ?_
      rintro z rfl
      exact ⟨rfl, [[1, 0], []], ⟨gq_0.1, gq_0.2, by intro q hq; simp at hq; rcases hq with rfl | rfl <;> simp⟩, rfl⟩
  rintro S ⟨qs, ⟨w1, w2, hb⟩, rfl⟩
  have hq3 := w1.2
  have hgl : d_Hall [.lst (qs.map qL), tkO L ru] = .ok (hqO qs (tkO L ru)) := p_HallG (b := false) (b2 := false) (by omega) hb w1 w2
  have hgo : d_Hall [.tup [.tup [], .tup [.int 0, .int 2, .int 1]], tkO L ru] = .ok (hqO [[], [0, 2, 1]] (tkO L ru)) := p_HallG (b := true) (b2 := true) (qs := [[], [0, 2, 1]]) (by decide) (by intro q hq; simp at hq; rcases hq with rfl | rfl <;> simp) gq_1.1 gq_1.2
  have t1 := p_hallT (tk := tkO L ru) (L := L) (ru := ru) w1.1 hq3 hb bt
  have t2 : d__law_hall_told [hqO [[], [0, 2, 1]] (tkO L ru), .lst [.lst [], .lst [.int 0, .int 2, .int 1]], .lst (L.map .int), .lst (rD ru)] = .ok (.bl true) := p_hallT (qs := [[], [0, 2, 1]]) (by decide) (by decide) (by intro q hq; simp at hq; rcases hq with rfl | rfl <;> simp) bt
  refine seq_cut (fun S => S = [(some (Sl.mk false (.scr ns))), (some (Sl.mk false (.lst (L.map .int)))), (some (Sl.mk false (.lst (rD ru)))), (some (Sl.mk true (.lst (P3.map .int)))), (some (Sl.mk false (tkO L ru))), (some (Sl.mk false (.lst (qs.map qL)))), (some (Sl.mk true (.lst (qs.map qL)))), (some (Sl.mk false (hqO qs (tkO L ru)))), none, none]) ?_ ?_
  · simp? only [k_Bw58 (show fzL [(some (Sl.mk false (.scr ns))), (some (Sl.mk false (.lst (L.map .int)))), (some (Sl.mk false (.lst (rD ru)))), (some (Sl.mk true (.lst (P3.map .int)))), (some (Sl.mk false (tkO L ru))), (some (Sl.mk false (.lst (qs.map qL)))), (some (Sl.mk true (.lst (qs.map qL)))), none, none, none] [6] = some [(some (Sl.mk false (.scr ns))), (some (Sl.mk false (.lst (L.map .int)))), (some (Sl.mk false (.lst (rD ru)))), (some (Sl.mk true (.lst (P3.map .int)))), (some (Sl.mk false (tkO L ru))), (some (Sl.mk false (.lst (qs.map qL)))), (some (Sl.mk false (.lst (qs.map qL)))), none, none, none] from rfl), hgl]
    exact noC_hq hx
  rintro S rfl
  obtain ⟨q0, qs', hqs⟩ : ∃ q0 qs', qs = q0 :: qs' := by
    cases qs with
    | nil => exact absurd w1.1 (by simp)
    | cons a l => exact ⟨a, l, rfl⟩
  have hq0 : q0.length ≤ 9 := hb q0 (by rw [hqs]; simp)
  have hl0 : L.length ≤ 5 := hl5.2
  have hSl : ownL 6 [(some (Sl.mk false (.scr ns))), (some (Sl.mk false (.lst (L.map .int)))), (some (Sl.mk false (.lst (rD ru)))), (some (Sl.mk true (.lst (P3.map .int)))), (some (Sl.mk false (tkO L ru))), (some (Sl.mk false (.lst (qs.map qL)))), (some (Sl.mk true (.lst (qs.map qL)))), (some (Sl.mk false (hqO qs (tkO L ru)))), none, none] = .ok (.lst (q0.map .int) :: qs'.map qL) := by rw [hqs]; rfl
  refine k_Nap hSl ?_ (d := .int 7) rfl ⟨rfl, by rw [List.length_map]; omega⟩ ?_
  · rw [nlDs_i, all_qL]
    have e7 := nlD_hq (qs := qs) (L := L) hx
    simp only [okNap, slOk, e7, nlDs_i]
    simp
  have eS : [(some (Sl.mk false (.scr ns))), (some (Sl.mk false (.lst (L.map .int)))), (some (Sl.mk false (.lst (rD ru)))), (some (Sl.mk true (.lst (P3.map .int)))), (some (Sl.mk false (tkO L ru))), (some (Sl.mk false (.lst (qs.map qL)))), (some (Sl.mk true (.lst (qs.map qL)))), (some (Sl.mk false (hqO qs (tkO L ru)))), none, none].set 6 (some ⟨true, .lst (.lst (q0.map .int ++ [.int 7]) :: qs'.map qL)⟩) = [(some (Sl.mk false (.scr ns))), (some (Sl.mk false (.lst (L.map .int)))), (some (Sl.mk false (.lst (rD ru)))), (some (Sl.mk true (.lst (P3.map .int)))), (some (Sl.mk false (tkO L ru))), (some (Sl.mk false (.lst (qs.map qL)))), (some (Sl.mk true (.lst (.lst (q0.map .int ++ [.int 7]) :: qs'.map qL)))), (some (Sl.mk false (hqO qs (tkO L ru)))), none, none] := rfl
  rw [eS]
  have hqs' : qs'.length ≤ 3 := by rw [hqs] at hq3; simp at hq3; omega
  refine seq_cut (fun S => ∃ x, S = [(some (Sl.mk false (.scr ns))), (some (Sl.mk false (.lst (L.map .int)))), (some (Sl.mk false (.lst (rD ru)))), (some (Sl.mk true (.lst (P3.map .int)))), (some (Sl.mk false (tkO L ru))), (some (Sl.mk false (.lst (qs.map qL)))), x, (some (Sl.mk false (hqO qs (tkO L ru)))), none, none]) ?_ ?_
  · simp? only []
    exact ⟨by omega, _, rfl⟩
  rintro S ⟨x, rfl⟩
  refine seq_cut (fun S => S = [(some (Sl.mk false (.scr ns))), (some (Sl.mk false (.lst (L.map .int)))), (some (Sl.mk false (.lst (rD ru)))), (some (Sl.mk true (.lst (P3.map .int)))), (some (Sl.mk false (tkO L ru))), (some (Sl.mk false (.lst (qs.map qL)))), x, (some (Sl.mk false (hqO qs (tkO L ru)))), none, none]) (by simp? only [t1]) ?_
  rintro S rfl
  refine seq_cut (fun S => S = [(some (Sl.mk false (.scr ns))), (some (Sl.mk false (.lst (L.map .int)))), (some (Sl.mk false (.lst (rD ru)))), (some (Sl.mk true (.lst (P3.map .int)))), (some (Sl.mk false (tkO L ru))), (some (Sl.mk false (.lst (qs.map qL)))), x, (some (Sl.mk false (hqO qs (tkO L ru)))), (some (Sl.mk false (hqO [[], [0, 2, 1]] (tkO L ru)))), none]) (by simp? only [tk2, hgo]) ?_
  rintro S rfl
  simp? only [t1, t2]
  exact ⟨_, rfl⟩
end Pf
set_option Elab.async false
set_option linter.all false
set_option maxRecDepth 100000
set_option maxHeartbeats 0
open PySem PySem.W PySem.Calls PyProof.Rows
theorem PySem.Challenge.cw_firstbreach_k58_taking_books_and_halls_holds : PySem.Challenge.rw_firstbreach_k58_taking_books_and_halls.Holds := by
  w_on; o_law
  refine HandSHeadRun.head_any (r := OpenLaw.row PySem.Challenge.rw_firstbreach_k58_taking_books_and_halls) (q := view (OpenLaw.row PySem.Challenge.rw_firstbreach_k58_taking_books_and_halls).prog [34]) (H := Pf.hk) (ob := Pf.ob) (M := 4000) (loose := Pf.looseN) (d := HandSHeadRun.topDef (OpenLaw.row PySem.Challenge.rw_firstbreach_k58_taking_books_and_halls).prog 34) (kwd := []) Pf.ob_eq
    (by kernel_rfl) (fun s => by kernel_rfl) Pf.run (by kernel_rfl) (by kernel_rfl) (by kernel_rfl) (by rfl) (by first | assumption | decide +kernel) (by decide +kernel) ⟨rfl, rfl, rfl, rfl, rfl, by decide +kernel⟩ ?hw ?hc
  case hw => w_witness2
  case hc =>
    refine M.walk_ofX (l := PySem.Challenge.rw_firstbreach_k58_taking_books_and_halls) (n := 63) (k := 5) (x := "_law_script") (den := Pf.d_law) rfl (by decide) (by kernel_rfl) ⟨rfl, by decide, by decide⟩ ?F Pf.pure_law
    intro w mg fa h Y G hmg0
    obtain ⟨K, KX, c⟩ := Y
    have hmg : mg ("law" : PySem.Str) = some (.ref fa) := by
      have e : (HandSHeadRun.topDef (OpenLaw.row PySem.Challenge.rw_firstbreach_k58_taking_books_and_halls).prog 34).name = ("law" : PySem.Str) := by kernel_rfl
      rw [← e]
      exact hmg0
    obtain ⟨fd, hb, hF⟩ := Pf.facts (P := (PySem.Challenge.rw_firstbreach_k58_taking_books_and_halls).prog) (w := w) KX G hmg c
    exact ⟨K, fd, Pf.clK K, KX, hb, hF⟩
