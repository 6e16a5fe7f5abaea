import PyProof.Rows.All
import HandS.ForMost
import HandS.Flow
import HandS.Deep
import HandS.Evl
import HandS.WordsExc
import HandS.Exc
import HandS.TupAny
import HandS.TupMul
import HandS.TupLe
import HandS.WideBits
import HandS.Zip
import HandS.Defaults
import HandS.IsInst
import HandS.Strs
import KE.SortData
import HandS.Text
import HandS.Style
import HandS.MakeKwOnly
import HandS.MakeKw
import HandS.SetBool
import HandS.TupSets
import KE.GoesEnum
import KE.GoesMore
import HandS.Property
import HandS.Head0
import HandS.Head1
import HandS.Head2
import HandS.HeadEnd
import HandS.HeadHook1
import HandS.HeadHook2
import HandS.EndBits
import HandS.SortKw
import HandS.Keys
import KE.SortKeyHeap
import KE.DataAny
import HandS.Conv
import HandS.More
import HandS.HeadHook3
import PyProof.RulesMatch
import PySem.Challenge.RW_firstbreach_k41_crossing
set_option Elab.async false
set_option linter.all false
set_option maxRecDepth 100000
set_option maxHeartbeats 4000000
/-! A plain by-value semantics over the hand layer: values D, results R, slots with an owner's flag. -/
namespace M
open PySem L2
/-! ### values, results -/
inductive D where
  | non | bl (b : Bool) | int (i : Int) | str (x : Str) | ty (n : String)
  | tup (xs : List D) | lst (xs : List D) | dic (ks : List Key) (vs : List D) | dit (ks : List (List Key)) (vs : List D)
  | obj (c : Nat) (fs : List D) | scr (ns : List Int) | cls (c : Nat)
  deriving Inhabited
structure Exc where
  c : Nat
  fs : List D
inductive R (α : Type) where
  | ok (a : α) | exc (x : Exc) | fail
def R.bind {α β : Type} (r : R α) (f : α → R β) : R β := match r with
  | .ok a => f a
  | .exc x => .exc x
  | .fail => .fail
instance : Monad R where
  pure := .ok
  bind := R.bind
@[simp] theorem R.pure_eq {α : Type} (a : α) : (pure a : R α) = .ok a := rfl
@[simp] theorem R.ok_bind {α β : Type} (a : α) (f : α → R β) : (R.ok a >>= f) = f a := rfl
@[simp] theorem R.exc_bind {α β : Type} (x : Exc) (f : α → R β) : (R.exc x >>= f) = .exc x := rfl
@[simp] theorem R.fail_bind {α β : Type} (f : α → R β) : (R.fail >>= f) = .fail := rfl
/-- an exception may not leave here -/
def R.nox {α : Type} : R α → R α
  | .exc _ => .fail
  | r => r
@[simp] theorem R.nox_ok {α : Type} (a : α) : (R.ok a).nox = .ok a := rfl
@[simp] theorem R.nox_fail {α : Type} : (R.fail : R α).nox = .fail := rfl
/-- a guard -/
def R.need (b : Bool) : R Unit := if b then .ok () else .fail
@[simp] theorem R.need_true : R.need true = .ok () := rfl
structure Sl where
  own : Bool
  d : D
abbrev Env := List (Option Sl)
abbrev FE := Env → R D
abbrev FT := Env → R Bool
abbrev FA := Env → R (List D)
inductive Fl where
  | nx | bk | ct | rt (d : D)
abbrev FS := Env → R (Fl × Env)
abbrev FG := D → Env → R Env
/-- a value: stable; borrowed from a slot that owns it; new -/
inductive Kd where
  | st | bo | fr
/-! ### heaps -/
def Ex (H H' : Hp) : Prop := ∀ a o, H a = some o → H' a = some o
theorem Ex.refl (H : Hp) : Ex H H := fun _ _ h => h
theorem Ex.trans {H H1 H2 : Hp} (a : Ex H H1) (b : Ex H1 H2) : Ex H H2 := fun x o h => b x o (a x o h)
theorem Ex.new {H : Hp} {p : Addr} {o : HO} (h : H p = none) : Ex H (upd H p o) := fun a u e => by
  rw [upd_ne (ne_of_none e h)]; exact e
theorem Ex.upd {H H' : Hp} {p : Addr} {o : HO} (e : Ex H H') (h : H p = none) : Ex H (upd H' p o) := fun a u q => by
  rw [upd_ne (ne_of_none q h)]; exact e a u q
theorem Ex.upd2 {H H' : Hp} {p : Addr} {o : HO} (e : Ex H H') (h : H' p = some o) : Ex (L2.upd H p o) H' := fun a u q => by
  by_cases ha : a = p
  · subst ha; rw [upd_same] at q; cases q; exact h
  · rw [upd_ne ha] at q; exact e a u q
theorem Ex.free {H H' : Hp} (e : Ex H H') {l : Addr} (h : H' l = none) : H l = none := by
  cases q : H l with
  | none => rfl
  | some o => rw [e l o q] at h; cases h
theorem Ex.sqL {K : PySem.W.Frag} {H H' : Hp} {a : Addr} {xs : List V} (e : Ex H H') (h : SqL K H a xs) : SqL K H' a xs := by
  rcases h with (h | ⟨o, h⟩) | h
  · exact .inl (.inl (e _ _ h))
  · exact .inl (.inr ⟨o, e _ _ h⟩)
  · exact .inr h
theorem Ex.sqT {K : PySem.W.Frag} {H H' : Hp} {a : Addr} {xs : List V} (e : Ex H H') (h : SqT K H a xs) : SqT K H' a xs := by
  rcases h with (h | ⟨o, h⟩) | h
  · exact .inl (.inl (e _ _ h))
  · exact .inl (.inr ⟨o, e _ _ h⟩)
  · exact .inr h
/-- a tuple that is tracked, or a constant of the text -/
def SqU (K : PySem.W.Frag) (H : Hp) (a : Addr) (xs : List V) : Prop := H a = some (.tup xs) ∨ ∃ (o : Obj) (its : Array Value) (n : Nat), K.lookup a = some o ∧ o.cls = .type "tuple" ∧ o.data = .seq its n ∧ its.size ≤ sizeLine ∧ Vals xs its.toList
theorem SqU.t {K : PySem.W.Frag} {H : Hp} {a : Addr} {xs : List V} (h : SqU K H a xs) : SqT K H a xs := by
  rcases h with h | h
  · exact SqT.of h
  · exact .inr h
theorem SqU.of {K : PySem.W.Frag} {H : Hp} {a : Addr} {xs : List V} (h : H a = some (.tup xs)) : SqU K H a xs := .inl h
theorem Ex.sqU {K : PySem.W.Frag} {H H' : Hp} {a : Addr} {xs : List V} (e : Ex H H') (h : SqU K H a xs) : SqU K H' a xs := by
  rcases h with h | h
  · exact .inl (e _ _ h)
  · exact .inr h
/-- the stable part G within H grows by what is new alone -/
structure Step (G H G' H' : Hp) : Prop where
  g : Ex G G'
  h : Ex H H'
  gh : Ex G' H'
  gr : ∀ b o, G' b = some o → G b = some o ∨ H b = none
theorem Step.refl {G H : Hp} (e : Ex G H) : Step G H G H := ⟨Ex.refl _, Ex.refl _, e, fun _ _ h => .inl h⟩
theorem Step.trans {G H G1 H1 G2 H2 : Hp} (a : Step G H G1 H1) (b : Step G1 H1 G2 H2) : Step G H G2 H2 :=
  ⟨a.g.trans b.g, a.h.trans b.h, b.gh, fun x o q => by
    rcases b.gr x o q with q | q
    · exact a.gr x o q
    · exact .inr (a.h.free q)⟩
/-- a new object, stable at once -/
theorem Step.new {G H : Hp} {p : Addr} {o : HO} (e : Ex G H) (h : H p = none) : Step G H (upd G p o) (upd H p o) :=
  ⟨Ex.new (e.free h), Ex.new h, fun a u q => by
    by_cases ha : a = p
    · subst ha; rw [upd_same] at q ⊢; exact q
    · rw [upd_ne ha] at q ⊢; exact e a u q, fun b u q => by
    by_cases hb : b = p
    · subst hb; exact .inr h
    · rw [upd_ne hb] at q; exact .inl q⟩
/-- a new object, not stable -/
theorem Step.new' {G H : Hp} {p : Addr} {o : HO} (e : Ex G H) (h : H p = none) : Step G H G (upd H p o) :=
  ⟨Ex.refl _, Ex.new h, e.upd (e.free h), fun _ _ q => .inl q⟩
/-- what is new becomes stable -/
theorem Step.frz {G0 H0 G H : Hp} {p : Addr} {o : HO} (s : Step G0 H0 G H) (h : H p = some o) (h0 : H0 p = none) (hg : G p = none) : Step G0 H0 (upd G p o) H :=
  ⟨s.g.trans (Ex.new hg), s.h, s.gh.upd2 h, fun b u q => by
    by_cases hb : b = p
    · subst hb; exact .inr h0
    · rw [upd_ne hb] at q; exact s.gr b u q⟩
/-! ### the relation of values -/
/-- what is known of the text: its written part; the classes by number: address, names of the fields -/
structure Kn where
  K : PySem.W.Frag
  cl : Nat → Option (Addr × List Str)
mutual
inductive RD (k : Kn) (G : Hp) : D → V → Prop where
  | non : RD k G .non .non
  | bl (b : Bool) : RD k G (.bl b) (.bl b)
  | int (i : Int) : RD k G (.int i) (.int i)
  | str (x : Str) : RD k G (.str x) (.str x)
  | ty (n : String) : RD k G (.ty n) (.ty n)
  | tup {ds : List D} {a : Addr} {vs : List V} : SqU k.K G a vs → RDs k G ds vs → RD k G (.tup ds) (.ref a)
  | lst {ds : List D} {a : Addr} {vs : List V} : G a = some (.lst vs) → RDs k G ds vs → RD k G (.lst ds) (.ref a)
  | cls {c : Nat} {C : Addr} {nm : List Str} : k.cl c = some (C, nm) → RD k G (.cls c) (.ref C)
  | scr {ns : List Int} {a : Addr} : SqL k.K G a (ns.map V.int) → RD k G (.scr ns) (.ref a)
  | dic {ks : List Key} {ds : List D} {a : Addr} {vs : List V} : G a = some (.dK (ks.zip vs)) → ks.length = ds.length → RDs k G ds vs → RD k G (.dic ks ds) (.ref a)
  | dit {ks : List (List Key)} {ds : List D} {a : Addr} {vs : List V} : G a = some (.dT (ks.zip vs)) → ks.length = ds.length → RDs k G ds vs → RD k G (.dit ks ds) (.ref a)
  | obj {c : Nat} {ds : List D} {a C dx : Addr} {nm : List Str} {vs : List V} : k.cl c = some (C, nm) → G a = some (.ins C dx (nm.zip vs)) → RDs k G ds vs → RD k G (.obj c ds) (.ref a)
inductive RDs (k : Kn) (G : Hp) : List D → List V → Prop where
  | nil : RDs k G [] []
  | cons {d : D} {ds : List D} {v : V} {vs : List V} : RD k G d v → RDs k G ds vs → RDs k G (d :: ds) (v :: vs)
end
mutual
theorem RD.mono {k : Kn} {G G' : Hp} (e : Ex G G') : ∀ {d : D} {v : V}, RD k G d v → RD k G' d v
  | _, _, .non => .non
  | _, _, .bl b => .bl b
  | _, _, .int i => .int i
  | _, _, .str x => .str x
  | _, _, .ty n => .ty n
  | _, _, .tup h r => .tup (e.sqU h) (RDs.mono e r)
  | _, _, .lst h r => .lst (e _ _ h) (RDs.mono e r)
  | _, _, .scr h => .scr (e.sqL h)
  | _, _, .cls h => .cls h
  | _, _, .dic h l r => .dic (e _ _ h) l (RDs.mono e r)
  | _, _, .dit h l r => .dit (e _ _ h) l (RDs.mono e r)
  | _, _, .obj c h r => .obj c (e _ _ h) (RDs.mono e r)
theorem RDs.mono {k : Kn} {G G' : Hp} (e : Ex G G') : ∀ {ds : List D} {vs : List V}, RDs k G ds vs → RDs k G' ds vs
  | _, _, .nil => .nil
  | _, _, .cons a b => .cons (RD.mono e a) (RDs.mono e b)
end
section
variable {k : Kn} {G H : Hp}
theorem RDs.length : ∀ {ds : List D} {vs : List V}, RDs k G ds vs → ds.length = vs.length
  | _, _, .nil => rfl
  | _, _, .cons _ b => by simp [RDs.length b]
theorem RDs.append : ∀ {ds es : List D} {vs us : List V}, RDs k G ds vs → RDs k G es us → RDs k G (ds ++ es) (vs ++ us)
  | _, _, _, _, .nil, s => s
  | _, _, _, _, .cons a b, s => .cons a (RDs.append b s)
theorem RDs.get : ∀ {ds : List D} {vs : List V} {i : Nat} {d : D}, RDs k G ds vs → ds[i]? = some d → ∃ v, vs[i]? = some v ∧ RD k G d v
  | _, _, _, _, .nil, h => by simp at h
  | _, _, 0, _, .cons a _, h => by simp at h; subst h; exact ⟨_, rfl, a⟩
  | _, _, i + 1, d, .cons _ b, h => by
    obtain ⟨v, h1, h2⟩ := RDs.get (i := i) (d := d) b (by simpa using h)
    exact ⟨v, by simpa using h1, h2⟩
theorem RDs.getV {ds : List D} {vs : List V} {i : Nat} {v : V} (r : RDs k G ds vs) (h : vs[i]? = some v) : ∃ d, ds[i]? = some d ∧ RD k G d v := by
  have hl := r.length
  have hi : i < ds.length := by rw [hl]; exact (List.getElem?_eq_some_iff.mp h).1
  obtain ⟨v', h1, h2⟩ := r.get (List.getElem?_eq_getElem hi)
  rw [h] at h1; cases h1
  exact ⟨_, List.getElem?_eq_getElem hi, h2⟩
theorem RDs.take : ∀ {ds : List D} {vs : List V} (n : Nat), RDs k G ds vs → RDs k G (ds.take n) (vs.take n)
  | _, _, 0, _ => by simpa using .nil
  | _, _, _ + 1, .nil => .nil
  | _, _, n + 1, .cons r t => .cons r (RDs.take n t)
theorem RDs.drop : ∀ {ds : List D} {vs : List V} (n : Nat), RDs k G ds vs → RDs k G (ds.drop n) (vs.drop n)
  | _, _, 0, r => r
  | _, _, _ + 1, .nil => .nil
  | _, _, n + 1, .cons _ t => RDs.drop n t
theorem RDs.reverse : ∀ {ds : List D} {vs : List V}, RDs k G ds vs → RDs k G ds.reverse vs.reverse
  | _, _, .nil => .nil
  | _, _, .cons a b => by rw [List.reverse_cons, List.reverse_cons]; exact RDs.append (RDs.reverse b) (.cons a .nil)
theorem RDs.set : ∀ {ds : List D} {vs : List V} (i : Nat) {d : D} {v : V}, RDs k G ds vs → RD k G d v → RDs k G (ds.set i d) (vs.set i v)
  | _, _, _, _, _, .nil, _ => .nil
  | _, _, 0, _, _, .cons _ t, r => .cons r t
  | _, _, i + 1, _, _, .cons q t, r => .cons q (RDs.set i t r)
theorem RDs.ints : ∀ (ns : List Int), RDs k G (ns.map D.int) (ns.map V.int)
  | [] => .nil
  | n :: ns => .cons (.int n) (RDs.ints ns)
end
/-- an object and what it holds, one level: what may be owned -/
inductive Cont (k : Kn) (G : Hp) : D → HO → Prop where
  | lst {ds : List D} {vs : List V} : RDs k G ds vs → Cont k G (.lst ds) (.lst vs)
  | dic {ks : List Key} {ds : List D} {vs : List V} : ks.length = ds.length → RDs k G ds vs → Cont k G (.dic ks ds) (.dK (ks.zip vs))
  | dit {ks : List (List Key)} {ds : List D} {vs : List V} : ks.length = ds.length → RDs k G ds vs → Cont k G (.dit ks ds) (.dT (ks.zip vs))
  | obj {c : Nat} {ds : List D} {C dx : Addr} {nm : List Str} {vs : List V} : k.cl c = some (C, nm) → RDs k G ds vs → Cont k G (.obj c ds) (.ins C dx (nm.zip vs))
theorem Cont.mono {k : Kn} {G G' : Hp} (e : Ex G G') {d : D} {o : HO} (c : Cont k G d o) : Cont k G' d o := by
  cases c with
  | lst r => exact .lst (r.mono e)
  | dic l r => exact .dic l (r.mono e)
  | dit l r => exact .dit l (r.mono e)
  | obj h r => exact .obj h (r.mono e)
theorem Cont.rd {k : Kn} {G : Hp} {d : D} {o : HO} {a : Addr} (c : Cont k G d o) (h : G a = some o) : RD k G d (.ref a) := by
  cases c with
  | lst r => exact .lst h r
  | dic l r => exact .dic h l r
  | dit l r => exact .dit h l r
  | obj q r => exact .obj q h r
/-! ### the state of a frame -/
/-- the frame: the text, the heap at the entry, its stable part, what is wanted of an exception -/
structure Cf where
  k : Kn
  H0 : Hp
  G0 : Hp
  W : XK
def OwnAt (S : Env) (σ : St) (i : Nat) (a : Addr) : Prop := (∃ d, S[i]? = some (some ⟨true, d⟩)) ∧ σ[i]? = some (some (.ref a))
structure Rel (c : Cf) (G : Hp) (S : Env) (σ : St) (H : Hp) : Prop where
  st : Step c.G0 c.H0 G H
  len : S.length = σ.length
  fz : ∀ (i : Nat) (d : D), S[i]? = some (some ⟨false, d⟩) → ∃ v, σ[i]? = some (some v) ∧ RD c.k G d v
  ow : ∀ (i : Nat) (d : D), S[i]? = some (some ⟨true, d⟩) → ∃ a o, σ[i]? = some (some (.ref a)) ∧ G a = none ∧ c.H0 a = none ∧ H a = some o ∧ Cont c.k G d o
  nd : ∀ (i j : Nat) (a : Addr), OwnAt S σ i a → OwnAt S σ j a → i = j
section
variable {c : Cf} {G G' H H' : Hp} {S : Env} {σ : St}
theorem Rel.own (r : Rel c G S σ H) {i : Nat} {a : Addr} (h : OwnAt S σ i a) : G a = none ∧ c.H0 a = none ∧ ∃ o d, H a = some o ∧ S[i]? = some (some ⟨true, d⟩) ∧ Cont c.k G d o := by
  obtain ⟨⟨d, hd⟩, hs⟩ := h
  obtain ⟨a', o, e, g, h0, ho, ct⟩ := r.ow i d hd
  rw [hs] at e; cases e
  exact ⟨g, h0, o, d, ho, hd, ct⟩
theorem Rel.grow (r : Rel c G S σ H) (s : Step G H G' H') : Rel c G' S σ H' where
  st := r.st.trans s
  len := r.len
  fz := fun i d h => let ⟨v, e, q⟩ := r.fz i d h; ⟨v, e, q.mono s.g⟩
  ow := fun i d h => by
    obtain ⟨a, o, e, g, h0, ho, ct⟩ := r.ow i d h
    refine ⟨a, o, e, ?_, h0, s.h _ _ ho, ct.mono s.g⟩
    cases q : G' a with
    | none => rfl
    | some u =>
      rcases s.gr a u q with z | z
      · rw [g] at z; cases z
      · rw [ho] at z; cases z
  nd := r.nd
/-- an owned object is frozen -/
theorem Rel.frz (r : Rel c G S σ H) {i : Nat} {d : D} (h : S[i]? = some (some ⟨true, d⟩)) : ∃ G', Ex G G' ∧ Rel c G' (S.set i (some ⟨false, d⟩)) σ H := by
  obtain ⟨a, o, e, g, h0, ho, ct⟩ := r.ow i d h
  have ow : OwnAt S σ i a := ⟨⟨d, h⟩, e⟩
  have ex : Ex G (upd G a o) := Ex.new g
  have hi : i < S.length := (List.getElem?_eq_some_iff.mp h).1
  refine ⟨upd G a o, ex, ⟨r.st.frz ho h0 g, by rw [List.length_set]; exact r.len, fun j d' q => ?_, fun j d' q => ?_, fun j l b q1 q2 => ?_⟩⟩
  · by_cases hj : i = j
    · subst hj
      rw [List.getElem?_set_self hi] at q; cases q
      exact ⟨_, e, (ct.mono ex).rd upd_same⟩
    · rw [List.getElem?_set_ne hj] at q
      obtain ⟨v, e', q'⟩ := r.fz j d' q
      exact ⟨v, e', q'.mono ex⟩
  · by_cases hj : i = j
    · subst hj
      rw [List.getElem?_set_self hi] at q; cases q
    · rw [List.getElem?_set_ne hj] at q
      obtain ⟨b, u, e', g', h0', ho', ct'⟩ := r.ow j d' q
      have hb : b ≠ a := fun z => hj (r.nd i j a ow ⟨⟨d', q⟩, by rw [← z]; exact e'⟩)
      exact ⟨b, u, e', by rw [upd_ne hb]; exact g', h0', ho', ct'.mono ex⟩
  · have back : ∀ {m : Nat}, OwnAt (S.set i (some ⟨false, d⟩)) σ m b → OwnAt S σ m b := fun {m} hm => by
      obtain ⟨⟨d', q⟩, z⟩ := hm
      by_cases hj : i = m
      · subst hj; rw [List.getElem?_set_self hi] at q; cases q
      · rw [List.getElem?_set_ne hj] at q; exact ⟨⟨d', q⟩, z⟩
    exact r.nd j l b (back q1) (back q2)
/-- a slot takes a stable value -/
theorem Rel.setS (r : Rel c G S σ H) {d : D} {v : V} (i : Nat) (h : RD c.k G d v) : Rel c G (S.set i (some ⟨false, d⟩)) (σ.set i (some v)) H where
  st := r.st
  len := by rw [List.length_set, List.length_set]; exact r.len
  fz := fun j d' q => by
    by_cases hj : i = j
    · subst hj
      have hi : i < S.length := by have := (List.getElem?_eq_some_iff.mp q).1; rwa [List.length_set] at this
      rw [List.getElem?_set_self hi] at q; cases q
      exact ⟨v, List.getElem?_set_self (by rw [← r.len]; exact hi), h⟩
    · rw [List.getElem?_set_ne hj] at q ⊢; exact r.fz j d' q
  ow := fun j d' q => by
    by_cases hj : i = j
    · subst hj
      have hi : i < S.length := by have := (List.getElem?_eq_some_iff.mp q).1; rwa [List.length_set] at this
      rw [List.getElem?_set_self hi] at q; cases q
    · rw [List.getElem?_set_ne hj] at q ⊢; exact r.ow j d' q
  nd := fun j l b q1 q2 => by
    have back : ∀ {m : Nat}, OwnAt (S.set i (some ⟨false, d⟩)) (σ.set i (some v)) m b → OwnAt S σ m b := fun {m} hm => by
      obtain ⟨⟨d', q⟩, z⟩ := hm
      by_cases hj : i = m
      · subst hj
        have hi : i < S.length := by have := (List.getElem?_eq_some_iff.mp q).1; rwa [List.length_set] at this
        rw [List.getElem?_set_self hi] at q; cases q
      · rw [List.getElem?_set_ne hj] at q z; exact ⟨⟨d', q⟩, z⟩
    exact r.nd j l b (back q1) (back q2)
/-- a slot takes a new object that nobody else has; the heap may have changed at it -/
theorem Rel.setO (r : Rel c G S σ H) {d : D} {a : Addr} {o : HO} (i : Nat) (ha : H' a = some o) (hg : G a = none) (h0 : c.H0 a = none) (ct : Cont c.k G d o) (hn : ∀ j, OwnAt S σ j a → j = i) (hh : ∀ b, b ≠ a → H' b = H b) :
    Rel c G (S.set i (some ⟨true, d⟩)) (σ.set i (some (.ref a))) H' where
  st := ⟨r.st.g, fun b u q => by rw [hh b (ne_of_none q h0)]; exact r.st.h b u q, fun b u q => by rw [hh b (ne_of_none q hg)]; exact r.st.gh b u q, r.st.gr⟩
  len := by rw [List.length_set, List.length_set]; exact r.len
  fz := fun j d' q => by
    by_cases hj : i = j
    · subst hj
      have hi : i < S.length := by have := (List.getElem?_eq_some_iff.mp q).1; rwa [List.length_set] at this
      rw [List.getElem?_set_self hi] at q; cases q
    · rw [List.getElem?_set_ne hj] at q ⊢; exact r.fz j d' q
  ow := fun j d' q => by
    by_cases hj : i = j
    · subst hj
      have hi : i < S.length := by have := (List.getElem?_eq_some_iff.mp q).1; rwa [List.length_set] at this
      rw [List.getElem?_set_self hi] at q; cases q
      exact ⟨a, o, List.getElem?_set_self (by rw [← r.len]; exact hi), hg, h0, ha, ct⟩
    · rw [List.getElem?_set_ne hj] at q ⊢
      obtain ⟨b, u, e', g', h0', ho', ct'⟩ := r.ow j d' q
      have hb : b ≠ a := fun z => hj (hn j ⟨⟨d', q⟩, by rw [← z]; exact e'⟩).symm
      exact ⟨b, u, e', g', h0', by rw [hh b hb]; exact ho', ct'⟩
  nd := fun j l b q1 q2 => by
    have back : ∀ {m : Nat}, OwnAt (S.set i (some ⟨true, d⟩)) (σ.set i (some (.ref a))) m b → (m = i ∧ b = a) ∨ (m ≠ i ∧ OwnAt S σ m b) := fun {m} hm => by
      obtain ⟨⟨d', q⟩, z⟩ := hm
      by_cases hj : i = m
      · subst hj
        have hi : i < S.length := by have := (List.getElem?_eq_some_iff.mp q).1; rwa [List.length_set] at this
        rw [List.getElem?_set_self (by rw [← r.len]; exact hi)] at z; cases z
        exact .inl ⟨rfl, rfl⟩
      · rw [List.getElem?_set_ne hj] at q z; exact .inr ⟨Ne.symm hj, ⟨d', q⟩, z⟩
    rcases back q1 with ⟨h1, e1⟩ | ⟨n1, o1⟩ <;> rcases back q2 with ⟨h2, e2⟩ | ⟨n2, o2⟩
    · rw [h1, h2]
    · exact absurd (hn l (by rw [← e1]; exact o2)) n2
    · exact absurd (hn j (by rw [← e2]; exact o1)) n1
    · exact r.nd j l b o1 o2
/-- a slot is forgotten -/
theorem Rel.unset (r : Rel c G S σ H) (i : Nat) : Rel c G (S.set i none) (σ.set i none) H where
  st := r.st
  len := by rw [List.length_set, List.length_set]; exact r.len
  fz := fun j d' q => by
    by_cases hj : i = j
    · subst hj
      have hi : i < S.length := by have := (List.getElem?_eq_some_iff.mp q).1; rwa [List.length_set] at this
      rw [List.getElem?_set_self hi] at q; cases q
    · rw [List.getElem?_set_ne hj] at q ⊢; exact r.fz j d' q
  ow := fun j d' q => by
    by_cases hj : i = j
    · subst hj
      have hi : i < S.length := by have := (List.getElem?_eq_some_iff.mp q).1; rwa [List.length_set] at this
      rw [List.getElem?_set_self hi] at q; cases q
    · rw [List.getElem?_set_ne hj] at q ⊢; exact r.ow j d' q
  nd := fun j l b q1 q2 => by
    have back : ∀ {m : Nat}, OwnAt (S.set i none) (σ.set i none) m b → OwnAt S σ m b := fun {m} hm => by
      obtain ⟨⟨d', q⟩, z⟩ := hm
      by_cases hj : i = m
      · subst hj
        have hi : i < S.length := by have := (List.getElem?_eq_some_iff.mp q).1; rwa [List.length_set] at this
        rw [List.getElem?_set_self hi] at q; cases q
      · rw [List.getElem?_set_ne hj] at q z; exact ⟨⟨d', q⟩, z⟩
    exact r.nd j l b (back q1) (back q2)
end
def wipeS (S : Env) : List Nat → Env
  | [] => S
  | v :: vs => (wipeS S vs).set v none
theorem Rel.wipe {c : Cf} {G H : Hp} {S : Env} {σ : St} (r : Rel c G S σ H) : ∀ vs : List Nat, Rel c G (wipeS S vs) (L2.wipe σ vs) H
  | [] => r
  | v :: vs => (Rel.wipe r vs).unset v
/-- a slot's own object is changed -/
theorem Rel.mut {c : Cf} {G H : Hp} {S : Env} {σ : St} (r : Rel c G S σ H) {i : Nat} {a : Addr} {d' : D} {o' : HO} (ow : OwnAt S σ i a) (ct : Cont c.k G d' o') : Rel c G (S.set i (some ⟨true, d'⟩)) σ (upd H a o') := by
  obtain ⟨g, h0, _⟩ := r.own ow
  have q := r.setO (H' := upd H a o') i upd_same g h0 ct (fun j oj => r.nd j i a oj ow) (fun b hb => upd_ne hb)
  have e : σ.set i (some (.ref a)) = σ := by
    apply List.ext_getElem?
    intro j
    by_cases hj : i = j
    · subst hj; rw [List.getElem?_set_self (List.getElem?_eq_some_iff.mp ow.2).1, ow.2]
    · rw [List.getElem?_set_ne hj]
  rw [e] at q; exact q
/-! ### readings -/
/-- a value as it stands now: stable, or an object of its own whose parts are stable -/
def Now (k : Kn) (G H : Hp) (d : D) (v : V) : Prop := RD k G d v ∨ ∃ a o, v = .ref a ∧ H a = some o ∧ Cont k G d o
inductive Nows (k : Kn) (G H : Hp) : List D → List V → Prop where
  | nil : Nows k G H [] []
  | cons {d : D} {ds : List D} {v : V} {vs : List V} : Now k G H d v → Nows k G H ds vs → Nows k G H (d :: ds) (v :: vs)
section
variable {k : Kn} {G G' H H' : Hp}
theorem Now.grow {d : D} {v : V} (n : Now k G H d v) (s : Step G H G' H') : Now k G' H' d v := by
  rcases n with n | ⟨a, o, e, h, ct⟩
  · exact .inl (n.mono s.g)
  · exact .inr ⟨a, o, e, s.h _ _ h, ct.mono s.g⟩
theorem Nows.grow (s : Step G H G' H') : ∀ {ds : List D} {vs : List V}, Nows k G H ds vs → Nows k G' H' ds vs
  | _, _, .nil => .nil
  | _, _, .cons a b => .cons (a.grow s) (Nows.grow s b)
theorem Nows.of : ∀ {ds : List D} {vs : List V}, RDs k G ds vs → Nows k G H ds vs
  | _, _, .nil => .nil
  | _, _, .cons a b => .cons (.inl a) (Nows.of b)
theorem Now.rd {d : D} {v : V} (e : Ex G H) (n : Now k G H d v) : RD k H d v := by
  rcases n with n | ⟨a, o, rfl, h, ct⟩
  · exact n.mono e
  · exact (ct.mono e).rd h
theorem Nows.rd (e : Ex G H) : ∀ {ds : List D} {vs : List V}, Nows k G H ds vs → RDs k H ds vs
  | _, _, .nil => .nil
  | _, _, .cons a b => .cons (a.rd e) (Nows.rd e b)
theorem Now.lst {ds : List D} {v : V} (e : Ex G H) (n : Now k G H (.lst ds) v) : ∃ a vs, v = .ref a ∧ H a = some (.lst vs) ∧ RDs k G ds vs := by
  rcases n with n | ⟨a, o, rfl, h, ct⟩
  · cases n with | lst h r => exact ⟨_, _, rfl, e _ _ h, r⟩
  · cases ct with | lst r => exact ⟨_, _, rfl, h, r⟩
theorem Now.tup {ds : List D} {v : V} (n : Now k G H (.tup ds) v) : ∃ a vs, v = .ref a ∧ SqU k.K G a vs ∧ RDs k G ds vs := by
  rcases n with n | ⟨a, o, rfl, h, ct⟩
  · cases n with | tup h r => exact ⟨_, _, rfl, h, r⟩
  · cases ct
theorem Now.scr {ns : List Int} {v : V} (n : Now k G H (.scr ns) v) : ∃ a, v = .ref a ∧ SqL k.K G a (ns.map V.int) := by
  rcases n with n | ⟨a, o, rfl, h, ct⟩
  · cases n with | scr h => exact ⟨_, rfl, h⟩
  · cases ct
theorem Now.dic {ks : List Key} {ds : List D} {v : V} (e : Ex G H) (n : Now k G H (.dic ks ds) v) : ∃ a vs, v = .ref a ∧ H a = some (.dK (ks.zip vs)) ∧ ks.length = ds.length ∧ RDs k G ds vs := by
  rcases n with n | ⟨a, o, rfl, h, ct⟩
  · cases n with | dic h l r => exact ⟨_, _, rfl, e _ _ h, l, r⟩
  · cases ct with | dic l r => exact ⟨_, _, rfl, h, l, r⟩
theorem Now.dit {ks : List (List Key)} {ds : List D} {v : V} (e : Ex G H) (n : Now k G H (.dit ks ds) v) : ∃ a vs, v = .ref a ∧ H a = some (.dT (ks.zip vs)) ∧ ks.length = ds.length ∧ RDs k G ds vs := by
  rcases n with n | ⟨a, o, rfl, h, ct⟩
  · cases n with | dit h l r => exact ⟨_, _, rfl, e _ _ h, l, r⟩
  · cases ct with | dit l r => exact ⟨_, _, rfl, h, l, r⟩
theorem Now.obj {c : Nat} {ds : List D} {v : V} (e : Ex G H) (n : Now k G H (.obj c ds) v) : ∃ a C dx nm vs, v = .ref a ∧ k.cl c = some (C, nm) ∧ H a = some (.ins C dx (nm.zip vs)) ∧ RDs k G ds vs := by
  rcases n with n | ⟨a, o, rfl, h, ct⟩
  · cases n with | obj q h r => exact ⟨_, _, _, _, _, rfl, q, e _ _ h, r⟩
  · cases ct with | obj q r => exact ⟨_, _, _, _, _, rfl, q, h, r⟩
theorem Now.int {i : Int} {v : V} (n : Now k G H (.int i) v) : v = .int i := by
  rcases n with n | ⟨a, o, rfl, h, ct⟩
  · cases n; rfl
  · cases ct
theorem Now.bl {i : Bool} {v : V} (n : Now k G H (.bl i) v) : v = .bl i := by
  rcases n with n | ⟨a, o, rfl, h, ct⟩
  · cases n; rfl
  · cases ct
theorem Now.str {i : Str} {v : V} (n : Now k G H (.str i) v) : v = .str i := by
  rcases n with n | ⟨a, o, rfl, h, ct⟩
  · cases n; rfl
  · cases ct
theorem Now.non {v : V} (n : Now k G H .non v) : v = .non := by
  rcases n with n | ⟨a, o, rfl, h, ct⟩
  · cases n; rfl
  · cases ct
theorem Now.ty {x : String} {v : V} (n : Now k G H (.ty x) v) : v = .ty x := by
  rcases n with n | ⟨a, o, rfl, h, ct⟩
  · cases n; rfl
  · cases ct
end
/-- what an expression gives: stable, as it stands, or new behind the heap H -/
def Res (k : Kn) (H : Hp) (G' H' : Hp) (d : D) (v : V) : Kd → Prop
  | .st => RD k G' d v
  | .bo => Now k G' H' d v
  | .fr => ∃ a o, v = .ref a ∧ G' a = none ∧ H a = none ∧ H' a = some o ∧ Cont k G' d o
section
variable {k : Kn} {H0 H G' H' G2 H2 : Hp} {d : D} {v : V} {kd : Kd}
theorem Res.mono (h : Res k H G' H' d v kd) (e : Ex H0 H) : Res k H0 G' H' d v kd := by
  cases kd with
  | st => exact h
  | bo => exact h
  | fr => obtain ⟨a, o, e', hg, h0, r⟩ := h; exact ⟨a, o, e', hg, e.free h0, r⟩
theorem Res.now (h : Res k H G' H' d v kd) : Now k G' H' d v := by
  cases kd with
  | st => exact .inl h
  | bo => exact h
  | fr => obtain ⟨a, o, e, _, _, h, ct⟩ := h; exact .inr ⟨a, o, e, h, ct⟩
end
def Args (k : Kn) (G H : Hp) (ds : List D) (vs : List V) : Bool → Prop
  | true => Nows k G H ds vs
  | false => RDs k G ds vs
theorem Args.nows {k : Kn} {G H : Hp} {ds : List D} {vs : List V} {b : Bool} (h : Args k G H ds vs b) : Nows k G H ds vs := by
  cases b with
  | true => exact h
  | false => exact Nows.of h
/-- how an exception lies -/
def XR (c : Cf) (G : Hp) (x : Exc) (cls : Value) (da : Option Addr) (H : Hp) : Prop :=
  ∃ C nm, c.k.cl x.c = some (C, nm) ∧ cls = .ref C ∧ ((nm = [] ∧ x.fs = [] ∧ da = none) ∨ ∃ d vs, da = some d ∧ H d = some (.xd (nm.zip vs)) ∧ RDs c.k G x.fs vs ∧ nm.length = vs.length)
def PX (c : Cf) (x : Exc) : Prop := ∀ cls da G' H', Step c.G0 c.H0 G' H' → XR c G' x cls da H' → c.W cls da H'
def PostE (c : Cf) (k : Kd) (G : Hp) (S : Env) (σ : St) (H : Hp) (Q : VK) : R D → Prop
  | .ok d => ∀ v G' H', Step G H G' H' → Res c.k H G' H' d v k → Q v H'
  | .exc x => PX c x
  | .fail => False
def RdE (c : Cf) (k : Kd) (f : FE) : TE := fun σ H Q => ∃ G S, Rel c G S σ H ∧ PostE c k G S σ H Q (f S)
def PostT (c : Cf) (G : Hp) (S : Env) (σ : St) (H : Hp) (Q : Bool → Hp → Prop) : R Bool → Prop
  | .ok b => ∀ G' H', Step G H G' H' → Q b H'
  | .exc x => PX c x
  | .fail => False
def RdT (c : Cf) (f : FT) : TT := fun σ H Q => ∃ G S, Rel c G S σ H ∧ PostT c G S σ H Q (f S)
/-- arguments: stable ones, or such as stand now -/
def PostA (c : Cf) (b : Bool) (G : Hp) (S : Env) (σ : St) (H : Hp) (Q : List V → Hp → Prop) : R (List D) → Prop
  | .ok ds => ∀ vs G' H', Step G H G' H' → Args c.k G' H' ds vs b → Q vs H'
  | .exc x => PX c x
  | .fail => False
def RdA (c : Cf) (b : Bool) (f : FA) : TA := fun σ H Q => ∃ G S, Rel c G S σ H ∧ PostA c b G S σ H Q (f S)
/-- what a statement leaves alone; i: slot i is stored, i + 1000: its own object is changed -/
structure Frm (as : List Nat) (S : Env) (σ : St) (H : Hp) (S' : Env) (σ' : St) (H' : Hp) : Prop where
  len : σ'.length = σ.length
  sg : ∀ (i : Nat), i ∉ as → σ'[i]? = σ[i]?
  sl : ∀ (i : Nat), i ∉ as → i + 1000 ∉ as → S'[i]? = S[i]?
  ow : ∀ (i : Nat) (a : Addr), i ∉ as → i + 1000 ∉ as → OwnAt S σ i a → H' a = H a
theorem Frm.refl (as : List Nat) (S : Env) (σ : St) (H : Hp) : Frm as S σ H S σ H := ⟨rfl, fun _ _ => rfl, fun _ _ _ => rfl, fun _ _ _ _ _ => rfl⟩
theorem Frm.trans {as bs : List Nat} {S S1 S2 : Env} {σ σ1 σ2 : St} {H H1 H2 : Hp} (a : Frm as S σ H S1 σ1 H1) (b : Frm bs S1 σ1 H1 S2 σ2 H2) : Frm (as ++ bs) S σ H S2 σ2 H2 where
  len := b.len.trans a.len
  sg := fun i h => by
    simp only [List.mem_append, not_or] at h
    exact (b.sg i h.2).trans (a.sg i h.1)
  sl := fun i h h' => by
    simp only [List.mem_append, not_or] at h h'
    exact (b.sl i h.2 h'.2).trans (a.sl i h.1 h'.1)
  ow := fun i x h h' o => by
    simp only [List.mem_append, not_or] at h h'
    have o' : OwnAt S1 σ1 i x := ⟨by obtain ⟨d, e⟩ := o.1; exact ⟨d, (a.sl i h.1 h'.1).trans e⟩, (a.sg i h.1).trans o.2⟩
    exact (b.ow i x h.2 h'.2 o').trans (a.ow i x h.1 h'.1 o)
theorem Frm.mono {as bs : List Nat} {S S1 : Env} {σ σ1 : St} {H H1 : Hp} (a : Frm as S σ H S1 σ1 H1) (h : ∀ i, i ∈ as → i ∈ bs) : Frm bs S σ H S1 σ1 H1 :=
  ⟨a.len, fun i q => a.sg i fun z => q (h i z), fun i q q' => a.sl i (fun z => q (h i z)) fun z => q' (h _ z), fun i x q q' => a.ow i x (fun z => q (h i z)) fun z => q' (h _ z)⟩
theorem Frm.step {c : Cf} {as : List Nat} {S : Env} {σ : St} {G H G' H' : Hp} (r : Rel c G S σ H) (s : Step G H G' H') : Frm as S σ H S σ H' :=
  ⟨rfl, fun _ _ => rfl, fun _ _ _ => rfl, fun i a _ _ o => by
    obtain ⟨_, _, u, _, h, _⟩ := r.own o
    rw [h, s.h a u h]⟩
theorem Frm.mut {c : Cf} {G H : Hp} {S : Env} {σ : St} (r : Rel c G S σ H) {i : Nat} {a : Addr} {x : Option Sl} {o' : HO} (ow : OwnAt S σ i a) : Frm [i + 1000] S σ H (S.set i x) σ (upd H a o') :=
  ⟨rfl, fun _ _ => rfl, fun j _ h => List.getElem?_set_ne (fun z => h (by simp [z])), fun j b _ h oj => upd_ne (fun z => h (by
    have : i = j := r.nd i j b (by rw [z]; exact ow) oj
    simp [this]))⟩
def RV (c : Cf) (fr : Bool) (G H : Hp) (d : D) (v : V) : Prop :=
  match fr with
  | true => ∃ a o, v = .ref a ∧ G a = none ∧ c.H0 a = none ∧ H a = some o ∧ Cont c.k G d o
  | false => RD c.k G d v
def PostS (c : Cf) (fr : Bool) (as : List Nat) (G : Hp) (S : Env) (σ : St) (H : Hp) (Dn : Ends) : R (Fl × Env) → Prop
  | .ok (.nx, S') => ∀ G' σ' H', Ex G G' → Rel c G' S' σ' H' → Frm as S σ H S' σ' H' → Dn.nx σ' H'
  | .ok (.bk, S') => ∀ G' σ' H', Ex G G' → Rel c G' S' σ' H' → Frm as S σ H S' σ' H' → Dn.bk σ' H'
  | .ok (.ct, S') => ∀ G' σ' H', Ex G G' → Rel c G' S' σ' H' → Frm as S σ H S' σ' H' → Dn.ct σ' H'
  | .ok (.rt d, _) => ∀ v G' H', Step c.G0 c.H0 G' H' → RV c fr G' H' d v → Dn.rt v H'
  | .exc x => PX c x
  | .fail => False
def RdS (c : Cf) (fr : Bool) (as : List Nat) (f : FS) : TS := fun Dn σ H => ∃ G S, Rel c G S σ H ∧ PostS c fr as G S σ H Dn (f S)
/-- a target -/
def PostG (c : Cf) (as : List Nat) (G : Hp) (S : Env) (σ : St) (H : Hp) (Q : St → Hp → Prop) : R Env → Prop
  | .ok S' => ∀ G' σ' H', Step G H G' H' → Rel c G' S' σ' H' → Frm as S σ H S' σ' H' → Q σ' H'
  | _ => False
def RdG (c : Cf) (as : List Nat) (g : FG) : TG := fun v σ H Q => ∃ G S d, Rel c G S σ H ∧ RD c.k G d v ∧ PostG c as G S σ H Q (g d S)
end M
set_option Elab.async false
set_option linter.all false
set_option maxRecDepth 100000
set_option maxHeartbeats 4000000
namespace M
open PySem L2
/-! ### weakening -/
section
variable {X : Cx}
theorem peI {e : Expr} {t t' : TE} (h : PE X e t) (i : ∀ σ H Q, t' σ H Q → t σ H Q) : PE X e t' := ⟨fun pins s σ H Q I q => h.run pins s σ H Q I (i σ H Q q)⟩
theorem ptI {e : Expr} {t t' : TT} (h : PT X e t) (i : ∀ σ H Q, t' σ H Q → t σ H Q) : PT X e t' := ⟨fun pins s σ H Q I q => h.run pins s σ H Q I (i σ H Q q)⟩
theorem pwI {e : Expr} {t t' : TT} (h : PW X e t) (i : ∀ σ H Q, t' σ H Q → t σ H Q) : PW X e t' := ⟨fun wh pins s σ H Q I q => h.run wh pins s σ H Q I (i σ H Q q)⟩
theorem paI {e : List Expr} {t t' : TA} (h : PA X e t) (i : ∀ σ H Q, t' σ H Q → t σ H Q) : PA X e t' := ⟨fun pos pins s σ H Q I q => h.run pos pins s σ H Q I (i σ H Q q)⟩
theorem psI {e : Stmt} {t t' : TS} (h : PS X e t) (i : ∀ D σ H, t' D σ H → t D σ H) : PS X e t' := ⟨fun pins s σ H D I q => h.run pins s σ H D I (i D σ H q)⟩
theorem pssI {e : List Stmt} {t t' : TS} (h : PSs X e t) (i : ∀ D σ H, t' D σ H → t D σ H) : PSs X e t' := ⟨fun pins s σ H D I q => h.run pins s σ H D I (i D σ H q)⟩
theorem pgI {e : Expr} {t t' : TG} (h : PG X e t) (i : ∀ v σ H Q, t' v σ H Q → t v σ H Q) : PG X e t' := ⟨fun pins s σ H v u Q I r q => h.run pins s σ H v u Q I r (i v σ H Q q)⟩
theorem pgsI {e : List Expr} {t t' : TGs} (h : PGs X e t) (i : ∀ v σ H Q, t' v σ H Q → t v σ H Q) : PGs X e t' := ⟨fun pins s σ H v u Q I r q => h.run pins s σ H v u Q I r (i v σ H Q q)⟩
theorem piI {tg e : Expr} {t t' : TI} (h : PI X tg e t) (i : ∀ σ H Q, t' σ H Q → t σ H Q) : PI X tg e t' := ⟨fun pins s σ H R I q => h.run pins s σ H R I (i σ H R q)⟩
theorem poI {e : Option Expr} {t t' : TO} (h : PO X e t) (i : ∀ σ H Q, t' σ H Q → t σ H Q) : PO X e t' := ⟨fun pins s σ H Q I q => h.run pins s σ H Q I (i σ H Q q)⟩
theorem ptsI {e : List Expr} {t t' : TT} (h : PTs X e t) (i : ∀ σ H Q, t' σ H Q → t σ H Q) : PTs X e t' := ⟨fun pins s σ H Q I q => h.run pins s σ H Q I (i σ H Q q)⟩
end
/-! ### expressions -/
section
variable {X : Cx} {c : Cf}
/-- the first part of an expression -/
theorem rdE_go {kd : Kd} {f : FE} {G H : Hp} {S : Env} {σ : St} {Q : VK} {β : Type} {g : D → R β} {Post : R β → Prop} (r : Rel c G S σ H) (p : Post (f S >>= g))
    (hx : ∀ x, Post (.exc x) → PX c x) (hf : Post .fail → False) (k : ∀ d v G' H', Step G H G' H' → Res c.k H G' H' d v kd → Post (g d) → Q v H') : RdE c kd f σ H Q := by
  refine ⟨G, S, r, ?_⟩
  cases e : f S with
  | ok d => rw [e] at p; exact fun v G' H' s h => k d v G' H' s h p
  | exc x => rw [e] at p; exact hx x p
  | fail => rw [e] at p; exact hf p
theorem rdT_go {f : FT} {G H : Hp} {S : Env} {σ : St} {Q : Bool → Hp → Prop} {β : Type} {g : Bool → R β} {Post : R β → Prop} (r : Rel c G S σ H) (p : Post (f S >>= g))
    (hx : ∀ x, Post (.exc x) → PX c x) (hf : Post .fail → False) (k : ∀ d G' H', Step G H G' H' → Post (g d) → Q d H') : RdT c f σ H Q := by
  refine ⟨G, S, r, ?_⟩
  cases e : f S with
  | ok d => rw [e] at p; exact fun G' H' s => k d G' H' s p
  | exc x => rw [e] at p; exact hx x p
  | fail => rw [e] at p; exact hf p
theorem rdA_go {b : Bool} {f : FA} {G H : Hp} {S : Env} {σ : St} {Q : List V → Hp → Prop} {β : Type} {g : List D → R β} {Post : R β → Prop} (r : Rel c G S σ H) (p : Post (f S >>= g))
    (hx : ∀ x, Post (.exc x) → PX c x) (hf : Post .fail → False) (k : ∀ ds vs G' H', Step G H G' H' → Args c.k G' H' ds vs b → Post (g ds) → Q vs H') : RdA c b f σ H Q := by
  refine ⟨G, S, r, ?_⟩
  cases e : f S with
  | ok d => rw [e] at p; exact fun v G' H' s h => k d v G' H' s h p
  | exc x => rw [e] at p; exact hx x p
  | fail => rw [e] at p; exact hf p
abbrev PE' (X : Cx) (c : Cf) (kd : Kd) (e : Expr) (f : FE) : Prop := PE X e (RdE c kd f)
abbrev PT' (X : Cx) (c : Cf) (e : Expr) (f : FT) : Prop := PT X e (RdT c f)
abbrev PA' (X : Cx) (c : Cf) (b : Bool) (es : List Expr) (f : FA) : Prop := PA X es (RdA c b f)
/-- a constant -/
theorem cst_of {e : Expr} {d : D} {v : V} (h : PE X e (tC v)) (r : ∀ G, RD c.k G d v) : PE' X c .st e (fun _ => .ok d) :=
  peI h fun σ H Q ⟨G, S, rel, p⟩ => p v G H (Step.refl rel.st.gh) (r G)
def eI (i : Int) : FE := fun _ => .ok (.int i)
def eS (x : Str) : FE := fun _ => .ok (.str x)
def eB (b : Bool) : FE := fun _ => .ok (.bl b)
def eN : FE := fun _ => .ok .non
theorem d_int {i j pos} : PE' X c .st (.Constant (.int i) j pos) (eI i) := cst_of pe_int fun _ => .int i
theorem d_str {i j pos} : PE' X c .st (.Constant (.str i) j pos) (eS i) := cst_of pe_str fun _ => .str i
theorem d_bl {i j pos} : PE' X c .st (.Constant (.bool i) j pos) (eB i) := cst_of pe_bl fun _ => .bl i
theorem d_non {j pos} : PE' X c .st (.Constant .none j pos) eN := cst_of pe_non fun _ => .non
/-- a name: its stable value; its value as it stands -/
def eV (i : Nat) : FE := fun S => match S[i]? with
  | some (some ⟨false, d⟩) => .ok d
  | _ => .fail
def eW (i : Nat) : FE := fun S => match S[i]? with
  | some (some ⟨_, d⟩) => .ok d
  | _ => .fail
theorem d_v (i : Nat) {x : Str} {pos : Pos} (hN : X.N[i]? = some x := by rfl) (hv : Vis X.env.scope x := by first | exact Or.inl rfl | exact Or.inr (Or.inl rfl) | exact Or.inr (Or.inr rfl)) (hd : (x == ("__debug__" : Str)) = false := by decide)
    (hcd : (x == ("__classdict__" : Str)) = false := by decide) : PE' X c .st (.Name x pos) (eV i) :=
  peI (pe_var hN hv hd hcd) fun σ H Q ⟨G, S, r, p⟩ => by
    unfold eV at p
    split at p
    · rename_i d e
      obtain ⟨v, e1, q⟩ := r.fz i d e
      exact ⟨v, e1, p v G H (Step.refl r.st.gh) q⟩
    · exact p.elim
theorem d_w (i : Nat) {x : Str} {pos : Pos} (hN : X.N[i]? = some x := by rfl) (hv : Vis X.env.scope x := by first | exact Or.inl rfl | exact Or.inr (Or.inl rfl) | exact Or.inr (Or.inr rfl)) (hd : (x == ("__debug__" : Str)) = false := by decide)
    (hcd : (x == ("__classdict__" : Str)) = false := by decide) : PE' X c .bo (.Name x pos) (eW i) :=
  peI (pe_var hN hv hd hcd) fun σ H Q ⟨G, S, r, p⟩ => by
    unfold eW at p
    split at p
    · rename_i b d e
      cases b with
      | false =>
        obtain ⟨v, e1, q⟩ := r.fz i d e
        exact ⟨v, e1, p v G H (Step.refl r.st.gh) (.inl q)⟩
      | true =>
        obtain ⟨a, o, e1, hg, h0, ho, ct⟩ := r.ow i d e
        exact ⟨_, e1, p _ G H (Step.refl r.st.gh) (.inr ⟨a, o, rfl, ho, ct⟩)⟩
    · exact p.elim
/-- a new value, taken as a stable one -/
theorem d_z {e : Expr} {f : FE} (h : PE' X c .fr e f) : PE' X c .st e f :=
  peI h fun σ H Q ⟨G, S, r, p⟩ => ⟨G, S, r, by
    cases e1 : f S with
    | ok d =>
      rw [e1] at p
      rintro v G' H' s ⟨a, o, rfl, hg, hn, ha, ct⟩
      exact p _ (upd G' a o) H' (s.frz ha hn hg) ((ct.mono (Ex.new hg)).rd upd_same)
    | exc x => rw [e1] at p; exact p
    | fail => rw [e1] at p; exact p⟩
/-- .. as it stands -/
theorem d_n {kd : Kd} {e : Expr} {f : FE} (h : PE' X c kd e f) : PE' X c .bo e f :=
  peI h fun σ H Q ⟨G, S, r, p⟩ => ⟨G, S, r, by
    cases e1 : f S with
    | ok d => rw [e1] at p; exact fun v G' H' s q => p v G' H' s q.now
    | exc x => rw [e1] at p; exact p
    | fail => rw [e1] at p; exact p⟩
/-! ### operations by values -/
/-- an operation on two values -/
def Op2 (X : Cx) (k : Kn) (f : Value → Value → Sem Value) (kd : Kd) (g : D → D → R D) : Prop :=
  ∃ r : R2, OpR X f r ∧ ∀ G H x y u v d, Ex G H → Now k G H x u → Now k G H y v → g x y = .ok d → ∀ Q : VK, (∀ w G' H', Step G H G' H' → Res k H G' H' d w kd → Q w H') → r u v H Q
/-- without exceptions -/
def NoX {α : Type} (r : R α) : Prop := ∀ x, r ≠ .exc x
variable {kd k1 k2 k3 : Kd} {a b : Expr} {f g h : FE} {pos : Pos}
def e2 (o : D → D → R D) (f g : FE) : FE := fun S => do
  let x ← f S
  let y ← g S
  (o x y).nox
/-- the meeting of two parts and an operation -/
theorem e2_go {o : D → D → R D} {σ : St} {H : Hp} {Q : VK} {r : R2} (hr : ∀ G H x y u v d, Ex G H → Now c.k G H x u → Now c.k G H y v → o x y = .ok d → ∀ Q : VK, (∀ w G' H', Step G H G' H' → Res c.k H G' H' d w kd → Q w H') → r u v H Q)
    (q : RdE c kd (e2 o f g) σ H Q) : RdE c k1 f σ H fun x H1 => RdE c k2 g σ H1 fun y H2 => r x y H2 Q := by
  obtain ⟨G, S, rel, p⟩ := q
  refine rdE_go (g := fun x => do let y ← g S; (o x y).nox) (Post := PostE c kd G S σ H Q) rel p (fun _ z => z) (fun z => z) fun d1 v1 G1 H1 s1 q1 p1 => ?_
  refine rdE_go (g := fun y => (o d1 y).nox) (Post := PostE c kd G S σ H Q) (rel.grow s1) p1 (fun _ z => z) (fun z => z) fun d2 v2 G2 H2 s2 q2 p2 => ?_
  cases e : o d1 d2 with
  | ok d =>
    rw [e] at p2
    exact hr G2 H2 d1 d2 v1 v2 d s2.gh (q1.now.grow s2) q2.now e Q fun w G3 H3 s3 q3 => p2 w G3 H3 ((s1.trans s2).trans s3) (q3.mono (s1.h.trans s2.h))
  | exc x => rw [e] at p2; exact p2.elim
  | fail => rw [e] at p2; exact p2.elim
theorem d_op {op : Operator} {o : D → D → R D} (ho : Op2 X c.k (binaryOp op) kd o) (ha : PE' X c k1 a f) (hb : PE' X c k2 b g) : PE' X c kd (.BinOp a op b pos) (e2 o f g) := by
  obtain ⟨r, h1, h2⟩ := ho
  exact peI (pe_op h1 ha hb) fun σ H Q q => e2_go h2 q
theorem d_cmp {op : CmpOp} {o : D → D → R D} (ho : Op2 X c.k (compareOp op) kd o) (ha : PE' X c k1 a f) (hb : PE' X c k2 b g) (hm : behindInMarks op b = false := by rfl) : PE' X c kd (.Compare a [op] [b] pos) (e2 o f g) := by
  obtain ⟨r, h1, h2⟩ := ho
  exact peI (pe_cmpR h1 ha hb hm) fun σ H Q q => e2_go h2 q
def Ix2 (X : Cx) (k : Kn) (g : D → D → R D) : Prop :=
  ∃ r : R2, IxR X r ∧ ∀ G H x y u v d, Ex G H → Now k G H x u → Now k G H y v → g x y = .ok d → ∀ Q : VK, (∀ w G' H', Step G H G' H' → Res k H G' H' d w .st → Q w H') → r u v H Q
theorem d_ix {o : D → D → R D} (ho : Ix2 X c.k o) (ha : PE' X c k1 a f) (hb : PE' X c k2 b g) (hi : PlainIx b := by exact fun _ _ => rfl) : PE' X c .st (.Subscript a b pos) (e2 o f g) := by
  obtain ⟨r, h1, h2⟩ := ho
  exact peI (pe_ix h1 ha hb hi) fun σ H Q q => e2_go h2 q
/-- an operation on one value -/
def e1 (o : D → R D) (f : FE) : FE := fun S => do
  let x ← f S
  (o x).nox
theorem e1_go {o : D → R D} {σ : St} {H : Hp} {Q : VK} {r : V → Hp → VK → Prop} (hr : ∀ G H x u d, Ex G H → Now c.k G H x u → o x = .ok d → ∀ Q : VK, (∀ w G' H', Step G H G' H' → Res c.k H G' H' d w kd → Q w H') → r u H Q)
    (q : RdE c kd (e1 o f) σ H Q) : RdE c k1 f σ H fun x H1 => r x H1 Q := by
  obtain ⟨G, S, rel, p⟩ := q
  refine rdE_go (g := fun x => (o x).nox) (Post := PostE c kd G S σ H Q) rel p (fun _ z => z) (fun z => z) fun d1 v1 G1 H1 s1 q1 p1 => ?_
  cases e : o d1 with
  | ok d =>
    rw [e] at p1
    exact hr G1 H1 d1 v1 d s1.gh q1.now e Q fun w G3 H3 s3 q3 => p1 w G3 H3 (s1.trans s3) (q3.mono s1.h)
  | exc x => rw [e] at p1; exact p1.elim
  | fail => rw [e] at p1; exact p1.elim
def Un1 (X : Cx) (k : Kn) (f : Value → Sem Value) (g : D → R D) : Prop :=
  ∃ r : V → Hp → VK → Prop, UnR X f r ∧ ∀ G H x u d, Ex G H → Now k G H x u → g x = .ok d → ∀ Q : VK, (∀ w G' H', Step G H G' H' → Res k H G' H' d w .st → Q w H') → r u H Q
theorem d_un {op : UnaryOp} {o : D → R D} (ho : Un1 X c.k (unaryOp op) o) (ha : PE' X c k1 a f) : PE' X c .st (.UnaryOp op a pos) (e1 o f) := by
  obtain ⟨r, h1, h2⟩ := ho
  exact peI (pe_un h1 ha) fun σ H Q q => e1_go h2 q
/-! ### arguments -/
def aN : FA := fun _ => .ok []
def aC (f : FE) (g : FA) : FA := fun S => do
  let x ← f S
  let xs ← g S
  .ok (x :: xs)
theorem d_an {b : Bool} : PA' X c b [] aN := paI pa_nil fun σ H Q ⟨G, S, r, p⟩ => p [] G H (Step.refl r.st.gh) (by cases b <;> exact .nil)
theorem d_ac {e : Expr} {es : List Expr} {ga : FA} (ha : PE' X c .st e f) (hr : PA' X c false es ga) (hs : starEach (e :: es) X.env = (false, eval e X.env) :: starEach es X.env := by rfl) : PA' X c false (e :: es) (aC f ga) :=
  paI (pa_cons ha hr hs) fun σ H Q ⟨G, S, rel, p⟩ => by
    refine rdE_go (g := fun x => do let xs ← ga S; .ok (x :: xs)) (Post := PostA c false G S σ H Q) rel p (fun _ z => z) (fun z => z) fun d1 v1 G1 H1 s1 q1 p1 => ?_
    refine rdA_go (g := fun xs => .ok (d1 :: xs)) (Post := PostA c false G S σ H Q) (rel.grow s1) p1 (fun _ z => z) (fun z => z) fun d2 v2 G2 H2 s2 q2 p2 => ?_
    exact p2 _ G2 H2 (s1.trans s2) (.cons (RD.mono s2.g q1) q2)
theorem d_ab {e : Expr} {es : List Expr} {ga : FA} (ha : PE' X c k1 e f) (hr : PA' X c true es ga) (hs : starEach (e :: es) X.env = (false, eval e X.env) :: starEach es X.env := by rfl) : PA' X c true (e :: es) (aC f ga) :=
  paI (pa_cons ha hr hs) fun σ H Q ⟨G, S, rel, p⟩ => by
    refine rdE_go (g := fun x => do let xs ← ga S; .ok (x :: xs)) (Post := PostA c true G S σ H Q) rel p (fun _ z => z) (fun z => z) fun d1 v1 G1 H1 s1 q1 p1 => ?_
    refine rdA_go (g := fun xs => .ok (d1 :: xs)) (Post := PostA c true G S σ H Q) (rel.grow s1) p1 (fun _ z => z) (fun z => z) fun d2 v2 G2 H2 s2 q2 p2 => ?_
    exact p2 _ G2 H2 (s1.trans s2) (.cons (q1.now.grow s2) q2)
/-- a tuple, a list displayed -/
def mkT (xs : List D) : R D := if xs.length ≤ sizeLine then .ok (.tup xs) else .fail
def mkL (xs : List D) : R D := if xs.length ≤ sizeLine then .ok (.lst xs) else .fail
def eT (g : FA) : FE := fun S => g S >>= mkT
def eL (g : FA) : FE := fun S => g S >>= mkL
theorem d_tup {es : List Expr} {ga : FA} {x1} (h : PA' X c false es ga) : PE' X c .st (.Tuple es x1 pos) (eT ga) :=
  peI (pe_tup h) fun σ H Q ⟨G, S, rel, p⟩ => by
    refine rdA_go (g := mkT) (Post := PostE c .st G S σ H Q) rel p (fun _ z => z) (fun z => z) fun ds vs G1 H1 s1 q1 p1 => ?_
    have q1 : RDs c.k G1 ds vs := q1
    by_cases hl : ds.length ≤ sizeLine
    · unfold mkT at p1; rw [if_pos hl] at p1
      exact ⟨by rw [← q1.length]; exact hl, fun p hp => p1 _ _ _ (s1.trans (Step.new s1.gh hp)) (.tup (SqU.of upd_same) (q1.mono (Ex.new (s1.gh.free hp))))⟩
    · unfold mkT at p1; rw [if_neg hl] at p1; exact p1.elim
theorem d_lst {es : List Expr} {ga : FA} (h : PA' X c false es ga) : PE' X c .fr (.List es pos) (eL ga) :=
  peI (pe_lst h) fun σ H Q ⟨G, S, rel, p⟩ => by
    refine rdA_go (g := mkL) (Post := PostE c .fr G S σ H Q) rel p (fun _ z => z) (fun z => z) fun ds vs G1 H1 s1 q1 p1 => ?_
    have q1 : RDs c.k G1 ds vs := q1
    by_cases hl : ds.length ≤ sizeLine
    · unfold mkL at p1; rw [if_pos hl] at p1
      exact ⟨by rw [← q1.length]; exact hl, fun p hp => p1 _ _ _ (s1.trans (Step.new' s1.gh hp)) ⟨p, _, rfl, s1.gh.free hp, s1.h.free hp, upd_same, .lst q1⟩⟩
    · unfold mkL at p1; rw [if_neg hl] at p1; exact p1.elim
/-- a built-in's call by values -/
def ClR (X : Cx) (k : Kn) (f : Value) (kd : Kd) (g : List D → R D) : Prop :=
  ∃ r : List V → Hp → VK → Prop, CallR X f r ∧ ∀ G H ds vs d, Ex G H → Nows k G H ds vs → g ds = .ok d → ∀ Q : VK, (∀ w G' H', Step G H G' H' → Res k H G' H' d w kd → Q w H') → r vs H Q
def eC (o : List D → R D) (g : FA) : FE := fun S => do
  let xs ← g S
  (o xs).nox
theorem eC_go {ba : Bool} {ga : FA} {o : List D → R D} {σ : St} {H : Hp} {Q : VK} {r : List V → Hp → VK → Prop} (hr : ∀ G H ds vs d, Ex G H → Nows c.k G H ds vs → o ds = .ok d → ∀ Q : VK, (∀ w G' H', Step G H G' H' → Res c.k H G' H' d w kd → Q w H') → r vs H Q)
    (q : RdE c kd (eC o ga) σ H Q) : RdA c ba ga σ H fun x H1 => r x H1 Q := by
  obtain ⟨G, S, rel, p⟩ := q
  refine rdA_go (g := fun x => (o x).nox) (Post := PostE c kd G S σ H Q) rel p (fun _ z => z) (fun z => z) fun d1 v1 G1 H1 s1 q1 p1 => ?_
  cases e : o d1 with
  | ok d =>
    rw [e] at p1
    exact hr G1 H1 d1 v1 d s1.gh q1.nows e Q fun w G3 H3 s3 q3 => p1 w G3 H3 (s1.trans s3) (q3.mono s1.h)
  | exc x => rw [e] at p1; exact p1.elim
  | fail => rw [e] at p1; exact p1.elim
theorem d_bltn {ba : Bool} {x : Str} {p : Pos} {e : Expr} {es : List Expr} {ga : FA} {id : String} {o : List D → R D} (ho : ClR X c.k (.builtin id) kd o) (hm : X.mg x = none) (ha : PA' X c ba (e :: es) ga) (hv : bootBuiltins x = some (.builtin id) := by decide +kernel) (hg : Gl X x := by rfl)
    (hn : x ≠ "__name__" := by decide) (hdb : (x == ("__debug__" : Str)) = false := by decide)
    (hs : starEach (e :: es) X.env = (false, eval e X.env) :: starEach es X.env := by rfl) (hs2 : ((backTo pos (starEach es X.env)).any fun x => x.1) = false := by rfl) :
    PE' X c kd (.Call (.Name x p) (e :: es) [] pos) (eC o ga) := by
  obtain ⟨r, h1, h2⟩ := ho
  exact peI (pe_callB h1 hg hm hv ha hn hdb hs hs2) fun σ H Q q => eC_go h2 q
theorem d_btyp {ba : Bool} {x : Str} {p : Pos} {e : Expr} {es : List Expr} {ga : FA} {id : String} {o : List D → R D} (ho : ClR X c.k (.type id) kd o) (hm : X.mg x = none) (ha : PA' X c ba (e :: es) ga) (hv : bootBuiltins x = some (.type id) := by decide +kernel) (hg : Gl X x := by rfl)
    (hn : x ≠ "__name__" := by decide) (hdb : (x == ("__debug__" : Str)) = false := by decide)
    (hs : starEach (e :: es) X.env = (false, eval e X.env) :: starEach es X.env := by rfl) (hs2 : ((backTo pos (starEach es X.env)).any fun x => x.1) = false := by rfl) :
    PE' X c kd (.Call (.Name x p) (e :: es) [] pos) (eC o ga) := by
  obtain ⟨r, h1, h2⟩ := ho
  exact peI (pe_callTy h1 hg hm hv ha hn hdb hs hs2) fun σ H Q q => eC_go h2 q
end
end M
set_option Elab.async false
set_option linter.all false
set_option maxRecDepth 100000
set_option maxHeartbeats 4000000
namespace M
open PySem L2
/-! ### equality of data -/
mutual
def D.toP : D → PyData
  | .bl b => .bool b
  | .int i => .int i
  | .str x => .str x
  | .tup xs => .tuple (D.toPs xs)
  | .lst xs => .list (D.toPs xs)
  | _ => .none
def D.toPs : List D → List PyData
  | [] => []
  | x :: xs => x.toP :: D.toPs xs
end
mutual
def deq : D → D → Bool
  | .non, .non => true
  | .bl a, .bl b => a == b
  | .bl a, .int j => (if a then 1 else 0) == j
  | .int i, .bl b => i == (if b then 1 else 0)
  | .int i, .int j => i == j
  | .str x, .str y => x == y
  | .lst xs, .lst ys => deqs xs ys
  | .tup xs, .tup ys => deqs xs ys
  | _, _ => false
def deqs : List D → List D → Bool
  | [], [] => true
  | x :: xs, y :: ys => deq x y && deqs xs ys
  | _, _ => false
end
mutual
/-- data that are compared: nested at most n deep -/
def dok : Nat → D → Bool
  | _, .non => true
  | _, .bl _ => true
  | _, .int _ => true
  | _, .str x => PyData.strOk x
  | n + 1, .tup xs => doks n xs
  | n + 1, .lst xs => doks n xs
  | _, _ => false
def doks : Nat → List D → Bool
  | _, [] => true
  | n, x :: xs => dok n x && doks n xs
end
mutual
theorem dok_lay : ∀ (n : Nat) (d : D), dok n d = true → PyData.canLay0 d.toP = true ∧ PyData.depth d.toP ≤ n
  | n, .non, _ => by simp [D.toP, PyData.canLay0, PyData.depth]
  | n, .bl _, _ => by simp [D.toP, PyData.canLay0, PyData.depth]
  | n, .int _, _ => by simp [D.toP, PyData.canLay0, PyData.depth]
  | n, .str x, h => by
    cases n <;> (simp only [dok] at h; simp [D.toP, PyData.canLay0, PyData.depth, h])
  | n + 1, .tup xs, h => by
    simp only [dok] at h
    have := doks_lay n xs h
    simp only [D.toP, PyData.canLay0, PyData.depth]
    exact ⟨this.1, by omega⟩
  | n + 1, .lst xs, h => by
    simp only [dok] at h
    have := doks_lay n xs h
    simp only [D.toP, PyData.canLay0, PyData.depth]
    exact ⟨this.1, by omega⟩
  | 0, .tup xs, h => by simp [dok] at h
  | 0, .lst xs, h => by simp [dok] at h
  | n, .ty _, h => by cases n <;> simp [dok] at h
  | n, .dic _ _, h => by cases n <;> simp [dok] at h
  | n, .dit _ _, h => by cases n <;> simp [dok] at h
  | n, .obj _ _, h => by cases n <;> simp [dok] at h
  | n, .scr _, h => by cases n <;> simp [dok] at h
  | n, .cls _, h => by cases n <;> simp [dok] at h
theorem doks_lay : ∀ (n : Nat) (ds : List D), doks n ds = true → PyData.canLayAll0 (D.toPs ds) = true ∧ PyData.depthAll (D.toPs ds) ≤ n
  | n, [], _ => by simp [D.toPs, PyData.canLayAll0, PyData.depthAll]
  | n, x :: xs, h => by
    simp only [doks, Bool.and_eq_true] at h
    have a := dok_lay n x h.1
    have b := doks_lay n xs h.2
    simp only [D.toPs, PyData.canLayAll0, PyData.depthAll, Bool.and_eq_true]
    exact ⟨⟨a.1, b.1⟩, by omega⟩
end
mutual
theorem deq_eqv : ∀ (n m : Nat) (x y : D), dok n x = true → dok m y = true → PyData.eqv x.toP y.toP = deq x y
  | n, m, .non, y, _, h => by cases y <;> first | (simp [D.toP, PyData.eqv, deq]; done) | (cases m <;> simp [dok] at h)
  | n, m, .bl _, y, _, h => by cases y <;> first | (simp [D.toP, PyData.eqv, deq]; done) | (cases m <;> simp [dok] at h)
  | n, m, .int _, y, _, h => by cases y <;> first | (simp [D.toP, PyData.eqv, deq]; done) | (cases m <;> simp [dok] at h)
  | n, m, .str _, y, _, h => by cases y <;> first | (simp [D.toP, PyData.eqv, deq]; done) | (cases m <;> simp [dok] at h)
  | n + 1, m, .tup xs, y, h1, h => by
    cases y with
    | tup ys =>
      cases m with
      | zero => simp [dok] at h
      | succ m =>
        simp only [dok] at h h1
        simp only [D.toP, PyData.eqv, deq]
        exact deqs_eqv n m xs ys h1 h
    | _ => first | (simp [D.toP, PyData.eqv, deq]; done) | (cases m <;> simp [dok] at h)
  | n + 1, m, .lst xs, y, h1, h => by
    cases y with
    | lst ys =>
      cases m with
      | zero => simp [dok] at h
      | succ m =>
        simp only [dok] at h h1
        simp only [D.toP, PyData.eqv, deq]
        exact deqs_eqv n m xs ys h1 h
    | _ => first | (simp [D.toP, PyData.eqv, deq]; done) | (cases m <;> simp [dok] at h)
  | 0, _, .tup xs, _, h, _ => by simp [dok] at h
  | 0, _, .lst xs, _, h, _ => by simp [dok] at h
  | n, _, .ty _, _, h, _ => by cases n <;> simp [dok] at h
  | n, _, .dic _ _, _, h, _ => by cases n <;> simp [dok] at h
  | n, _, .dit _ _, _, h, _ => by cases n <;> simp [dok] at h
  | n, _, .obj _ _, _, h, _ => by cases n <;> simp [dok] at h
  | n, _, .scr _, _, h, _ => by cases n <;> simp [dok] at h
  | n, _, .cls _, _, h, _ => by cases n <;> simp [dok] at h
theorem deqs_eqv : ∀ (n m : Nat) (xs ys : List D), doks n xs = true → doks m ys = true → PyData.eqvAll (D.toPs xs) (D.toPs ys) = deqs xs ys
  | n, m, [], [], _, _ => by simp [D.toPs, PyData.eqvAll, deqs]
  | n, m, [], _ :: _, _, _ => by simp [D.toPs, PyData.eqvAll, deqs]
  | n, m, _ :: _, [], _, _ => by simp [D.toPs, PyData.eqvAll, deqs]
  | n, m, x :: xs, y :: ys, h1, h2 => by
    simp only [doks, Bool.and_eq_true] at h1 h2
    simp only [D.toPs, PyData.eqvAll, deqs]
    rw [deq_eqv n m x y h1.1 h2.1, deqs_eqv n m xs ys h1.2 h2.2]
end
mutual
theorem RD.dp {k : Kn} {H : Hp} : ∀ {d : D} {v : V} (n : Nat), RD k H d v → dok n d = true → Dp k.K H v d.toP
  | _, _, _, .non, _ => by simp only [D.toP]; exact .non
  | _, _, _, .bl b, _ => by simp only [D.toP]; exact .bl b
  | _, _, _, .int b, _ => by simp only [D.toP]; exact .int b
  | _, _, _, .str b, _ => by simp only [D.toP]; exact .str b
  | _, _, n, .tup h r, e => by
    cases n with
    | zero => simp [dok] at e
    | succ n => simp only [dok] at e; simp only [D.toP]; exact .tup h.t (RDs.dp n r e)
  | _, _, n, .lst h r, e => by
    cases n with
    | zero => simp [dok] at e
    | succ n => simp only [dok] at e; simp only [D.toP]; exact .lst (SqL.of h) (RDs.dp n r e)
  | _, _, n, .ty _, e => by cases n <;> simp [dok] at e
  | _, _, n, .scr _, e => by cases n <;> simp [dok] at e
  | _, _, n, .cls _, e => by cases n <;> simp [dok] at e
  | _, _, n, .dic _ _ _, e => by cases n <;> simp [dok] at e
  | _, _, n, .dit _ _ _, e => by cases n <;> simp [dok] at e
  | _, _, n, .obj _ _ _, e => by cases n <;> simp [dok] at e
theorem RDs.dp {k : Kn} {H : Hp} : ∀ {ds : List D} {vs : List V} (n : Nat), RDs k H ds vs → doks n ds = true → DpAll k.K H vs (D.toPs ds)
  | _, _, _, .nil, _ => by simp only [D.toPs]; exact .nil
  | _, _, n, .cons a b, e => by
    simp only [doks, Bool.and_eq_true] at e
    simp only [D.toPs]
    exact .cons (RD.dp n a e.1) (RDs.dp n b e.2)
end
theorem dok_shaped {d : D} (h : dok 60 d = true) : SeqAt.shaped d.toP = true := by
  have := dok_lay 60 d h
  unfold SeqAt.shaped
  simp only [this.1, Bool.true_and, decide_eq_true_eq]
  omega
def eqD (a b : D) : R D := if dok 60 a && dok 60 b then .ok (.bl (deq a b)) else .fail
def neD (a b : D) : R D := if dok 60 a && dok 60 b then .ok (.bl (!deq a b)) else .fail
section
variable {X : Cx} {k : Kn}
theorem o_eq (hk : k.K = X.K) (hu : X.A.units + 64 < cLine) : Op2 X k (compareOp .Eq) .st eqD := by
  refine ⟨_, op_eqD hu, ?_⟩
  intro G H x y u v d e nx ny hg Q q
  unfold eqD at hg
  split at hg
  · rename_i h
    simp only [Bool.and_eq_true] at h
    cases hg
    refine ⟨x.toP, y.toP, hk ▸ (nx.rd e).dp 60 h.1, hk ▸ (ny.rd e).dp 60 h.2, dok_shaped h.1, dok_shaped h.2, ?_⟩
    rw [deq_eqv 60 60 x y h.1 h.2]
    exact q _ G H (Step.refl e) (.bl _)
  · cases hg
theorem o_ne (hk : k.K = X.K) (hu : X.A.units + 64 < cLine) : Op2 X k (compareOp .NotEq) .st neD := by
  refine ⟨_, op_neD hu, ?_⟩
  intro G H x y u v d e nx ny hg Q q
  unfold neD at hg
  split at hg
  · rename_i h
    simp only [Bool.and_eq_true] at h
    cases hg
    refine ⟨x.toP, y.toP, hk ▸ (nx.rd e).dp 60 h.1, hk ▸ (ny.rd e).dp 60 h.2, dok_shaped h.1, dok_shaped h.2, ?_⟩
    rw [deq_eqv 60 60 x y h.1 h.2]
    exact q _ G H (Step.refl e) (.bl _)
  · cases hg
/-! ### arithmetic, + -/
def addD : D → D → R D
  | .int i, .int j => .ok (.int (i + j))
  | .str x, .str y => if x.length + y.length ≤ sizeLine then .ok (.str (x ++ y)) else .fail
  | .lst xs, .lst ys => if xs.length + ys.length ≤ sizeLine then .ok (.lst (xs ++ ys)) else .fail
  | .tup xs, .tup ys => if xs.length + ys.length ≤ sizeLine then .ok (.tup (xs ++ ys)) else .fail
  | _, _ => .fail
theorem o_add (hk : k.K = X.K) : Op2 X k (binaryOp .Add) .st addD := by
  refine ⟨_, op_add.or (op_add_str.or (op_cat.or op_catA)), ?_⟩
  intro G H x y u v d e nx ny hg Q q
  unfold addD at hg
  split at hg
  · cases hg; obtain rfl := nx.int; obtain rfl := ny.int
    exact .inl ⟨_, _, rfl, rfl, q _ G H (Step.refl e) (.int _)⟩
  · split at hg
    · rename_i hl
      cases hg; obtain rfl := nx.str; obtain rfl := ny.str
      exact .inr (.inl ⟨_, _, rfl, rfl, hl, q _ G H (Step.refl e) (.str _)⟩)
    · cases hg
  · split at hg
    · rename_i hl
      cases hg
      obtain ⟨a, vs, rfl, ha, ra⟩ := nx.lst e
      obtain ⟨b, us, rfl, hb, rb⟩ := ny.lst e
      exact .inr (.inr (.inl ⟨a, b, vs, us, rfl, rfl, ha, hb, by rw [← ra.length, ← rb.length]; exact hl, fun p hp => q _ _ _ (Step.new e hp) (.lst upd_same ((ra.append rb).mono (Ex.new (e.free hp))))⟩))
    · cases hg
  · split at hg
    · rename_i hl
      cases hg
      obtain ⟨a, vs, rfl, ha, ra⟩ := nx.tup
      obtain ⟨b, us, rfl, hb, rb⟩ := ny.tup
      refine .inr (.inr (.inr ⟨a, b, vs, us, rfl, rfl, hk ▸ e.sqT ha.t, hk ▸ e.sqT hb.t, by rw [← ra.length, ← rb.length]; exact hl, fun z => ?_, fun z1 z2 => ?_, fun _ _ p hp => q _ _ _ (Step.new e hp) (.tup (SqU.of upd_same) ((ra.append rb).mono (Ex.new (e.free hp))))⟩))
      · subst z; cases ra; exact q _ _ _ (Step.refl e) (.tup hb rb)
      · subst z2; cases rb; rw [List.append_nil] at q; exact q _ _ _ (Step.refl e) (.tup ha ra)
    · cases hg
  · cases hg
/-- a list made by +, new -/
def addL : D → D → R D
  | .lst xs, .lst ys => if xs.length + ys.length ≤ sizeLine then .ok (.lst (xs ++ ys)) else .fail
  | _, _ => .fail
theorem o_addL : Op2 X k (binaryOp .Add) .fr addL := by
  refine ⟨_, op_cat, ?_⟩
  intro G H x y u v d e nx ny hg Q q
  unfold addL at hg
  split at hg
  · split at hg
    · rename_i hl
      cases hg
      obtain ⟨a, vs, rfl, ha, ra⟩ := nx.lst e
      obtain ⟨b, us, rfl, hb, rb⟩ := ny.lst e
      exact ⟨a, b, vs, us, rfl, rfl, ha, hb, by rw [← ra.length, ← rb.length]; exact hl, fun p hp => q _ _ _ (Step.new' e hp) ⟨p, _, rfl, e.free hp, hp, upd_same, .lst (ra.append rb)⟩⟩
    · cases hg
  · cases hg
/-- an operation on two ints -/
theorem o_int {f : Value → Value → Sem Value} {C : Int → Int → Prop} [∀ i j, Decidable (C i j)] {gv : Int → Int → V} {gd : Int → Int → D} (h : OpR X f (rI C gv)) (r : ∀ i j G, RD k G (gd i j) (gv i j)) :
    Op2 X k f .st (fun x y => match x, y with | .int i, .int j => if C i j then .ok (gd i j) else .fail | _, _ => .fail) := by
  refine ⟨_, h, ?_⟩
  intro G H x y u v d e nx ny hg Q q
  dsimp only at hg
  split at hg
  · split at hg
    · rename_i hc
      cases hg; obtain rfl := nx.int; obtain rfl := ny.int
      exact ⟨_, _, rfl, rfl, hc, q _ G H (Step.refl e) (r _ _ _)⟩
    · cases hg
  · cases hg
theorem o_int0 {f : Value → Value → Sem Value} {gv : Int → Int → V} {gd : Int → Int → D} (h : OpR X f (rI0 gv)) (r : ∀ i j G, RD k G (gd i j) (gv i j)) :
    Op2 X k f .st (fun x y => match x, y with | .int i, .int j => .ok (gd i j) | _, _ => .fail) := by
  refine ⟨_, h, ?_⟩
  intro G H x y u v d e nx ny hg Q q
  dsimp only at hg
  split at hg
  · cases hg; obtain rfl := nx.int; obtain rfl := ny.int
    exact ⟨_, _, rfl, rfl, q _ G H (Step.refl e) (r _ _ _)⟩
  · cases hg
def subD : D → D → R D := fun x y => match x, y with | .int i, .int j => .ok (.int (i - j)) | _, _ => .fail
theorem o_sub : Op2 X k (binaryOp .Sub) .st subD := o_int0 op_sub fun _ _ _ => .int _
instance (i j : Int) : Decidable (CMul i j) := by unfold CMul; exact inferInstance
instance (i j : Int) : Decidable (CMulX i j) := by unfold CMulX; exact inferInstance
instance (i j : Int) : Decidable (CDiv i j) := by unfold CDiv; exact inferInstance
instance (i j : Int) : Decidable (CPow i j) := by unfold CPow; exact inferInstance
def fdivD : D → D → R D := fun x y => match x, y with | .int i, .int j => if CDiv i j then .ok (.int (i / j)) else .fail | _, _ => .fail
theorem o_fdiv : Op2 X k (binaryOp .FloorDiv) .st fdivD := o_int op_fdiv fun _ _ _ => .int _
def modD : D → D → R D := fun x y => match x, y with | .int i, .int j => if 0 < j then .ok (.int (i % j)) else .fail | _, _ => .fail
theorem o_mod : Op2 X k (binaryOp .Mod) .st modD := o_int (C := fun _ j => 0 < j) op_mod fun _ _ _ => .int _
def powD : D → D → R D := fun x y => match x, y with | .int i, .int j => if CPow i j then .ok (.int (i ^ j.toNat)) else .fail | _, _ => .fail
theorem o_pow : Op2 X k (binaryOp .Pow) .st powD := o_int op_pow fun _ _ _ => .int _
/-- * : ints, a list or a tuple so many times -/
def mulD : D → D → R D
  | .int i, .int j => if CMul i j ∨ CMulX i j then .ok (.int (i * j)) else .fail
  | .lst xs, .int j => if -(2 ^ 63) ≤ j ∧ j < 2 ^ 63 ∧ xs.length * j.toNat ≤ sizeLine then .ok (.lst (List.replicate j.toNat xs).flatten) else .fail
  | .tup xs, .int j => if xs ≠ [] ∧ 2 ≤ j ∧ j ≤ 1000 ∧ xs.length ≤ 1000 then .ok (.tup (List.replicate j.toNat xs).flatten) else .fail
  | _, _ => .fail
theorem RDs.rep {G : Hp} {ds : List D} {vs : List V} (r : RDs k G ds vs) : ∀ n : Nat, RDs k G (List.replicate n ds).flatten (List.replicate n vs).flatten
  | 0 => by simpa using .nil
  | n + 1 => by rw [List.replicate_succ, List.replicate_succ, List.flatten_cons, List.flatten_cons]; exact r.append (RDs.rep r n)
theorem o_mul (hk : k.K = X.K) : Op2 X k (binaryOp .Mult) .st mulD := by
  refine ⟨_, (op_mul.or op_mulX).or (op_rep.or op_repT), ?_⟩
  intro G H x y u v d e nx ny hg Q q
  unfold mulD at hg
  split at hg
  · split at hg
    · rename_i hc
      cases hg; obtain rfl := nx.int; obtain rfl := ny.int
      rcases hc with hc | hc
      · exact .inl (.inl ⟨_, _, rfl, rfl, hc, q _ G H (Step.refl e) (.int _)⟩)
      · exact .inl (.inr ⟨_, _, rfl, rfl, hc, q _ G H (Step.refl e) (.int _)⟩)
    · cases hg
  · split at hg
    · rename_i hc
      cases hg; obtain rfl := ny.int
      obtain ⟨a, vs, rfl, ha, ra⟩ := nx.lst e
      exact .inr (.inl ⟨a, _, vs, rfl, rfl, ha, hc.1, hc.2.1, by rw [← ra.length]; exact hc.2.2, fun p hp => q _ _ _ (Step.new e hp) (.lst upd_same ((ra.rep _).mono (Ex.new (e.free hp))))⟩)
    · cases hg
  · split at hg
    · rename_i hc
      cases hg; obtain rfl := ny.int
      obtain ⟨a, vs, rfl, ha, ra⟩ := nx.tup
      exact .inr (.inr ⟨a, _, vs, rfl, rfl, hk ▸ e.sqT ha.t, fun z => hc.1 (by subst z; cases ra; rfl), hc.2.1, hc.2.2.1, by rw [← ra.length]; exact hc.2.2.2, fun p hp => q _ _ _ (Step.new e hp) (.tup (SqU.of upd_same) ((ra.rep _).mono (Ex.new (e.free hp))))⟩)
    · cases hg
  · cases hg
def ltD : D → D → R D := fun x y => match x, y with | .int i, .int j => .ok (.bl (decide (i < j))) | _, _ => .fail
theorem o_lt : Op2 X k (compareOp .Lt) .st ltD := o_int0 op_lt fun _ _ _ => .bl _
def leD : D → D → R D := fun x y => match x, y with | .int i, .int j => .ok (.bl (decide (i ≤ j))) | _, _ => .fail
theorem o_le : Op2 X k (compareOp .LtE) .st leD := o_int0 op_le fun _ _ _ => .bl _
def gtD : D → D → R D := fun x y => match x, y with | .int i, .int j => .ok (.bl (decide (j < i))) | _, _ => .fail
theorem o_gt : Op2 X k (compareOp .Gt) .st gtD := o_int0 op_gt fun _ _ _ => .bl _
def geD : D → D → R D := fun x y => match x, y with | .int i, .int j => .ok (.bl (decide (j ≤ i))) | _, _ => .fail
theorem o_ge : Op2 X k (compareOp .GtE) .st geD := o_int0 op_ge fun _ _ _ => .bl _
def negD : D → R D := fun x => match x with | .int i => .ok (.int (-i)) | _ => .fail
theorem o_neg : Un1 X k (unaryOp .USub) negD := by
  refine ⟨_, un_neg, ?_⟩
  intro G H x u d e nx hg Q q
  unfold negD at hg
  split at hg
  · cases hg; obtain rfl := nx.int
    exact ⟨_, rfl, q _ G H (Step.refl e) (.int _)⟩
  · cases hg
def D.isNon : D → Bool
  | .non => true
  | _ => false
def isD : D → D → R D := fun x y => match y with | .non => .ok (.bl x.isNon) | _ => .fail
theorem Now.isNon {G H : Hp} {x : D} {u : V} (n : Now k G H x u) : decide (u = V.non) = x.isNon := by
  rcases n with n | ⟨a, o, rfl, h, ct⟩
  · cases n <;> simp [D.isNon]
  · cases ct <;> simp [D.isNon]
theorem o_is : Op2 X k (compareOp .Is) .st isD := by
  refine ⟨_, op_isN, ?_⟩
  intro G H x y u v d e nx ny hg Q q
  unfold isD at hg
  split at hg
  · cases hg; obtain rfl := ny.non
    exact ⟨rfl, by rw [nx.isNon]; exact q _ G H (Step.refl e) (.bl _)⟩
  · cases hg
def isntD : D → D → R D := fun x y => match y with | .non => .ok (.bl (!x.isNon)) | _ => .fail
theorem o_isnt : Op2 X k (compareOp .IsNot) .st isntD := by
  refine ⟨_, op_notN, ?_⟩
  intro G H x y u v d e nx ny hg Q q
  unfold isntD at hg
  split at hg
  · cases hg; obtain rfl := ny.non
    exact ⟨rfl, by rw [nx.isNon]; exact q _ G H (Step.refl e) (.bl _)⟩
  · cases hg
/-! ### items -/
theorem RDs.atI {G : Hp} {ds : List D} {vs : List V} {i : Int} {d : D} (r : RDs k G ds vs) (h : L2.atI ds i = some d) : ∃ v, L2.atI vs i = some v ∧ RD k G d v := by
  unfold L2.atI at h ⊢
  rw [← r.length]
  cases e : ixN ds.length i with
  | none => rw [e] at h; cases h
  | some j => rw [e] at h; exact r.get h
def ixD : D → D → R D
  | .lst xs, .int i => match L2.atI xs i with | some d => .ok d | none => .fail
  | .tup xs, .int i => match L2.atI xs i with | some d => .ok d | none => .fail
  | .scr ns, .int i => match L2.atI ns i with | some d => .ok (.int d) | none => .fail
  | .str x, .int i => if x.length ≤ sizeLine then match L2.atI x.cps.toList i with | some c => .ok (.str ⟨#[c]⟩) | none => .fail else .fail
  | _, _ => .fail
theorem IxR.or {r r' : R2} (h : IxR X r) (h' : IxR X r') : IxR X (fun x y H Q => r x y H Q ∨ r' x y H Q) := fun v sl pins s σ H x y u w Q I rx ry q hs => by
  rcases q with q | q
  · exact h v sl pins s σ H x y u w Q I rx ry q hs
  · exact h' v sl pins s σ H x y u w Q I rx ry q hs
theorem atI_map {α β : Type} (f : α → β) (xs : List α) (i : Int) : L2.atI (xs.map f) i = (L2.atI xs i).map f := by
  unfold L2.atI
  rw [List.length_map]
  cases ixN xs.length i with
  | none => rfl
  | some j => simp
theorem o_ix (hk : k.K = X.K) : Ix2 X k ixD := by
  refine ⟨_, IxR.or ix_list (IxR.or ix_tup ix_str), ?_⟩
  intro G H x y u v d e nx ny hg Q q
  unfold ixD at hg
  split at hg
  · split at hg
    · rename_i d' hd
      cases hg; obtain rfl := ny.int
      obtain ⟨a, vs, rfl, ha, ra⟩ := nx.lst e
      obtain ⟨w, h1, h2⟩ := ra.atI hd
      exact .inl ⟨a, vs, _, w, rfl, rfl, SqL.of ha, h1, q _ G H (Step.refl e) h2⟩
    · cases hg
  · split at hg
    · rename_i d' hd
      cases hg; obtain rfl := ny.int
      obtain ⟨a, vs, rfl, ha, ra⟩ := nx.tup
      obtain ⟨w, h1, h2⟩ := ra.atI hd
      exact .inr (.inl ⟨a, vs, _, w, rfl, rfl, hk ▸ e.sqT ha.t, h1, q _ G H (Step.refl e) h2⟩)
    · cases hg
  · split at hg
    · rename_i d' hd
      cases hg; obtain rfl := ny.int
      obtain ⟨a, rfl, ha⟩ := nx.scr
      exact .inl ⟨a, _, _, .int d', rfl, rfl, hk ▸ e.sqL ha, by rw [atI_map, hd]; rfl, q _ G H (Step.refl e) (.int _)⟩
    · cases hg
  · split at hg
    · rename_i hl
      split at hg
      · rename_i d' hd
        cases hg; obtain rfl := ny.int; obtain rfl := nx.str
        exact .inr (.inr ⟨_, _, d', rfl, rfl, hl, hd, q _ G H (Step.refl e) (.str _)⟩)
      · cases hg
    · cases hg
  · cases hg
end
end M
set_option Elab.async false
set_option linter.all false
set_option maxRecDepth 100000
set_option maxHeartbeats 4000000
namespace M
open PySem L2
section
variable {X : Cx} {c : Cf} {kd k1 k2 k3 : Kd} {a b e : Expr} {f g h : FE} {pos : Pos}
/-! ### tests -/
def toB : D → R Bool
  | .bl b => .ok b
  | _ => .fail
def tB' (f : FE) : FT := fun S => f S >>= toB
/-- truth -/
def truD : D → R Bool
  | .non => .ok false
  | .bl b => .ok b
  | .int i => .ok (i != 0)
  | .str x => if x.length ≤ sizeLine then .ok (x.length != 0) else .fail
  | .tup xs => .ok (!xs.isEmpty)
  | .lst xs => .ok (!xs.isEmpty)
  | .dic ks _ => .ok (!ks.isEmpty)
  | _ => .fail
def tT' (f : FE) : FT := fun S => f S >>= truD
theorem Now.toB {k : Kn} {G H : Hp} {d : D} {v : V} {b : Bool} (n : Now k G H d v) (h : toB d = .ok b) : v = .bl b := by
  cases d <;> simp only [M.toB] at h <;> first | (cases h; done) | (cases h; exact n.bl)
theorem Nows.isEmpty {k : Kn} {G : Hp} {ds : List D} {vs : List V} (r : RDs k G ds vs) : (!ds.isEmpty) = !vs.isEmpty := by
  cases r <;> rfl
theorem Now.tru {k : Kn} {G H : Hp} {d : D} {v : V} {b : Bool} (e : Ex G H) (n : Now k G H d v) (h : truD d = .ok b) : TruV k.K v H b := by
  unfold truD at h
  split at h
  · cases h; obtain rfl := n.non; rfl
  · cases h; obtain rfl := n.bl; rfl
  · cases h; obtain rfl := n.int; rfl
  · split at h
    · rename_i hl
      cases h; obtain rfl := n.str
      exact ⟨hl, by simp [bne, BEq.beq]⟩
    · cases h
  · cases h; obtain ⟨p, vs, rfl, hp, r⟩ := n.tup
    exact .inr (.inl ⟨vs, e.sqT hp.t, Nows.isEmpty r⟩)
  · cases h; obtain ⟨p, vs, rfl, hp, r⟩ := n.lst e
    exact .inl ⟨vs, SqL.of hp, Nows.isEmpty r⟩
  · cases h; obtain ⟨p, vs, rfl, hp, l, r⟩ := n.dic e
    refine .inr (.inr ⟨_, hp, ?_⟩)
    have l2 := r.length
    rename_i ks ds
    cases ks with
    | nil => rfl
    | cons x xs =>
      cases vs with
      | nil => simp at l2; subst l2; simp at l
      | cons y ys => rfl
  · cases h
theorem d_tt {kd : Kd} (hk : c.k.K = X.K) (ha : PE' X c kd a f) (he : ∀ whole, isTrue a X.env whole = (do let v ← whole; standAt a.pos; holding [v] (truthy v)) := by intro _; rfl) : PT' X c a (tT' f) :=
  ptI (pt_truth ha he) fun σ H Q ⟨G, S, rel, p⟩ => by
    refine rdE_go (g := truD) (Post := PostT c G S σ H Q) rel p (fun _ z => z) (fun z => z) fun d v G' H' s q p1 => ?_
    cases e1 : truD d with
    | ok b => rw [e1] at p1; exact ⟨b, hk ▸ q.now.tru s.gh e1, p1 G' H' s⟩
    | exc x => cases d <;> simp only [truD] at e1 <;> first | (cases e1; done) | (split at e1 <;> cases e1)
    | fail => rw [e1] at p1; exact p1.elim
theorem tB_go {t : TE} {σ : St} {H : Hp} {Q : Bool → Hp → Prop} (ht : ∀ σ H Q, RdE c .st f σ H Q → t σ H Q) (q : RdT c (tB' f) σ H Q) : t σ H fun x H' => ∃ k, x = .bl k ∧ Q k H' := by
  obtain ⟨G, S, rel, p⟩ := q
  refine ht σ H _ (rdE_go (g := toB) (Post := PostT c G S σ H Q) rel p (fun _ z => z) (fun z => z) fun d v G' H' s q p1 => ?_)
  cases e1 : toB d with
  | ok b => rw [e1] at p1; exact ⟨b, q.now.toB e1, p1 G' H' s⟩
  | exc x => cases d <;> simp only [toB] at e1 <;> cases e1
  | fail => rw [e1] at p1; exact p1.elim
theorem d_tc {op : CmpOp} {o : D → D → R D} (ho : Op2 X c.k (compareOp op) .st o) (ha : PE' X c k1 a f) (hb : PE' X c k2 b g) (hm : behindInMarks op b = false := by rfl) : PT' X c (.Compare a [op] [b] pos) (tB' (e2 o f g)) := by
  obtain ⟨r, h1, h2⟩ := ho
  exact ptI (pt_cmpR h1 ha hb hm) fun σ H Q q => tB_go (t := tOp r (RdE c k1 f) (RdE c k2 g)) (fun σ H Q q => e2_go h2 q) q
/-- a op b op c -/
def e3 (o o' : D → D → R D) (f g h : FE) : FE := fun S => do
  let x ← f S
  let y ← g S
  let b ← (o x y).nox
  let b ← toB b
  if b then do
    let z ← h S
    (o' y z).nox
  else .ok (.bl false)
theorem e3_go {o o' : D → D → R D} {r r' : R2} {σ : St} {H : Hp} {Q : VK} (hr : ∀ G H x y u v d, Ex G H → Now c.k G H x u → Now c.k G H y v → o x y = .ok d → ∀ Q : VK, (∀ w G' H', Step G H G' H' → Res c.k H G' H' d w .st → Q w H') → r u v H Q)
    (hr' : ∀ G H x y u v d, Ex G H → Now c.k G H x u → Now c.k G H y v → o' x y = .ok d → ∀ Q : VK, (∀ w G' H', Step G H G' H' → Res c.k H G' H' d w .st → Q w H') → r' u v H Q)
    (q : RdE c .st (e3 o o' f g h) σ H Q) : tChain r r' (RdE c k1 f) (RdE c k2 g) (RdE c k3 h) σ H Q := by
  obtain ⟨G, S, rel, p⟩ := q
  refine rdE_go (g := fun x => do let y ← g S; let b ← (o x y).nox; let b ← toB b; if b then do { let z ← h S; (o' y z).nox } else .ok (.bl false)) (Post := PostE c .st G S σ H Q) rel p (fun _ z => z) (fun z => z) fun d1 v1 G1 H1 s1 q1 p1 => ?_
  refine rdE_go (g := fun y => do let b ← (o d1 y).nox; let b ← toB b; if b then do { let z ← h S; (o' y z).nox } else .ok (.bl false)) (Post := PostE c .st G S σ H Q) (rel.grow s1) p1 (fun _ z => z) (fun z => z) fun d2 v2 G2 H2 s2 q2 p2 => ?_
  cases eo : o d1 d2 with
  | exc x => rw [eo] at p2; exact p2.elim
  | fail => rw [eo] at p2; exact p2.elim
  | ok db =>
    rw [eo] at p2
    refine hr G2 H2 d1 d2 v1 v2 db s2.gh (q1.now.grow s2) q2.now eo _ fun w G3 H3 s3 q3 => ?_
    cases eb : toB db with
    | exc x => cases db <;> simp only [toB] at eb <;> cases eb
    | fail => simp only [R.nox_ok, R.ok_bind, eb, R.fail_bind] at p2; exact p2.elim
    | ok kb =>
      simp only [R.nox_ok, R.ok_bind, eb] at p2
      refine ⟨kb, (Res.now (kd := .st) q3).toB eb, ?_⟩
      cases kb with
      | false =>
        rw [if_neg Bool.false_ne_true] at p2 ⊢
        exact p2 _ G3 H3 ((s1.trans s2).trans s3) (.bl _)
      | true =>
        rw [if_pos rfl] at p2 ⊢
        refine rdE_go (g := fun z => (o' d2 z).nox) (Post := PostE c .st G S σ H Q) (((rel.grow s1).grow s2).grow s3) p2 (fun _ z => z) (fun z => z) fun d4 v4 G4 H4 s4 q4 p4 => ?_
        cases eo' : o' d2 d4 with
        | exc x => rw [eo'] at p4; exact p4.elim
        | fail => rw [eo'] at p4; exact p4.elim
        | ok dr =>
          rw [eo'] at p4
          exact hr' G4 H4 d2 d4 v2 v4 dr s4.gh (q2.now.grow (s3.trans s4)) q4.now eo' Q fun w' G5 H5 s5 q5 => p4 w' G5 H5 ((((s1.trans s2).trans s3).trans s4).trans s5) q5
theorem d_ch {op op' : CmpOp} {cc : Expr} {o o' : D → D → R D} (ho : Op2 X c.k (compareOp op) .st o) (ho' : Op2 X c.k (compareOp op') .st o') (ha : PE' X c k1 a f) (hb : PE' X c k2 b g) (hc : PE' X c k3 cc h)
    (hm : lastMarks [op, op'] [b, cc] = false := by with_unfolding_all rfl) : PE' X c .st (.Compare a [op, op'] [b, cc] pos) (e3 o o' f g h) := by
  obtain ⟨r, h1, h2⟩ := ho
  obtain ⟨r', h1', h2'⟩ := ho'
  exact peI (pe_chain h1 h1' ha hb hc hm) fun σ H Q q => e3_go h2 h2' q
theorem d_tch {op op' : CmpOp} {cc : Expr} {o o' : D → D → R D} (ho : Op2 X c.k (compareOp op) .st o) (ho' : Op2 X c.k (compareOp op') .st o') (ha : PE' X c k1 a f) (hb : PE' X c k2 b g) (hc : PE' X c k3 cc h)
    (hm : lastMarks [op, op'] [b, cc] = false := by with_unfolding_all rfl) : PT' X c (.Compare a [op, op'] [b, cc] pos) (tB' (e3 o o' f g h)) := by
  obtain ⟨r, h1, h2⟩ := ho
  obtain ⟨r', h1', h2'⟩ := ho'
  exact ptI (pt_chain h1 h1' ha hb hc hm) fun σ H Q q => tB_go (t := tChain r r' (RdE c k1 f) (RdE c k2 g) (RdE c k3 h)) (fun σ H Q q => e3_go h2 h2' q) q
/-! ### not, and, or -/
def tNo (t : FT) : FT := fun S => t S >>= fun b => .ok (!b)
def tA (t u : FT) : FT := fun S => t S >>= fun b => if b then u S else .ok false
def tO (t u : FT) : FT := fun S => t S >>= fun b => if b then .ok true else u S
variable {t u : FT}
theorem d_not (ha : PT' X c a t) : PT' X c (.UnaryOp .Not a pos) (tNo t) :=
  ptI (pt_not ha) fun σ H Q ⟨G, S, rel, p⟩ => rdT_go (g := fun b => .ok (!b)) (Post := PostT c G S σ H Q) rel p (fun _ z => z) (fun z => z) fun b G' H' s p1 => p1 G' H' s
abbrev PW' (X : Cx) (c : Cf) (e : Expr) (f : FT) : Prop := PW X e (RdT c f)
theorem PostT.grow {G H G' H' : Hp} {S : Env} {σ : St} {Q : Bool → Hp → Prop} {r : R Bool} (s : Step G H G' H') (p : PostT c G S σ H Q r) : PostT c G' S σ H' Q r := by
  cases r with
  | ok b => exact fun G2 H2 s2 => p G2 H2 (s.trans s2)
  | exc x => exact p
  | fail => exact p
theorem PostE.grow {G H G' H' : Hp} {S : Env} {σ : St} {Q : VK} {r : R D} (s : Step G H G' H') (p : PostE c kd G S σ H Q r) : PostE c kd G' S σ H' Q r := by
  cases r with
  | ok b => exact fun v G2 H2 s2 q => p v G2 H2 (s.trans s2) (q.mono s.h)
  | exc x => exact p
  | fail => exact p
theorem d_and1 (ha : PT' X c a t) : PW' X c (.BoolOp .And [a] pos) t := pw_and1 ha
theorem d_or1 (ha : PT' X c a t) : PW' X c (.BoolOp .Or [a] pos) t := pw_or1 ha
theorem d_and {rest : List Expr} (ha : PT' X c a t) (hb : PW' X c (.BoolOp .And (b :: rest) pos) u) : PW' X c (.BoolOp .And (a :: b :: rest) pos) (tA t u) :=
  pwI (pw_and ha hb) fun σ H Q ⟨G, S, rel, p⟩ => rdT_go (g := fun b => if b then u S else .ok false) (Post := PostT c G S σ H Q) rel p (fun _ z => z) (fun z => z) fun b G' H' s p1 => by
    cases b with
    | true => exact ⟨G', S, rel.grow s, PostT.grow s p1⟩
    | false => exact p1 G' H' s
theorem d_or {rest : List Expr} (ha : PT' X c a t) (hb : PW' X c (.BoolOp .Or (b :: rest) pos) u) : PW' X c (.BoolOp .Or (a :: b :: rest) pos) (tO t u) :=
  pwI (pw_or ha hb) fun σ H Q ⟨G, S, rel, p⟩ => rdT_go (g := fun b => if b then .ok true else u S) (Post := PostT c G S σ H Q) rel p (fun _ z => z) (fun z => z) fun b G' H' s p1 => by
    cases b with
    | true => exact p1 G' H' s
    | false => exact ⟨G', S, rel.grow s, PostT.grow s p1⟩
theorem d_pw (h : PW' X c a t) : PT' X c a t := h.pt
/-- the same as values: bools -/
def eAnd (f g : FE) : FE := fun S => f S >>= toB >>= fun b => if b then g S else .ok (.bl false)
def eOr (f g : FE) : FE := fun S => f S >>= toB >>= fun b => if b then .ok (.bl true) else g S
def eNot (f : FE) : FE := fun S => f S >>= toB >>= fun b => .ok (.bl (!b))
def eIf (t : FT) (f g : FE) : FE := fun S => t S >>= fun b => if b then f S else g S
theorem bind_toB {β : Type} (r : R D) (k : Bool → R β) : (r >>= toB >>= k) = r >>= fun d => toB d >>= k := by cases r <;> rfl
theorem d_vone {op} (h : PE' X c .st a f) : PE' X c .st (.BoolOp op [a] pos) f := pe_one h
theorem d_vand {rest : List Expr} (ha : PE' X c .st a f) (hb : PE' X c .st (.BoolOp .And (b :: rest) pos) g) : PE' X c .st (.BoolOp .And (a :: b :: rest) pos) (eAnd f g) :=
  peI (pe_and ha hb) fun σ H Q ⟨G, S, rel, p⟩ => by
    unfold eAnd at p
    rw [bind_toB] at p
    refine rdE_go (Post := PostE c .st G S σ H Q) rel p (fun _ z => z) (fun z => z) fun d v G' H' s q p1 => ?_
    cases d with
    | bl k =>
      refine ⟨k, (Res.now (kd := .st) q).bl, ?_⟩
      cases k with
      | true => exact ⟨G', S, rel.grow s, PostE.grow s p1⟩
      | false => exact p1 _ G' H' s (.bl _)
    | _ => exact p1.elim
theorem d_vor {rest : List Expr} (ha : PE' X c .st a f) (hb : PE' X c .st (.BoolOp .Or (b :: rest) pos) g) : PE' X c .st (.BoolOp .Or (a :: b :: rest) pos) (eOr f g) :=
  peI (pe_or ha hb) fun σ H Q ⟨G, S, rel, p⟩ => by
    unfold eOr at p
    rw [bind_toB] at p
    refine rdE_go (Post := PostE c .st G S σ H Q) rel p (fun _ z => z) (fun z => z) fun d v G' H' s q p1 => ?_
    cases d with
    | bl k =>
      refine ⟨k, (Res.now (kd := .st) q).bl, ?_⟩
      cases k with
      | true => exact p1 _ G' H' s (.bl _)
      | false => exact ⟨G', S, rel.grow s, PostE.grow s p1⟩
    | _ => exact p1.elim
theorem d_vnot (ha : PE' X c .st a f) : PE' X c .st (.UnaryOp .Not a pos) (eNot f) :=
  peI (pe_not ha) fun σ H Q ⟨G, S, rel, p⟩ => by
    unfold eNot at p
    rw [bind_toB] at p
    refine rdE_go (Post := PostE c .st G S σ H Q) rel p (fun _ z => z) (fun z => z) fun d v G' H' s q p1 => ?_
    cases d with
    | bl k => exact ⟨k, (Res.now (kd := .st) q).bl, p1 _ G' H' s (.bl _)⟩
    | _ => exact p1.elim
theorem d_ite {cc : Expr} (hc : PT' X c cc t) (ha : PE' X c kd a f) (hb : PE' X c kd b g) : PE' X c kd (.IfExp cc a b pos) (eIf t f g) :=
  peI (pe_ifExp hc ha hb) fun σ H Q ⟨G, S, rel, p⟩ => rdT_go (g := fun b => if b then f S else g S) (Post := PostE c kd G S σ H Q) rel p (fun _ z => z) (fun z => z) fun b G' H' s p1 => by
    cases b with
    | true => exact ⟨G', S, rel.grow s, PostE.grow s p1⟩
    | false => exact ⟨G', S, rel.grow s, PostE.grow s p1⟩
end
end M
set_option Elab.async false
set_option linter.all false
set_option maxRecDepth 100000
set_option maxHeartbeats 4000000
namespace M
open PySem L2
abbrev PS' (X : Cx) (c : Cf) (fr : Bool) (as : List Nat) (st : Stmt) (s : FS) : Prop := PS X st (RdS c fr as s)
abbrev PB' (X : Cx) (c : Cf) (fr : Bool) (as : List Nat) (st : List Stmt) (s : FS) : Prop := PSs X st (RdS c fr as s)
section
variable {X : Cx} {c : Cf} {kd k1 k2 k3 : Kd} {a b e : Expr} {f g h : FE} {t u : FT} {pos : Pos} {fr : Bool} {as bs : List Nat} {s r : FS} {st : Stmt} {sts : List Stmt}
/-! ### transport -/
theorem PostS.mv {G G' H H' : Hp} {S S' : Env} {σ σ' : St} {Dn : Ends} {q : R (Fl × Env)} (hg : Ex G G') (fm : Frm as S σ H S' σ' H') (hs : ∀ i, i ∈ as ++ bs → i ∈ as ∨ i ∈ bs) (p : PostS c fr (as ++ bs) G S σ H Dn q) : PostS c fr bs G' S' σ' H' Dn q := by
  cases q with
  | exc x => exact p
  | fail => exact p
  | ok z =>
    obtain ⟨fl, S2⟩ := z
    cases fl with
    | nx => exact fun G2 σ2 H2 e r2 f2 => p G2 σ2 H2 (hg.trans e) r2 (fm.trans f2)
    | bk => exact fun G2 σ2 H2 e r2 f2 => p G2 σ2 H2 (hg.trans e) r2 (fm.trans f2)
    | ct => exact fun G2 σ2 H2 e r2 f2 => p G2 σ2 H2 (hg.trans e) r2 (fm.trans f2)
    | rt d => exact p
theorem PostS.sub {as' : List Nat} {G H : Hp} {S : Env} {σ : St} {Dn : Ends} {q : R (Fl × Env)} (hs : ∀ i, i ∈ as' → i ∈ as) (p : PostS c fr as G S σ H Dn q) : PostS c fr as' G S σ H Dn q := by
  cases q with
  | exc x => exact p
  | fail => exact p
  | ok z =>
    obtain ⟨fl, S2⟩ := z
    cases fl with
    | nx => exact fun G2 σ2 H2 e r2 f2 => p G2 σ2 H2 e r2 (f2.mono hs)
    | bk => exact fun G2 σ2 H2 e r2 f2 => p G2 σ2 H2 e r2 (f2.mono hs)
    | ct => exact fun G2 σ2 H2 e r2 f2 => p G2 σ2 H2 e r2 (f2.mono hs)
    | rt d => exact p
/-- behind a growing of the heap -/
theorem PostS.gr {G H G' H' : Hp} {S : Env} {σ : St} {Dn : Ends} {q : R (Fl × Env)} (rel : Rel c G S σ H) (sp : Step G H G' H') (p : PostS c fr as G S σ H Dn q) : PostS c fr as G' S σ H' Dn q :=
  PostS.mv (as := []) (bs := as) sp.g (Frm.step rel sp) (fun i h => .inr (by simpa using h)) p
/-! ### small statements -/
def sNil : FS := fun S => .ok (.nx, S)
def sBrk : FS := fun S => .ok (.bk, S)
def sCnt : FS := fun S => .ok (.ct, S)
def sSeq (s r : FS) : FS := fun S => s S >>= fun z => match z.1 with | .nx => r z.2 | _ => .ok z
def sSet (i : Nat) (f : FE) : FS := fun S => f S >>= fun d => .ok (.nx, S.set i (some ⟨false, d⟩))
def sOwn (i : Nat) (f : FE) : FS := fun S => f S >>= fun d => .ok (.nx, S.set i (some ⟨true, d⟩))
def sDrop (f : FE) : FS := fun S => f S >>= fun _ => .ok (.nx, S)
def sRet (f : FE) : FS := fun S => f S >>= fun d => .ok (.rt d, S)
def sRetN : FS := fun S => .ok (.rt .non, S)
/-- a slot's own object handed back -/
def eO (i : Nat) : FE := fun S => match S[i]? with
  | some (some ⟨true, d⟩) => .ok d
  | _ => .fail
def sRetO (i : Nat) : FS := fun S => eO i S >>= fun d => .ok (.rt d, S)
def sIf (t : FT) (s r : FS) : FS := fun S => t S >>= fun b => if b then s S else r S
def sNo : FS := fun _ => .fail
/-- a slot's own object is frozen ahead of a statement -/
def fzS (S : Env) (i : Nat) : Env := match S[i]? with
  | some (some ⟨true, d⟩) => S.set i (some ⟨false, d⟩)
  | _ => S
def sFz (i : Nat) (s : FS) : FS := fun S => s (fzS S i)
theorem b_nil : PB' X c fr [] [] sNil := pssI pss_nil fun Dn σ H ⟨G, S, rel, p⟩ => p G σ H (Ex.refl _) rel (Frm.refl _ _ _ _)
theorem s_pass : PS' X c fr [] (.Pass pos) sNil := psI ps_pass fun Dn σ H ⟨G, S, rel, p⟩ => p G σ H (Ex.refl _) rel (Frm.refl _ _ _ _)
theorem s_brk : PS' X c fr [] (.Break pos) sBrk := psI ps_break fun Dn σ H ⟨G, S, rel, p⟩ => p G σ H (Ex.refl _) rel (Frm.refl _ _ _ _)
theorem s_cnt : PS' X c fr [] (.Continue pos) sCnt := psI ps_continue fun Dn σ H ⟨G, S, rel, p⟩ => p G σ H (Ex.refl _) rel (Frm.refl _ _ _ _)
theorem s_no : PS' X c fr [] st sNo := psI ps_never fun Dn σ H ⟨G, S, rel, p⟩ => p
theorem b_no : PB' X c fr [] sts sNo := pssI pss_never fun Dn σ H ⟨G, S, rel, p⟩ => p
theorem b_cons (h1 : PS' X c fr as st s) (h2 : PB' X c fr bs sts r) : PB' X c fr (as ++ bs) (st :: sts) (sSeq s r) :=
  pssI (pss_cons h1 h2) fun Dn σ H ⟨G, S, rel, p⟩ => ⟨G, S, rel, by
    have p : PostS c fr (as ++ bs) G S σ H Dn (s S >>= fun z => match z.1 with | .nx => r z.2 | _ => .ok z) := p
    cases e1 : s S with
    | exc x => rw [e1] at p; exact p
    | fail => rw [e1] at p; exact p
    | ok z =>
      rw [e1] at p
      obtain ⟨fl, S1⟩ := z
      cases fl with
      | nx => exact fun G1 σ1 H1 ex r1 f1 => ⟨G1, S1, r1, PostS.mv (as := as) (bs := bs) ex f1 (fun i => List.mem_append.mp) p⟩
      | bk => exact PostS.sub (fun i q => List.mem_append_left _ q) p
      | ct => exact PostS.sub (fun i q => List.mem_append_left _ q) p
      | rt d => exact p⟩
theorem b_one (h1 : PS' X c fr as st s) : PB' X c fr as [st] s := pss_one h1
theorem s_fz (i : Nat) (h1 : PS' X c fr as st s) : PS' X c fr (i :: as) st (sFz i s) :=
  psI h1 fun Dn σ H ⟨G, S, rel, p⟩ => by
    have p : PostS c fr (i :: as) G S σ H Dn (s (fzS S i)) := p
    unfold fzS at p
    split at p
    · rename_i d hd
      obtain ⟨G', ex, rel'⟩ := rel.frz hd
      refine ⟨G', _, rel', PostS.mv (as := [i]) (bs := as) ex ⟨rfl, fun _ _ => rfl, fun j hj _ => ?_, fun _ _ _ _ _ => rfl⟩ (fun j q => by simpa using q) p⟩
      rw [List.getElem?_set_ne (fun z => hj (by simp [z]))]
    · exact ⟨G, S, rel, PostS.sub (fun j q => List.mem_cons_of_mem _ q) p⟩
/-! ### targets -/
abbrev PG' (X : Cx) (c : Cf) (as : List Nat) (e : Expr) (g : FG) : Prop := PG X e (RdG c as g)
abbrev FGs := List D → Env → R Env
def RdGs (c : Cf) (as : List Nat) (g : FGs) : TGs := fun vs σ H Q => ∃ G S ds, Rel c G S σ H ∧ RDs c.k G ds vs ∧ PostG c as G S σ H Q (g ds S)
abbrev PGs' (X : Cx) (c : Cf) (as : List Nat) (e : List Expr) (g : FGs) : Prop := PGs X e (RdGs c as g)
def gN (i : Nat) : FG := fun d S => .ok (S.set i (some ⟨false, d⟩))
def gsN : FGs := fun ds S => match ds with | [] => .ok S | _ => .fail
def gsC (g : FG) (r : FGs) : FGs := fun ds S => match ds with | d :: ds => g d S >>= r ds | [] => .fail
def gT (n : Nat) (r : FGs) : FG := fun d S => match d with | .tup ds => if ds.length = n then r ds S else .fail | _ => .fail
theorem Frm.set {S : Env} {σ : St} {H : Hp} (i : Nat) (x : Option Sl) (v : Option V) : Frm [i] S σ H (S.set i x) (σ.set i v) H :=
  ⟨by simp, fun j hj => List.getElem?_set_ne (fun z => hj (by simp [z])), fun j hj _ => List.getElem?_set_ne (fun z => hj (by simp [z])), fun _ _ _ _ _ => rfl⟩
theorem g_n (i : Nat) {x : Str} (hN : X.N.Nodup) (hi : X.N[i]? = some x := by rfl) (hx : Loc X.env.scope x := by first | exact Or.inl rfl | exact Or.inr rfl) (hf : X.fn x = true ∨ X.env.scope.names.lookup x = some .local := by first | exact .inl rfl | exact .inr rfl) : PG' X c [i] (.Name x pos) (gN i) :=
  pgI (pg_name hN hi hx hf) fun v σ H Q ⟨G, S, d, rel, q, p⟩ => p G _ H (Step.refl rel.st.gh) (rel.setS i q) (Frm.set i _ _)
theorem gs_n : PGs' X c [] [] gsN :=
  pgsI pgs_nil fun vs σ H Q ⟨G, S, ds, rel, q, p⟩ => by
    cases q with
    | nil => exact ⟨rfl, p G σ H (Step.refl rel.st.gh) rel (Frm.refl _ _ _ _)⟩
    | cons _ _ => exact p.elim
theorem gs_c {e : Expr} {es : List Expr} {ga : FG} {ra : FGs} (h1 : PG' X c as e ga) (h2 : PGs' X c bs es ra) (hs : (assignEach (e :: es) X.env).map (·.2) = assign e X.env :: (assignEach es X.env).map (·.2) := by rfl) : PGs' X c (as ++ bs) (e :: es) (gsC ga ra) :=
  pgsI (pgs_cons h1 h2 hs) fun vs σ H Q ⟨G, S, ds, rel, q, p⟩ => by
    cases q with
    | nil => exact p.elim
    | @cons d ds v vs q1 q2 =>
      refine ⟨v, vs, rfl, G, S, d, rel, q1, ?_⟩
      have p : PostG c (as ++ bs) G S σ H Q (ga d S >>= ra ds) := p
      cases e1 : ga d S with
      | exc x => rw [e1] at p; exact p.elim
      | fail => rw [e1] at p; exact p.elim
      | ok S1 =>
        rw [e1] at p
        refine fun G1 σ1 H1 ex r1 f1 => ⟨G1, S1, ds, r1, q2.mono ex.g, ?_⟩
        have p : PostG c (as ++ bs) G S σ H Q (ra ds S1) := p
        cases e2 : ra ds S1 with
        | exc x => rw [e2] at p; exact p.elim
        | fail => rw [e2] at p; exact p.elim
        | ok S2 => rw [e2] at p; exact fun G2 σ2 H2 ex2 r2 f2 => p G2 σ2 H2 (ex.trans ex2) r2 (f1.trans f2)
theorem g_t {es : List Expr} {k : Nat} {ra : FGs} {n : Nat} (hk : c.k.K = X.K) (hc : X.calm = true) (h : PGs' X c as es ra) (hn : (assignEach es X.env).length = n := by rfl) (hst : (assignEach es X.env).findIdx? (·.1) = none := by rfl) : PG' X c as (.Tuple es k pos) (gT n ra) :=
  pgI (pg_tup hc h hn hst) fun v σ H Q ⟨G, S, d, rel, q, p⟩ => by
    cases q with
    | @tup ds a vs hs hr =>
      have p : PostG c as G S σ H Q (if ds.length = n then ra ds S else .fail) := p
      by_cases hl : ds.length = n
      · rw [if_pos hl] at p
        exact ⟨a, vs, rfl, hk ▸ rel.st.gh.sqT hs.t, by rw [← hr.length]; exact hl, G, S, ds, rel, hr, p⟩
      · rw [if_neg hl] at p; exact p.elim
    | _ => exact p.elim
/-! ### assignments, expressions, return -/
def sAsg (g : FG) (f : FE) : FS := fun S => f S >>= fun d => (g d S).nox >>= fun S' => .ok (Fl.nx, S')
theorem asg_go {ga : FG} {tg : TG} {Dn : Ends} {σ : St} {H : Hp} (hg : ∀ v σ H Q, RdG c as ga v σ H Q → tg v σ H Q) (q : RdS c fr as (sAsg ga f) Dn σ H) : RdE c .st f σ H fun x H1 => tg x σ H1 Dn.nx := by
  obtain ⟨G, S, rel, p⟩ := q
  refine rdE_go (g := fun d => (ga d S).nox >>= fun S' => .ok (Fl.nx, S')) (Post := PostS c fr as G S σ H Dn) rel p (fun _ z => z) (fun z => z) fun d v G' H' sp q p1 => ?_
  refine hg v σ H' _ ⟨G', S, d, rel.grow sp, q, ?_⟩
  cases e1 : ga d S with
  | exc x => rw [e1] at p1; exact p1.elim
  | fail => rw [e1] at p1; exact p1.elim
  | ok S1 =>
    rw [e1] at p1
    exact fun G2 σ2 H2 ex r2 f2 => p1 G2 σ2 H2 (sp.g.trans ex.g) r2 ((Frm.step (as := []) rel sp).trans f2)
theorem s_asg {tg : Expr} {ga : FG} (he : PE' X c .st e f) (hg : PG' X c as tg ga) (hs : swapsWithSole [tg] e pos.line X.env = pure false := by rfl) (hw : swappedStores [tg] e X.env = pure none := by rfl) (h1 : (assignEach [tg] X.env).map (·.2) = [assign tg X.env] := by rfl) : PS' X c fr as (.Assign [tg] e pos) (sAsg ga f) :=
  psI (ps_asg he hg hs hw h1) fun Dn σ H q => asg_go (fun _ _ _ _ z => z) q
theorem s_set (i : Nat) {x : Str} {pos' : Pos} (hN : X.N.Nodup) (he : PE' X c .st e f) (hi : X.N[i]? = some x := by rfl) (hx : Loc X.env.scope x := by first | exact Or.inl rfl | exact Or.inr rfl) (hs : swapsWith e (some (.Name x pos')) pos.line X.env = pure false := by rfl)
    (hf : X.fn x = true ∨ X.env.scope.names.lookup x = some .local := by first | exact .inl rfl | exact .inr rfl) : PS' X c fr [i] (.Assign [.Name x pos'] e pos) (sSet i f) :=
  psI (ps_set hN hi hx he hs hf) fun Dn σ H ⟨G, S, rel, p⟩ => by
    refine rdE_go (g := fun d => .ok (Fl.nx, S.set i (some ⟨false, d⟩))) (Post := PostS c fr [i] G S σ H Dn) rel p (fun _ z => z) (fun z => z) fun d v G' H' sp q p1 => ?_
    exact p1 G' _ H' sp.g ((rel.grow sp).setS i q) ((Frm.step (as := []) rel sp).trans (Frm.set i _ _))
/-- a new object goes to a slot that owns it -/
theorem own_go {i : Nat} {Dn : Ends} {σ : St} {H : Hp} (q : RdS c fr [i] (sOwn i f) Dn σ H) : RdE c .fr f σ H fun x H1 => gName i x σ H1 Dn.nx := by
  obtain ⟨G, S, rel, p⟩ := q
  refine rdE_go (g := fun d => .ok (Fl.nx, S.set i (some ⟨true, d⟩))) (Post := PostS c fr [i] G S σ H Dn) rel p (fun _ z => z) (fun z => z) fun d v G' H' sp q p1 => ?_
  obtain ⟨a, o, rfl, hg, hn, ha, ct⟩ := q
  refine p1 G' _ H' sp.g ((rel.grow sp).setO i ha hg (rel.st.h.free hn) ct (fun j ow => ?_) (fun _ _ => rfl)) ((Frm.step (as := []) rel sp).trans (Frm.set i _ _))
  obtain ⟨_, _, u, _, q, _⟩ := rel.own ow
  rw [hn] at q; cases q
theorem s_own (i : Nat) {x : Str} {pos' : Pos} (hN : X.N.Nodup) (he : PE' X c .fr e f) (hi : X.N[i]? = some x := by rfl) (hx : Loc X.env.scope x := by first | exact Or.inl rfl | exact Or.inr rfl) (hs : swapsWith e (some (.Name x pos')) pos.line X.env = pure false := by rfl)
    (hf : X.fn x = true ∨ X.env.scope.names.lookup x = some .local := by first | exact .inl rfl | exact .inr rfl) : PS' X c fr [i] (.Assign [.Name x pos'] e pos) (sOwn i f) :=
  psI (ps_set hN hi hx he hs hf) fun Dn σ H q => own_go q
theorem s_drop (he : PE' X c kd e f) (hs : swapsWith e none pos.line X.env = pure false := by rfl) : PS' X c fr [] (.Expr e pos) (sDrop f) :=
  psI (ps_expr he hs) fun Dn σ H ⟨G, S, rel, p⟩ => by
    refine rdE_go (g := fun d => .ok (Fl.nx, S)) (Post := PostS c fr [] G S σ H Dn) rel p (fun _ z => z) (fun z => z) fun d v G' H' sp q p1 => ?_
    exact p1 G' σ H' sp.g (rel.grow sp) (Frm.step rel sp)
theorem s_ret (he : PE' X c .st e f) : PS' X c false [] (.Return (some e) pos) (sRet f) :=
  psI (ps_ret he) fun Dn σ H ⟨G, S, rel, p⟩ => by
    refine rdE_go (g := fun d => .ok (Fl.rt d, S)) (Post := PostS c false [] G S σ H Dn) rel p (fun _ z => z) (fun z => z) fun d v G' H' sp q p1 => ?_
    exact p1 v G' H' (rel.st.trans sp) q
theorem s_retF (he : PE' X c .fr e f) : PS' X c true [] (.Return (some e) pos) (sRet f) :=
  psI (ps_ret he) fun Dn σ H ⟨G, S, rel, p⟩ => by
    refine rdE_go (g := fun d => .ok (Fl.rt d, S)) (Post := PostS c true [] G S σ H Dn) rel p (fun _ z => z) (fun z => z) fun d v G' H' sp q p1 => ?_
    obtain ⟨a, o, rfl, hg, hn, ha, ct⟩ := q
    exact p1 _ G' H' (rel.st.trans sp) ⟨a, o, rfl, hg, rel.st.h.free hn, ha, ct⟩
theorem s_retO (i : Nat) {x : Str} {p' : Pos} (hN : X.N[i]? = some x := by rfl) (hv : Vis X.env.scope x := by first | exact Or.inl rfl | exact Or.inr (Or.inl rfl) | exact Or.inr (Or.inr rfl)) (hd : (x == ("__debug__" : Str)) = false := by decide)
    (hcd : (x == ("__classdict__" : Str)) = false := by decide) : PS' X c true [] (.Return (some (.Name x p')) pos) (sRetO i) :=
  psI (ps_ret (pe_var hN hv hd hcd)) fun Dn σ H ⟨G, S, rel, p⟩ => by
    have p : PostS c true [] G S σ H Dn (eO i S >>= fun d => .ok (.rt d, S)) := p
    unfold eO at p
    split at p
    · rename_i d hd
      obtain ⟨a, o, e1, hg, h0, ho, ct⟩ := rel.ow i d hd
      exact ⟨_, e1, p _ G H rel.st ⟨a, o, rfl, hg, h0, ho, ct⟩⟩
    · exact p.elim
theorem s_retN : PS' X c false [] (.Return none pos) sRetN :=
  psI ps_retN fun Dn σ H ⟨G, S, rel, p⟩ => p .non G H rel.st .non
theorem s_if {cc : Expr} {aa bb : List Stmt} (hc : PT' X c cc t) (ha : PB' X c fr as aa s) (hb : PB' X c fr bs bb r) : PS' X c fr (as ++ bs) (.If cc aa bb pos) (sIf t s r) :=
  psI (ps_if hc ha hb) fun Dn σ H ⟨G, S, rel, p⟩ => rdT_go (g := fun b => if b then s S else r S) (Post := PostS c fr (as ++ bs) G S σ H Dn) rel p (fun _ z => z) (fun z => z) fun b G' H' sp p1 => by
    cases b with
    | true => exact ⟨G', S, rel.grow sp, PostS.sub (fun i q => List.mem_append_left _ q) (PostS.gr rel sp p1)⟩
    | false => exact ⟨G', S, rel.grow sp, PostS.sub (fun i q => List.mem_append_right _ q) (PostS.gr rel sp p1)⟩
/-! ### while -/
def whileF (t : FT) (s : FS) : Nat → FS
  | 0 => fun _ => .fail
  | n + 1 => fun S => t S >>= fun b => if b then s S >>= fun z => match z.1 with
    | .nx => whileF t s n z.2
    | .ct => whileF t s n z.2
    | .bk => .ok (.nx, z.2)
    | .rt d => .ok (.rt d, z.2) else .ok (.nx, S)
theorem s_while (n : Nat) {cc : Expr} {body : List Stmt} (hp : PassesOwn (model X.prog X.w) X.A X.env X.xe) (hc : PT' X c cc t) (hb : PB' X c fr as body s) : PS' X c fr as (.While cc body [] pos) (whileF t s n) :=
  psI (ps_while hp hc hb) fun Dn σ H ⟨G, S, rel, p⟩ => by
    refine ⟨fun m σ1 H1 => ∃ G1 S1, Rel c G1 S1 σ1 H1 ∧ Ex G G1 ∧ Frm as S σ H S1 σ1 H1 ∧ PostS c fr as G S σ H Dn (whileF t s m S1), ⟨n, G, S, rel, Ex.refl _, Frm.refl _ _ _ _, p⟩, ?_⟩
    rintro m σ1 H1 ⟨G1, S1, r1, ex1, f1, p1⟩
    cases m with
    | zero => exact p1.elim
    | succ m =>
      refine rdT_go (g := fun b => if b then s S1 >>= fun z => match z.1 with
        | .nx => whileF t s m z.2
        | .ct => whileF t s m z.2
        | .bk => .ok (.nx, z.2)
        | .rt d => .ok (.rt d, z.2) else .ok (.nx, S1)) (Post := PostS c fr as G S σ H Dn) r1 p1 (fun _ z => z) (fun z => z) fun b G2 H2 sp p2 => ?_
      have f2 : Frm as S σ H S1 σ1 H2 := (f1.trans (Frm.step (as := []) r1 sp)).mono (fun i q => by simpa using q)
      cases b with
      | false => exact p2 G2 σ1 H2 (ex1.trans sp.g) (r1.grow sp) f2
      | true =>
        rw [if_pos rfl] at p2 ⊢
        refine ⟨fun σ' H' => ∃ G3 S3, Rel c G3 S3 σ' H' ∧ Ex G G3 ∧ Frm as S σ H S3 σ' H' ∧ PostS c fr as G S σ H Dn (whileF t s m S3), fun σ' H' q => ⟨m, Nat.lt_succ_self m, q⟩, G2, S1, r1.grow sp, ?_⟩
        cases e1 : s S1 with
        | exc x => rw [e1] at p2; exact p2
        | fail => rw [e1] at p2; exact p2
        | ok z =>
          rw [e1] at p2
          obtain ⟨fl, S3⟩ := z
          have fin : ∀ {σ3 : St} {H3 : Hp}, Frm as S1 σ1 H2 S3 σ3 H3 → Frm as S σ H S3 σ3 H3 := fun f3 => (f2.trans f3).mono (fun i q => by simpa using q)
          cases fl with
          | nx => exact fun G3 σ3 H3 e3 r3 f3 => ⟨G3, S3, r3, (ex1.trans sp.g).trans e3, fin f3, p2⟩
          | ct => exact fun G3 σ3 H3 e3 r3 f3 => ⟨G3, S3, r3, (ex1.trans sp.g).trans e3, fin f3, p2⟩
          | bk => exact fun G3 σ3 H3 e3 r3 f3 => p2 G3 σ3 H3 ((ex1.trans sp.g).trans e3) r3 (fin f3)
          | rt d => exact p2
/-! ### what is walked -/
/-- the iterator J gives the items ds, while the slots ki keep what they own -/
def Itm (k : Kn) (ki : List Nat) (G1 : Hp) (S : Env) (σ : St) (H1 : Hp) (J : It) (ds : List D) : Prop :=
  ∀ G H, Ex G1 G → Ex G H → (∀ i, i ∈ ki → ∀ a, OwnAt S σ i a → H a = H1 a) → (∀ i : Nat, ds.length ≤ i → J.stop i H) ∧ ∀ (i : Nat) (d : D), ds[i]? = some d → J.go i H ∧ ∀ x H', J.yld i H x H' → ∃ G', Step G H G' H' ∧ RD k G' d x
abbrev FI := Env → R (List D)
def PostI (c : Cf) (ki : List Nat) (G : Hp) (S : Env) (σ : St) (H : Hp) (Q : It → Hp → Prop) : R (List D) → Prop
  | .ok ds => ∀ J G' H', Step G H G' H' → Itm c.k ki G' S σ H' J ds → Q J H'
  | .exc x => PX c x
  | .fail => False
def RdI (c : Cf) (ki : List Nat) (f : FI) : TI := fun σ H Q => ∃ G S, Rel c G S σ H ∧ PostI c ki G S σ H Q (f S)
abbrev PI' (X : Cx) (c : Cf) (ki : List Nat) (tg e : Expr) (f : FI) : Prop := PI X tg e (RdI c ki f)
/-- a for's turns -/
def forF (g : FG) (s : FS) : List D → FS
  | [] => fun S => .ok (.nx, S)
  | d :: ds => fun S => (g d S).nox >>= fun S1 => s S1 >>= fun z => match z.1 with
    | .nx => forF g s ds z.2
    | .ct => forF g s ds z.2
    | .bk => .ok (.nx, z.2)
    | .rt d => .ok (.rt d, z.2)
def sFor (i : FI) (g : FG) (s : FS) : FS := fun S => i S >>= fun ds => forF g s ds S
theorem s_for {tg iter : Expr} {body : List Stmt} {ki gs : List Nat} {fi : FI} {ga : FG} (hp : PassesOwn (model X.prog X.w) X.A X.env X.xe) (hc : X.calm = true) (hi : PI' X c ki tg iter fi) (hg : PG' X c gs tg ga) (hb : PB' X c fr as body s)
    (hki : ∀ i, i ∈ ki → i ∉ gs ++ as ∧ i + 1000 ∉ gs ++ as := by decide) (hs : ∀ x, foldedSetIterable iter X.env x = pure x := by intro _; rfl) : PS' X c fr (gs ++ as) (.For tg iter body [] pos) (sFor fi ga s) :=
  psI (ps_for hp hc hi hg hb hs) fun Dn σ H ⟨G, S, rel, p⟩ => by
    refine ⟨G, S, rel, ?_⟩
    have p : PostS c fr (gs ++ as) G S σ H Dn (fi S >>= fun ds => forF ga s ds S) := p
    cases e0 : fi S with
    | exc x => rw [e0] at p; exact p
    | fail => rw [e0] at p; exact p
    | ok ds =>
      rw [e0] at p
      have p : PostS c fr (gs ++ as) G S σ H Dn (forF ga s ds S) := p
      intro J G0 H0 sp it
      refine ⟨fun i m σ1 H1 => m = ds.length - i ∧ i ≤ ds.length ∧ ∃ G1 S1, Rel c G1 S1 σ1 H1 ∧ Ex G0 G1 ∧ Frm (gs ++ as) S σ H0 S1 σ1 H1 ∧ PostS c fr (gs ++ as) G S σ H Dn (forF ga s (ds.drop i) S1),
        ⟨_, rfl, Nat.zero_le _, G0, S, rel.grow sp, Ex.refl _, Frm.refl _ _ _ _, by simpa using p⟩, ?_⟩
      rintro i m σ1 H1 ⟨rfl, hle, G1, S1, r1, ex1, f1, p1⟩
      have keep : ∀ j, j ∈ ki → ∀ a, OwnAt S σ j a → H1 a = H0 a := fun j hj a ow => f1.ow j a (hki j hj).1 (hki j hj).2 ow
      have itm := it G1 H1 ex1 r1.st.gh keep
      have fm : Frm (gs ++ as) S σ H S1 σ1 H1 := ((Frm.step (as := []) rel sp).trans f1).mono (fun i q => by simpa using q)
      by_cases hlt : i < ds.length
      · obtain ⟨d, hd⟩ : ∃ d, ds[i]? = some d := ⟨ds[i], List.getElem?_eq_getElem hlt⟩
        have hdrop : ds.drop i = d :: ds.drop (i + 1) := by
          rw [List.drop_eq_getElem_cons hlt]; congr 1; rw [List.getElem?_eq_getElem hlt] at hd; exact Option.some.inj hd
        rw [hdrop] at p1
        obtain ⟨hgo, hy⟩ := itm.2 i d hd
        refine .inr ⟨hgo, fun σ' H' => ∃ G3 S3, Rel c G3 S3 σ' H' ∧ Ex G0 G3 ∧ Frm (gs ++ as) S σ H0 S3 σ' H' ∧ PostS c fr (gs ++ as) G S σ H Dn (forF ga s (ds.drop (i + 1)) S3), fun σ' H' q => ⟨ds.length - (i + 1), by omega, rfl, hlt, q⟩, fun x H2 hx => ?_⟩
        obtain ⟨G2, sp2, hd2⟩ := hy x H2 hx
        refine ⟨G2, S1, d, r1.grow sp2, hd2, ?_⟩
        have p1 : PostS c fr (gs ++ as) G S σ H Dn ((ga d S1).nox >>= fun S1 => s S1 >>= fun z => match z.1 with
          | .nx => forF ga s (ds.drop (i + 1)) z.2
          | .ct => forF ga s (ds.drop (i + 1)) z.2
          | .bk => .ok (.nx, z.2)
          | .rt d => .ok (.rt d, z.2)) := p1
        cases e1 : ga d S1 with
        | exc x => rw [e1] at p1; exact p1.elim
        | fail => rw [e1] at p1; exact p1.elim
        | ok S2 =>
          rw [e1] at p1
          refine fun G3 σ3 H3 e3 r3 f3 => ⟨G3, S2, r3, ?_⟩
          have f03 : Frm (gs ++ as) S σ H0 S2 σ3 H3 := (f1.trans ((Frm.step (as := []) r1 sp2).trans f3)).mono (fun i q => by simp only [List.mem_append, List.not_mem_nil, false_or] at q ⊢; rcases q with q | q; exact q; exact .inl q)
          have p1 : PostS c fr (gs ++ as) G S σ H Dn (s S2 >>= fun z => match z.1 with
            | .nx => forF ga s (ds.drop (i + 1)) z.2
            | .ct => forF ga s (ds.drop (i + 1)) z.2
            | .bk => .ok (.nx, z.2)
            | .rt d => .ok (.rt d, z.2)) := p1
          have g03 : Ex G0 G3 := (ex1.trans sp2.g).trans e3.g
          cases e2 : s S2 with
          | exc x => rw [e2] at p1; exact p1
          | fail => rw [e2] at p1; exact p1
          | ok z =>
            rw [e2] at p1
            obtain ⟨fl, S4⟩ := z
            have fin : ∀ {σ4 : St} {H4 : Hp}, Frm as S2 σ3 H3 S4 σ4 H4 → Frm (gs ++ as) S σ H0 S4 σ4 H4 := fun f4 => (f03.trans f4).mono (fun i q => by simp only [List.mem_append] at q ⊢; rcases q with q | q; exact q; exact .inr q)
            have fin2 : ∀ {σ4 : St} {H4 : Hp}, Frm as S2 σ3 H3 S4 σ4 H4 → Frm (gs ++ as) S σ H S4 σ4 H4 := fun f4 => ((Frm.step (as := []) rel sp).trans (fin f4)).mono (fun i q => by simpa using q)
            cases fl with
            | nx => exact fun G4 σ4 H4 e4 r4 f4 => ⟨G4, S4, r4, g03.trans e4, fin f4, p1⟩
            | ct => exact fun G4 σ4 H4 e4 r4 f4 => ⟨G4, S4, r4, g03.trans e4, fin f4, p1⟩
            | bk => exact fun G4 σ4 H4 e4 r4 f4 => p1 G4 σ4 H4 ((sp.g.trans g03).trans e4) r4 (fin2 f4)
            | rt d => exact p1
      · have hi : i = ds.length := by omega
        subst hi
        rw [List.drop_length] at p1
        exact .inl ⟨itm.1 _ (Nat.le_refl _), p1 G1 σ1 H1 (sp.g.trans ex1) r1 fm⟩
end
end M
set_option Elab.async false
set_option linter.all false
set_option maxRecDepth 100000
set_option maxHeartbeats 4000000
namespace M
open PySem L2
section
variable {X : Cx} {c : Cf} {kd k1 k2 k3 : Kd} {a b e tg : Expr} {f g h : FE} {t u : FT} {pos : Pos} {fr : Bool} {as bs : List Nat} {s r : FS}
/-! ### sequences walked -/
def chrs (x : Str) : List D := x.cps.toList.map fun n => .str ⟨#[n]⟩
def itemsD : D → R (List D)
  | .lst ds => .ok ds
  | .tup ds => .ok ds
  | .scr ns => .ok (ns.map .int)
  | .str x => .ok (chrs x)
  | _ => .fail
theorem itm_list {k : Kn} {ki : List Nat} {G1 H1 : Hp} {S : Env} {σ : St} {K : PySem.W.Frag} {ds : List D} {vs : List V} {p : Addr} (hr : RDs k G1 ds vs) (hs : ∀ G H, Ex G1 G → Ex G H → (∀ i, i ∈ ki → ∀ a, OwnAt S σ i a → H a = H1 a) → SqL K H p vs)
    : Itm k ki G1 S σ H1 (Itl K p) ds := fun G H e1 e2 kp => by
  have q := hs G H e1 e2 kp
  refine ⟨fun i hi => ⟨vs, q, by rw [← hr.length]; exact hi⟩, fun i d hd => ?_⟩
  obtain ⟨v, hv, r⟩ := (hr.mono e1).get hd
  refine ⟨⟨vs, v, q, hv⟩, fun x H' hx => ?_⟩
  obtain ⟨rfl, hy⟩ := hx
  have := hy vs q
  rw [hv] at this; cases this
  exact ⟨G, Step.refl e2, r⟩
theorem itm_tup {k : Kn} {ki : List Nat} {G1 H1 : Hp} {S : Env} {σ : St} {K : PySem.W.Frag} {ds : List D} {vs : List V} {p : Addr} (hr : RDs k G1 ds vs) (hs : SqT K G1 p vs) : Itm k ki G1 S σ H1 (Itt K p) ds := fun G H e1 e2 kp => by
  have q := e2.sqT (e1.sqT hs)
  refine ⟨fun i hi => ⟨vs, q, by rw [← hr.length]; exact hi⟩, fun i d hd => ?_⟩
  obtain ⟨v, hv, r⟩ := (hr.mono e1).get hd
  refine ⟨⟨vs, v, q, hv⟩, fun x H' hx => ?_⟩
  obtain ⟨rfl, hy⟩ := hx
  have := hy vs q
  rw [hv] at this; cases this
  exact ⟨G, Step.refl e2, r⟩
theorem itm_str {k : Kn} {ki : List Nat} {G1 H1 : Hp} {S : Env} {σ : St} (x : Str) : Itm k ki G1 S σ H1 (Its x) (chrs x) := fun G H e1 e2 kp => by
  refine ⟨fun i hi => ?_, fun i d hd => ?_⟩
  · show x.cps.size ≤ i
    simpa [chrs] using hi
  · unfold chrs at hd
    rw [List.getElem?_map] at hd
    cases q : x.cps.toList[i]? with
    | none => rw [q] at hd; cases hd
    | some n =>
      rw [q] at hd; cases hd
      have q' : x.cps[i]? = some n := by simpa using q
      refine ⟨?_, fun y H' hy => ?_⟩
      · have := (Array.getElem?_eq_some_iff.mp q').1
        exact this
      · obtain ⟨e3, n', q2, e4⟩ := hy
        subst e3; subst e4
        rw [q'] at q2; cases q2
        exact ⟨G, Step.refl e2, .str _⟩
/-- a value of any of these kinds -/
theorem i_seq (hk : c.k.K = X.K) (he : PE' X c .st e f) : PI' X c [] tg e (fun S => f S >>= itemsD) := by
  refine ⟨fun pins st σ H Rq I q => ?_⟩
  obtain ⟨G, S, rel, p⟩ := q
  have p : PostI c [] G S σ H Rq (f S >>= itemsD) := p
  cases e1 : f S with
  | exc x => exact (pi_list he).run pins st σ H Rq I ⟨G, S, rel, by rw [e1] at p ⊢; exact p⟩
  | fail => rw [e1] at p; exact p.elim
  | ok d =>
    rw [e1] at p
    cases d with
    | lst ds =>
      refine (pi_list he).run pins st σ H Rq I ⟨G, S, rel, ?_⟩
      rw [e1]
      intro v G' H' sp q
      cases q with
      | lst h r => exact ⟨_, rfl, ⟨_, SqL.of (sp.gh _ _ h)⟩, p _ G' H' sp (itm_list r fun G2 H2 a1 a2 _ => SqL.of (a2 _ _ (a1 _ _ h)))⟩
    | scr ns =>
      refine (pi_list he).run pins st σ H Rq I ⟨G, S, rel, ?_⟩
      rw [e1]
      intro v G' H' sp q
      cases q with
      | scr h => exact ⟨_, rfl, ⟨_, hk ▸ sp.gh.sqL h⟩, p _ G' H' sp (itm_list (RDs.ints ns) fun G2 H2 a1 a2 _ => hk ▸ a2.sqL (a1.sqL h))⟩
    | tup ds =>
      refine (pi_tup he).run pins st σ H Rq I ⟨G, S, rel, ?_⟩
      rw [e1]
      intro v G' H' sp q
      cases q with
      | tup h r => exact ⟨_, rfl, ⟨_, hk ▸ sp.gh.sqT h.t⟩, p _ G' H' sp (itm_tup r (hk ▸ h.t))⟩
    | str x =>
      refine (pi_str he).run pins st σ H Rq I ⟨G, S, rel, ?_⟩
      rw [e1]
      intro v G' H' sp q
      cases q with
      | str => exact ⟨_, rfl, p _ G' H' sp (itm_str x)⟩
    | _ => exact p.elim
/-- a slot's own list -/
theorem i_own (i : Nat) {x : Str} (hN : X.N[i]? = some x := by rfl) (hv : Vis X.env.scope x := by first | exact Or.inl rfl | exact Or.inr (Or.inl rfl) | exact Or.inr (Or.inr rfl)) (hd : (x == ("__debug__" : Str)) = false := by decide)
    (hcd : (x == ("__classdict__" : Str)) = false := by decide) : PI' X c [i] tg (.Name x pos) (fun S => eO i S >>= itemsD) :=
  piI (pi_list (pe_var hN hv hd hcd)) fun σ H Rq ⟨G, S, rel, p⟩ => by
    have p : PostI c [i] G S σ H Rq (eO i S >>= itemsD) := p
    unfold eO at p
    split at p
    · rename_i d hd
      obtain ⟨a, o, e1, hg, h0, ho, ct⟩ := rel.ow i d hd
      cases ct with
      | lst r =>
        refine ⟨_, e1, a, rfl, ⟨_, SqL.of ho⟩, p _ G H (Step.refl rel.st.gh) (itm_list r fun G2 H2 a1 a2 kp => SqL.of ?_)⟩
        rw [kp i (by simp) a ⟨⟨_, hd⟩, e1⟩]; exact ho
      | _ => exact p.elim
    · exact p.elim
/-! ### ranges -/
def rngL (lo : Int) (n : Nat) : List D := (List.range n).map fun (i : Nat) => .int (lo + i)
def rng1 : List D → R (List D)
  | [.int j] => if -(2 ^ 62) ≤ j ∧ j < 2 ^ 62 then .ok (rngL 0 j.toNat) else .fail
  | _ => .fail
def rng2 : List D → R (List D)
  | [.int i, .int j] => if -(2 ^ 62) ≤ i ∧ i < 2 ^ 62 ∧ -(2 ^ 62) ≤ j ∧ j < 2 ^ 62 then .ok (rngL i (j - i).toNat) else .fail
  | _ => .fail
theorem itm_rng {k : Kn} {ki : List Nat} {G1 H1 : Hp} {S : Env} {σ : St} (lo : Int) (n : Nat) : Itm k ki G1 S σ H1 (Itr lo n) (rngL lo n) := fun G H e1 e2 kp => by
  refine ⟨fun i hi => (by simpa [rngL] using hi : n ≤ i), fun i d hd => ?_⟩
  unfold rngL at hd
  rw [List.getElem?_map] at hd
  have hi : i < n := by
    rcases Nat.lt_or_ge i n with z | z
    · exact z
    · rw [List.getElem?_eq_none (by simpa using z)] at hd; cases hd
  rw [List.getElem?_range hi] at hd
  cases hd
  refine ⟨hi, fun x H' hx => ?_⟩
  obtain ⟨rfl, rfl⟩ := hx
  exact ⟨G, Step.refl e2, .int _⟩
theorem i_rng1 {p : Pos} {fa : FA} {ba : Bool} (hm : X.mg "range" = none) (ha : PA' X c ba [a] fa) (hg : Gl X "range" := by rfl) (hs : starEach [a] X.env = [(false, eval a X.env)] := by rfl) : PI' X c [] tg (.Call (.Name "range" p) [a] [] pos) (fun S => fa S >>= rng1) :=
  piI (pi_range1 hg hm ha hs) fun σ H Rq ⟨G, S, rel, p⟩ => by
    refine rdA_go (g := rng1) (Post := PostI c [] G S σ H Rq) rel p (fun _ z => z) (fun z => z) fun ds vs G' H' sp q p1 => ?_
    rcases ds with _ | ⟨d1, _ | ⟨d2, dr⟩⟩
    · exact p1.elim
    · cases d1 with
      | int j =>
        have p1 : PostI c [] G S σ H Rq (if -(2 ^ 62) ≤ j ∧ j < 2 ^ 62 then .ok (rngL 0 j.toNat) else .fail) := p1
        cases q.nows with
        | cons n1 n2 =>
          cases n2
          obtain rfl := n1.int
          by_cases hj : -(2 ^ 62) ≤ j ∧ j < 2 ^ 62
          · rw [if_pos hj] at p1
            exact ⟨j, rfl, hj.1, hj.2, p1 _ G' H' sp (itm_rng 0 _)⟩
          · rw [if_neg hj] at p1; exact p1.elim
      | _ => exact p1.elim
    · cases d1 <;> exact p1.elim
theorem i_rng2 {p : Pos} {fa : FA} {ba : Bool} (hm : X.mg "range" = none) (ha : PA' X c ba [a, b] fa) (hg : Gl X "range" := by rfl) (hs : starEach [a, b] X.env = [(false, eval a X.env), (false, eval b X.env)] := by rfl) (hs2 : starEach [b] X.env = [(false, eval b X.env)] := by rfl) :
    PI' X c [] tg (.Call (.Name "range" p) [a, b] [] pos) (fun S => fa S >>= rng2) :=
  piI (pi_range2 hg hm ha hs hs2) fun σ H Rq ⟨G, S, rel, p⟩ => by
    refine rdA_go (g := rng2) (Post := PostI c [] G S σ H Rq) rel p (fun _ z => z) (fun z => z) fun ds vs G' H' sp q p1 => ?_
    rcases ds with _ | ⟨d1, _ | ⟨d2, _ | ⟨d3, dr⟩⟩⟩
    · exact p1.elim
    · cases d1 <;> exact p1.elim
    · cases d1 with
      | int i =>
        cases d2 with
        | int j =>
          have p1 : PostI c [] G S σ H Rq (if -(2 ^ 62) ≤ i ∧ i < 2 ^ 62 ∧ -(2 ^ 62) ≤ j ∧ j < 2 ^ 62 then .ok (rngL i (j - i).toNat) else .fail) := p1
          cases q.nows with
          | cons n1 n2 =>
            cases n2 with
            | cons n2 n3 =>
              cases n3
              obtain rfl := n1.int
              obtain rfl := n2.int
              by_cases hj : -(2 ^ 62) ≤ i ∧ i < 2 ^ 62 ∧ -(2 ^ 62) ≤ j ∧ j < 2 ^ 62
              · rw [if_pos hj] at p1
                exact ⟨i, j, rfl, hj, p1 _ G' H' sp (itm_rng i _)⟩
              · rw [if_neg hj] at p1; exact p1.elim
        | _ => exact p1.elim
      | _ => exact p1.elim
    · cases d1 <;> first | exact p1.elim | (cases d2 <;> exact p1.elim)
/-! ### comprehensions -/
theorem Rel.cw {c : Cf} {W : XK} {G H : Hp} {S : Env} {σ : St} (r : Rel c G S σ H) : Rel { c with W := W } G S σ H := ⟨r.st, r.len, r.fz, r.ow, r.nd⟩
theorem wipe_in {i : Nat} : ∀ {vs : List Nat} {σ : St}, i ∈ vs → i < σ.length → (L2.wipe σ vs)[i]? = some none
  | v :: vs, σ, hm, hi => by
    unfold L2.wipe
    by_cases h : v = i
    · subst h; rw [List.getElem?_set_self (by rw [wipe_length]; exact hi)]
    · rw [List.getElem?_set_ne h]
      exact wipe_in (by rcases List.mem_cons.mp hm with z | z; exact absurd z.symm h; exact z) hi
theorem wipe_eq {vs : List Nat} {σ σ' : St} (hl : σ'.length = σ.length) (h : ∀ (i : Nat), i ∉ vs → σ'[i]? = (L2.wipe σ vs)[i]?) : L2.wipe σ' vs = L2.wipe σ vs := by
  apply List.ext_getElem?
  intro i
  by_cases hm : i ∈ vs
  · by_cases hi : i < σ.length
    · rw [wipe_in hm hi, wipe_in hm (by rw [hl]; exact hi)]
    · rw [List.getElem?_eq_none (by rw [wipe_length, hl]; omega), List.getElem?_eq_none (by rw [wipe_length]; omega)]
  · rw [wipe_out hm, h i hm]
/-- the block's frame: nothing is raised -/
abbrev Cf.nx (c : Cf) : Cf := { c with W := E0 }
abbrev PTs' (X : Cx) (c : Cf) (ifs : List Expr) (t : FT) : Prop := PTs X ifs (RdT c t)
def tY : FT := fun _ => .ok true
theorem ts_n : PTs' X c [] tY := ptsI pts_nil fun σ H Q ⟨G, S, rel, p⟩ => p G H (Step.refl rel.st.gh)
theorem ts_1 (h : PT' X c a t) : PTs' X c [a] t := pts_one h
def lcF (ga : FG) (t : FT) (fe : FE) (S : Env) : List D → R (List D)
  | [] => .ok []
  | d :: ds => (ga d S).nox >>= fun S1 => (t S1).nox >>= fun b => if b then (fe S1).nox >>= fun y => lcF ga t fe S ds >>= fun ys => .ok (y :: ys) else lcF ga t fe S ds
def lcE (fi : FI) (ga : FG) (t : FT) (fe : FE) (vs : List Nat) : FE := fun S => fi S >>= fun ds => if ds.length ≤ sizeLine then lcF ga t fe (wipeS S vs) ds >>= fun ys => .ok (.lst ys) else .fail
theorem lcF_exc {ga : FG} {t : FT} {fe : FE} {S : Env} {x : Exc} : ∀ ds, lcF ga t fe S ds ≠ .exc x
  | [] => by intro h; cases h
  | d :: ds => by
    intro h
    unfold lcF at h
    cases e1 : ga d S <;> rw [e1] at h <;> first | (cases h; done) | skip
    simp only [R.nox_ok, R.ok_bind] at h
    rename_i S1
    cases e2 : t S1 <;> rw [e2] at h <;> first | (cases h; done) | skip
    simp only [R.nox_ok, R.ok_bind] at h
    rename_i b
    cases b with
    | false => exact lcF_exc ds h
    | true =>
      rw [if_pos rfl] at h
      cases e3 : fe S1 <;> rw [e3] at h <;> first | (cases h; done) | skip
      simp only [R.nox_ok, R.ok_bind] at h
      cases e4 : lcF ga t fe S ds with
      | ok ys => rw [e4] at h; cases h
      | exc y => exact lcF_exc ds e4
      | fail => rw [e4] at h; cases h
theorem lc_go {ki gs vs : List Nat} {fi : FI} {ga : FG} {fe : FE} {σ : St} {H : Hp} {Q : VK} {gi : TG} {tt : TT} {te : TE} (hg : ∀ v σ H Q, RdG c.nx gs ga v σ H Q → gi v σ H Q) (ht : ∀ σ H Q, RdT c.nx t σ H Q → tt σ H Q) (he : ∀ σ H Q, RdE c.nx .st fe σ H Q → te σ H Q)
    (hgs : ∀ i, i ∈ gs → i ∈ vs) (q : RdE c .fr (lcE fi ga t fe vs) σ H Q) : tLc (RdI c ki fi) gi tt te vs σ H Q := by
  obtain ⟨G, S, rel, p⟩ := q
  refine ⟨G, S, rel, ?_⟩
  have p : PostE c .fr G S σ H Q (fi S >>= fun ds => if ds.length ≤ sizeLine then lcF ga t fe (wipeS S vs) ds >>= fun ys => .ok (.lst ys) else .fail) := p
  cases e0 : fi S with
  | exc x => rw [e0] at p; exact p
  | fail => rw [e0] at p; exact p
  | ok ds =>
    rw [e0, R.ok_bind] at p
    by_cases hz : ds.length ≤ sizeLine
    · rw [if_pos hz] at p
      intro J G1 H1 sp it Dl hD
      have relb := ((rel.grow sp).wipe vs).cw (W := E0)
      have hD0 : H Dl = none := sp.h.free hD
      refine ⟨fun i m H2 => m = ds.length - i ∧ i ≤ ds.length ∧ ∃ G2 ac av, Step G1 H1 G2 H2 ∧ G2 Dl = none ∧ H2 Dl = some (.lst av) ∧ RDs c.k G2 ac av ∧ ac.length ≤ i ∧
          PostE c .fr G S σ H Q (lcF ga t fe (wipeS S vs) (ds.drop i) >>= fun ys => .ok (.lst (ac ++ ys))),
        ⟨_, rfl, Nat.zero_le _, G1, [], [], Step.new' sp.gh hD, sp.gh.free hD, upd_same, .nil, Nat.zero_le _, by simpa using p⟩, ?_⟩
      rintro i m H2 ⟨rfl, hle, G2, ac, av, sp2, hGD, hHD, hr, hal, p2⟩
      have rel2 : Rel c.nx G2 (wipeS S vs) (L2.wipe σ vs) H2 := relb.grow sp2
      have itm := it G2 H2 sp2.g sp2.gh fun j hj x ow => by
        obtain ⟨_, _, o, _, ho, _⟩ := (rel.grow sp).own ow
        rw [ho, sp2.h _ _ ho]
      by_cases hlt : i < ds.length
      · obtain ⟨d, hd⟩ : ∃ d, ds[i]? = some d := ⟨ds[i], List.getElem?_eq_getElem hlt⟩
        have hdrop : ds.drop i = d :: ds.drop (i + 1) := by
          rw [List.drop_eq_getElem_cons hlt]; congr 1; rw [List.getElem?_eq_getElem hlt] at hd; exact Option.some.inj hd
        rw [hdrop] at p2
        obtain ⟨hgo, hy⟩ := itm.2 i d hd
        refine .inr ⟨hgo, fun H' => ∃ G3 ac av, Step G1 H1 G3 H' ∧ G3 Dl = none ∧ H' Dl = some (.lst av) ∧ RDs c.k G3 ac av ∧ ac.length ≤ i + 1 ∧
          PostE c .fr G S σ H Q (lcF ga t fe (wipeS S vs) (ds.drop (i + 1)) >>= fun ys => .ok (.lst (ac ++ ys))), fun H' ⟨G3, r3⟩ => ⟨_, by omega, rfl, hlt, G3, r3⟩, fun x H3 hx => ?_⟩
        obtain ⟨G3, sp3, hd3⟩ := hy x H3 hx
        refine hg x _ H3 _ ⟨G3, wipeS S vs, d, rel2.grow sp3, hd3, ?_⟩
        unfold lcF at p2
        cases e1 : ga d (wipeS S vs) with
        | exc x => rw [e1] at p2; exact p2.elim
        | fail => rw [e1] at p2; exact p2.elim
        | ok S1 =>
          rw [e1, R.nox_ok, R.ok_bind] at p2
          intro G4 σ4 H4 sp4 rel4 f4
          refine ⟨wipe_eq (by rw [f4.len, wipe_length]) fun j hj => f4.sg j fun z => hj (hgs j z), ht σ4 H4 _ ⟨G4, S1, rel4, ?_⟩⟩
          cases e2 : t S1 with
          | exc x => rw [e2] at p2; exact p2.elim
          | fail => rw [e2] at p2; exact p2.elim
          | ok b =>
            rw [e2, R.nox_ok, R.ok_bind] at p2
            intro G5 H5 sp5
            have spA : Step G2 H2 G5 H5 := (sp3.trans sp4).trans sp5
            have nD : ∀ {G6 H6 : Hp}, Step G2 H2 G6 H6 → G6 Dl = none ∧ H6 Dl = some (.lst av) := fun {G6 H6} z => by
              refine ⟨?_, z.h _ _ hHD⟩
              cases q : G6 Dl with
              | none => rfl
              | some o =>
                rcases z.gr _ _ q with w | w
                · rw [hGD] at w; cases w
                · rw [hHD] at w; cases w
            cases b with
            | false =>
              rw [if_neg Bool.false_ne_true] at p2 ⊢
              exact ⟨G5, ac, av, sp2.trans spA, (nD spA).1, (nD spA).2, hr.mono spA.g, by omega, p2⟩
            | true =>
              rw [if_pos rfl] at p2 ⊢
              refine he σ4 H5 _ ⟨G5, S1, rel4.grow sp5, ?_⟩
              cases e3 : fe S1 with
              | exc x => rw [e3] at p2; exact p2.elim
              | fail => rw [e3] at p2; exact p2.elim
              | ok y =>
                rw [e3, R.nox_ok, R.ok_bind] at p2
                intro v G6 H6 sp6 hv
                have spB := spA.trans sp6
                refine ⟨av, (nD spB).2, by rw [← hr.length]; omega, ?_⟩
                have spC : Step G1 H1 G6 (upd H6 Dl (.lst (av ++ [v]))) := by
                  have z := sp2.trans spB
                  exact ⟨z.g, z.h.upd hD, z.gh.upd (nD spB).1, z.gr⟩
                refine ⟨G6, ac ++ [y], av ++ [v], spC, (nD spB).1, upd_same, (hr.mono spB.g).append (.cons hv .nil), by rw [List.length_append]; simp; omega, ?_⟩
                cases e4 : lcF ga t fe (wipeS S vs) (ds.drop (i + 1)) with
                | exc x => exact absurd e4 (lcF_exc _)
                | fail => rw [e4] at p2; exact p2.elim
                | ok ys => rw [e4] at p2; simpa using p2
      · have hi : i = ds.length := by omega
        subst hi
        rw [List.drop_length] at p2
        refine .inl ⟨itm.1 _ (Nat.le_refl _), ?_⟩
        have p2 : PostE c .fr G S σ H Q (.ok (.lst (ac ++ []))) := p2
        rw [List.append_nil] at p2
        exact p2 _ G2 H2 (sp.trans sp2) ⟨Dl, _, rfl, hGD, hD0, hHD, .lst hr⟩
    · rw [if_neg hz] at p; exact p.elim
/-- [elt for target in iter if ..] -/
theorem d_lc {elt iter : Expr} {ifs : List Expr} {scope : Scope} (own : List (Str × Nat)) {ki gs : List Nat} {fi : FI} {ga : FG} {fe : FE} (hc : X.calm = true) (hN : X.N.Nodup) (hi : PI' X c ki tg iter fi) (ok : BlkOk X.N X.env.scope scope own)
    (hg : ∀ (s : Shared) (H : Hp) (C : Addr) (cl : List (Str × Addr)) (fp : List Addr), PG' (X.blk s H scope (compEnvC scope cl C X.env) fp) c.nx gs tg ga) (ht : ∀ (s : Shared) (H : Hp) (C : Addr) (cl : List (Str × Addr)) (fp : List Addr), PTs' (X.blk s H scope (compEnvC scope cl C X.env) fp) c.nx ifs t)
    (he : ∀ (s : Shared) (H : Hp) (C : Addr) (cl : List (Str × Addr)) (fp : List Addr), PE' (X.blk s H scope (compEnvC scope cl C X.env) fp) c.nx .st elt fe) (hgs : ∀ i, i ∈ gs → i ∈ own.map (·.2) := by decide) (hs : ∀ x, foldedSetIterable iter X.env x = pure x := by intro _; rfl) :
    PE' X c .fr (.ListComp elt [⟨tg, iter, ifs, 0⟩] scope pos) (lcE fi ga t fe (own.map (·.2))) :=
  peI (pe_lc hc hN hi ok hg ht he hs) fun σ H Q q => lc_go (fun _ _ _ _ z => z) (fun _ _ _ z => z) (fun _ _ _ z => z) hgs q
/-- name = [..]: the slot owns it -/
theorem s_lc (i : Nat) {y : Str} {py spos : Pos} {elt iter : Expr} {ifs : List Expr} {scope : Scope} (own : List (Str × Nat)) {ki gs : List Nat} {fi : FI} {ga : FG} {fe : FE} (hc : X.calm = true) (hN : X.N.Nodup) (hi : PI' X c ki tg iter fi) (ok : BlkOk X.N X.env.scope scope own)
    (hg : ∀ (s : Shared) (H : Hp) (C : Addr) (cl : List (Str × Addr)) (fp : List Addr), PG' (X.blk s H scope (compEnvC scope cl C X.env) fp) c.nx gs tg ga) (ht : ∀ (s : Shared) (H : Hp) (C : Addr) (cl : List (Str × Addr)) (fp : List Addr), PTs' (X.blk s H scope (compEnvC scope cl C X.env) fp) c.nx ifs t)
    (he : ∀ (s : Shared) (H : Hp) (C : Addr) (cl : List (Str × Addr)) (fp : List Addr), PE' (X.blk s H scope (compEnvC scope cl C X.env) fp) c.nx .st elt fe) (hy : X.N[i]? = some y := by rfl) (hyl : X.env.scope.names.lookup y = some .local := by rfl)
    (hsw : swapsWith (.ListComp elt [⟨tg, iter, ifs, 0⟩] scope pos) (some (.Name y py)) spos.line X.env = pure true := by exact sw_true rfl rfl rfl (by decide +kernel)) (hgs : ∀ i, i ∈ gs → i ∈ own.map (·.2) := by decide) (hs : ∀ x, foldedSetIterable iter X.env x = pure x := by intro _; rfl) :
    PS' X c fr [i] (.Assign [.Name y py] (.ListComp elt [⟨tg, iter, ifs, 0⟩] scope pos) spos) (sOwn i (lcE fi ga t fe (own.map (·.2)))) :=
  psI (ps_setLc hc hN hy hyl hsw hi ok hg ht he hs) fun Dn σ H q => lc_go (fun _ _ _ _ z => z) (fun _ _ _ z => z) (fun _ _ _ z => z) hgs (own_go q)
end
end M
set_option Elab.async false
set_option linter.all false
set_option maxRecDepth 100000
set_option maxHeartbeats 4000000
namespace M
open PySem L2
/-! ### what a def promises -/
abbrev kdOf (fr : Bool) : Kd := if fr then .fr else .st
def PostF (k : Kn) (fr : Bool) (G0 H : Hp) (Q : VK) (E : XK) : R D → Prop
  | .ok d => ∀ v G' H', Step G0 H G' H' → Res k H G' H' d v (kdOf fr) → Q v H'
  | .exc x => PX ⟨k, H, G0, E⟩ x
  | .fail => False
def SpF (k : Kn) (fr : Bool) (n : Nat) (den : List D → R D) : Sp := fun vs H Q E => vs.length = n ∧ ∃ G0 ds, Ex G0 H ∧ RDs k G0 ds vs ∧ PostF k fr G0 H Q E (den ds)
def startS (n : Nat) (ds : List D) : Env := ds.map (fun d => some ⟨false, d⟩) ++ List.replicate (n - ds.length) none
/-- a body's end as the def's answer -/
def endF (fr : Bool) : R (Fl × Env) → R D
  | .ok (.rt d, _) => .ok d
  | .ok (.nx, _) => if fr then .fail else .ok .non
  | .ok _ => .fail
  | .exc x => .exc x
  | .fail => .fail
def runF (fr : Bool) (n : Nat) (s : FS) (ds : List D) : R D := endF fr (s (startS n ds))
theorem rel_start {c : Cf} {N : List Str} {ds : List D} {vs : List V} (e : Ex c.G0 c.H0) (r : RDs c.k c.G0 ds vs) : Rel c c.G0 (startS N.length ds) (L2.start N vs) c.H0 := by
  have own : ∀ (i : Nat) (d : D), (startS N.length ds)[i]? ≠ some (some ⟨true, d⟩) := fun i d q => by
    unfold startS at q
    rw [List.getElem?_append] at q
    split at q
    · rw [List.getElem?_map] at q
      cases h : ds[i]? <;> rw [h] at q <;> cases q
    · rw [List.getElem?_replicate] at q
      split at q <;> cases q
  refine ⟨Step.refl e, by simp [startS, L2.start, r.length], fun i d q => ?_, fun i d q => absurd q (own i d), fun i j a o => ?_⟩
  · unfold startS at q
    rw [List.getElem?_append] at q
    split at q
    · rename_i hlt
      rw [List.getElem?_map] at q
      cases h : ds[i]? with
      | none => rw [h] at q; cases q
      | some d' =>
        rw [h] at q; cases q
        obtain ⟨v, h1, h2⟩ := r.get h
        refine ⟨v, ?_, h2⟩
        unfold L2.start
        rw [List.getElem?_append_left (by rw [List.length_map]; exact (List.getElem?_eq_some_iff.mp h1).1), List.getElem?_map, h1]; rfl
    · rw [List.getElem?_replicate] at q
      split at q <;> cases q
  · obtain ⟨⟨d, q⟩, _⟩ := o
    exact absurd q (own i d)
theorem body_ok {k : Kn} {fr : Bool} {as : List Nat} {N : List Str} {X : Cx} {body : List Stmt} {s : FS} {H : Hp} {vs : List V} {Q : VK} {E : XK} {n : Nat} (hb : ∀ G0, PB' X ⟨k, H, G0, E⟩ fr as body s) (q : SpF k fr n (runF fr N.length s) vs H Q E) :
    ∃ t, PSs X body t ∧ t { nx := fun _ H' => Q .non H', rt := Q } (L2.start N vs) H := by
  obtain ⟨hl, G0, ds, e, r, p⟩ := q
  refine ⟨_, hb G0, G0, _, rel_start (c := ⟨k, H, G0, E⟩) e r, ?_⟩
  unfold runF at p
  cases e1 : s (startS N.length ds) with
  | exc x => rw [e1] at p; exact p
  | fail => rw [e1] at p; exact p.elim
  | ok z =>
    rw [e1] at p
    obtain ⟨fl, S1⟩ := z
    cases fl with
    | nx =>
      cases fr with
      | true => exact p.elim
      | false => exact fun G' σ' H' _ rel _ => p .non G' H' rel.st .non
    | bk => exact p.elim
    | ct => exact p.elim
    | rt d =>
      intro v G' H' st rv
      refine p v G' H' st ?_
      cases fr with
      | true => exact rv
      | false => exact rv
section
variable {P : Program} {w : World} {K : PySem.W.Frag} {mg : Str → Option Value} {base : Heap}
/-- a def that lets nothing out -/
theorem fn_ok {k : Kn} {fr : Bool} {as : List Nat} {x qual : Str} {params : Arguments} {body : List Stmt} {scope : Scope} {dvs : List V} {kws : List (Str × V)} {f : Addr} {fd : FuncData} {N ps : List Str} {lv : Nat} {s : FS} (F : FunD K x qual params body scope dvs kws f fd) (S : FnScope N ps scope)
    (hb : ∀ (cdv : Value) (A : Around) (outer : List PySem.Env) (sh : Shared) (H G0 : Hp), Room lv (A.deeper (PyProof.Rows.envOfC qual scope sh.heap.objs.size f cdv)) → PB' (cxOf CX0 P w K mg base N qual scope f cdv A outer sh H E0).nox ⟨k, H, G0, E0⟩ fr as body s) :
    FnOk P w K mg base CX0 (lv + 1) f fd ps (SpF k fr ps.length (fun ds => (runF fr N.length s ds).nox)) := by
  refine F.ok S (fun vs H Q E q => q.1) fun cdv A outer sh H vs Q E hr q => ?_
  have q' : SpF k fr ps.length (runF fr N.length s) vs H Q E0 := by
    obtain ⟨hl, G0, ds, e, r, p⟩ := q
    refine ⟨hl, G0, ds, e, r, ?_⟩
    dsimp only at p
    cases e1 : runF fr N.length s ds with
    | ok d => rw [e1] at p; exact p
    | exc x => rw [e1] at p; exact p.elim
    | fail => rw [e1] at p; exact p.elim
  obtain ⟨t, h1, h2⟩ := body_ok (X := (cxOf CX0 P w K mg base N qual scope f cdv A outer sh H E0).nox) (fun G0 => hb cdv A outer sh H G0 hr) q'
  exact ⟨t, h1.nox, h2⟩
end
/-- a def that is called: it lets nothing out -/
structure Fn0 (X : Cx) (k : Kn) (x : Str) (n : Nat) (fr : Bool) (den : List D → R D) : Prop where
  ex : ∃ (f : Addr) (fd : FuncData) (lv : Nat) (ps : List Str), ps.length = n ∧ FnOk X.prog X.w X.K X.mg X.base CX0 lv f fd ps (SpF k fr n den) ∧ Room lv X.A ∧ X.mg x = some (.ref f) ∧ PySem.W.keepIn X.K (.ref f) = true ∧ Binds X.K fd ps []
section
variable {X : Cx} {c : Cf} {kd k1 k2 k3 : Kd} {a b e : Expr} {pos : Pos} {fr : Bool} {den : List D → R D}
/-- the call's end among the caller's things -/
theorem call_go {n : Nat} {fa : FA} {σ : St} {H : Hp} {Q : VK} (hl : ∀ S ds, fa S = .ok ds → ds.length = n) (q : RdE c (kdOf fr) (eC den fa) σ H Q) : RdA c false fa σ H fun vs H1 => SpF c.k fr n den (vs ++ []) H1 Q E0 := by
  obtain ⟨G, S, rel, p⟩ := q
  have p : PostE c (kdOf fr) G S σ H Q (fa S >>= fun ds => (den ds).nox) := p
  refine ⟨G, S, rel, ?_⟩
  cases e0 : fa S with
  | exc x => rw [e0] at p; exact p
  | fail => rw [e0] at p; exact p
  | ok ds =>
    rw [e0] at p
    intro vs G1 H1 s1 q1
    have q1 : RDs c.k G1 ds vs := q1
    rw [List.append_nil]
    refine ⟨by rw [← q1.length]; exact hl S ds e0, G1, ds, s1.gh, q1, ?_⟩
    have p : PostE c (kdOf fr) G S σ H Q (den ds).nox := p
    cases e1 : den ds with
    | ok d => rw [e1] at p; exact fun v G' H' s2 r2 => p v G' H' (s1.trans s2) (r2.mono s1.h)
    | exc x => rw [e1] at p; exact p.elim
    | fail => rw [e1] at p; exact p.elim
/-- what an argument list's length is -/
def Len (n : Nat) (fa : FA) : Prop := ∀ S ds, fa S = .ok ds → ds.length = n
theorem len_n : Len 0 aN := fun S ds h => by cases h; rfl
theorem len_c {n : Nat} {f : FE} {fa : FA} (h : Len n fa) : Len (n + 1) (aC f fa) := fun S ds q => by
  unfold aC at q
  cases e1 : f S with
  | exc x => rw [e1] at q; cases q
  | fail => rw [e1] at q; cases q
  | ok d =>
    rw [e1] at q
    have q : (fa S >>= fun xs => R.ok (d :: xs)) = .ok ds := q
    cases e2 : fa S with
    | exc x => rw [e2] at q; cases q
    | fail => rw [e2] at q; cases q
    | ok xs => rw [e2] at q; cases q; simp [h S xs e2]
theorem d_call {x : Str} {n : Nat} {p : Pos} {es : List Expr} {fa : FA} (F : Fn0 X c.k x n fr den) (ha : PA' X c false (e :: es) fa) (hl : Len n fa) (hg : Gl X x := by rfl) (hdb : (x == ("__debug__" : Str)) = false := by decide)
    (hs : starEach (e :: es) X.env = (false, eval e X.env) :: starEach es X.env := by rfl) (hs2 : ((backTo pos (starEach es X.env)).any fun x => x.1) = false := by rfl) : PE' X c (kdOf fr) (.Call (.Name x p) (e :: es) [] pos) (eC den fa) := by
  obtain ⟨f, fd, lv, ps, hn, ok, hr, hm, hk, hb⟩ := F.ex
  exact peI (pe_call ok hr hg hm hk hb .nil pass0 ha hdb hs hs2) fun σ H Q q => call_go hl q
/-! ### arguments that a slot owns: the callee's answer holds nothing of its kind -/
mutual
/-- no list, no dict within -/
def D.noMut : D → Bool
  | .lst _ => false
  | .dic _ _ => false
  | .dit _ _ => false
  | .tup xs => D.noMuts xs
  | .obj _ _ => false
  | .scr _ => false
  | _ => true
def D.noMuts : List D → Bool
  | [] => true
  | x :: xs => x.noMut && D.noMuts xs
end
/-- what the slots own stands apart from G -/
noncomputable def cut (S : Env) (σ : St) (H : Hp) : Hp := fun b => open Classical in if ∃ i, OwnAt S σ i b then none else H b
theorem cut_own {S : Env} {σ : St} {H : Hp} {i : Nat} {a : Addr} (h : OwnAt S σ i a) : cut S σ H a = none := by unfold cut; rw [if_pos ⟨i, h⟩]
theorem cut_of {S : Env} {σ : St} {H : Hp} {b : Addr} {o : HO} (h : cut S σ H b = some o) : H b = some o ∧ ∀ i, ¬ OwnAt S σ i b := by
  unfold cut at h
  split at h
  · cases h
  · rename_i hn; exact ⟨h, fun i q => hn ⟨i, q⟩⟩
theorem cut_get {S : Env} {σ : St} {H : Hp} {b : Addr} (h : ∀ i, ¬ OwnAt S σ i b) : cut S σ H b = H b := by
  unfold cut; rw [if_neg (fun ⟨i, q⟩ => h i q)]
theorem Cont.notup {k : Kn} {G : Hp} {d : D} {o : HO} (c : Cont k G d o) : (∀ vs, o ≠ .tup vs) ∧ (∀ q vs, o ≠ .frz q vs) := by
  cases c <;> exact ⟨fun _ z => (by cases z), fun _ _ z => (by cases z)⟩
mutual
theorem RD.cut {c : Cf} {G H H' : Hp} {S : Env} {σ : St} (rel : Rel c G S σ H) (e : Ex H H') : ∀ {d : D} {v : V}, RD c.k H' d v → d.noMut = true → RD c.k (M.cut S σ H') d v
  | _, _, .non, _ => .non
  | _, _, .bl b, _ => .bl b
  | _, _, .int b, _ => .int b
  | _, _, .str b, _ => .str b
  | _, _, .ty b, _ => .ty b
  | _, _, .cls b, _ => .cls b
  | _, _, .tup h r, q => by
    simp only [D.noMut] at q
    refine .tup ?_ (RDs.cut rel e r q)
    rcases h with h | h
    · refine .inl ?_
      rw [cut_get]; exact h
      intro i ow
      obtain ⟨_, _, o, d, ho, _, ct⟩ := rel.own ow
      have := e _ _ ho
      rw [h] at this; cases this
      exact ct.notup.1 _ rfl
    · exact .inr h
  | _, _, .scr _, q => by simp [D.noMut] at q
  | _, _, .lst _ _, q => by simp [D.noMut] at q
  | _, _, .dic _ _ _, q => by simp [D.noMut] at q
  | _, _, .dit _ _ _, q => by simp [D.noMut] at q
  | _, _, .obj _ _ _, q => by simp [D.noMut] at q
theorem RDs.cut {c : Cf} {G H H' : Hp} {S : Env} {σ : St} (rel : Rel c G S σ H) (e : Ex H H') : ∀ {ds : List D} {vs : List V}, RDs c.k H' ds vs → D.noMuts ds = true → RDs c.k (M.cut S σ H') ds vs
  | _, _, .nil, _ => .nil
  | _, _, .cons a b, q => by
    simp only [D.noMuts, Bool.and_eq_true] at q
    exact .cons (RD.cut rel e a q.1) (RDs.cut rel e b q.2)
end
end
end M
set_option Elab.async false
set_option linter.all false
set_option maxRecDepth 100000
set_option maxHeartbeats 4000000
namespace M
open PySem L2
section
variable {X : Cx} {k : Kn}
theorem CallR.or {f : Value} {r r' : List V → Hp → VK → Prop} (h : CallR X f r) (h' : CallR X f r') : CallR X f (fun xs H Q => r xs H Q ∨ r' xs H Q) := fun pins s σ H xs us Q I rx q => by
  rcases q with q | q
  · exact h pins s σ H xs us Q I rx q
  · exact h' pins s σ H xs us Q I rx q
/-- a built-in of one argument -/
theorem cl1 {f : Value} {kd : Kd} {g : D → R D} {r : List V → Hp → VK → Prop} (h : CallR X f r) (q : ∀ G H x v d, Ex G H → Now k G H x v → g x = .ok d → ∀ Q : VK, (∀ w G' H', Step G H G' H' → Res k H G' H' d w kd → Q w H') → r [v] H Q) :
    ClR X k f kd (fun xs => match xs with | [x] => g x | _ => .fail) := by
  refine ⟨r, h, ?_⟩
  intro G H ds vs d e ns hg Q p
  cases ns with
  | nil => cases hg
  | cons n1 n2 =>
    cases n2 with
    | nil => exact q G H _ _ d e n1 hg Q p
    | cons _ _ => cases hg
theorem cl2 {f : Value} {kd : Kd} {g : D → D → R D} {r : List V → Hp → VK → Prop} (h : CallR X f r) (q : ∀ G H x v y u d, Ex G H → Now k G H x v → Now k G H y u → g x y = .ok d → ∀ Q : VK, (∀ w G' H', Step G H G' H' → Res k H G' H' d w kd → Q w H') → r [v, u] H Q) :
    ClR X k f kd (fun xs => match xs with | [x, y] => g x y | _ => .fail) := by
  refine ⟨r, h, ?_⟩
  intro G H ds vs d e ns hg Q p
  cases ns with
  | nil => cases hg
  | cons n1 n2 =>
    cases n2 with
    | nil => cases hg
    | cons n2 n3 =>
      cases n3 with
      | nil => exact q G H _ _ _ _ d e n1 n2 hg Q p
      | cons _ _ => cases hg
def f1 (g : D → R D) : List D → R D := fun xs => match xs with | [x] => g x | _ => .fail
def f2 (g : D → D → R D) : List D → R D := fun xs => match xs with | [x, y] => g x y | _ => .fail
/-! ### len, abs, int, min, max, sum, any, all -/
def lenD : D → R D
  | .str x => if x.length ≤ sizeLine then .ok (.int x.length) else .fail
  | .lst xs => .ok (.int xs.length)
  | .tup xs => .ok (.int xs.length)
  | .scr ns => .ok (.int ns.length)
  | .dic ks _ => .ok (.int ks.length)
  | _ => .fail
theorem c_len (hk : k.K = X.K) : ClR X k (.builtin "len") .st (f1 lenD) := cl1 (call_len.or call_lenD) fun G H x v d e n hg Q p => by
  unfold lenD at hg
  split at hg
  · split at hg
    · rename_i hl
      cases hg; obtain rfl := n.str
      exact .inl ⟨_, _, rfl, ⟨hl, rfl⟩, p _ G H (Step.refl e) (.int _)⟩
    · cases hg
  · cases hg; obtain ⟨a, vs, rfl, ha, r⟩ := n.lst e
    exact .inl ⟨_, _, rfl, .inl ⟨vs, SqL.of ha, rfl⟩, by rw [← r.length]; exact p _ G H (Step.refl e) (.int _)⟩
  · cases hg; obtain ⟨a, vs, rfl, ha, r⟩ := n.tup
    exact .inl ⟨_, _, rfl, .inr ⟨vs, hk ▸ e.sqT ha.t, rfl⟩, by rw [← r.length]; exact p _ G H (Step.refl e) (.int _)⟩
  · cases hg; obtain ⟨a, rfl, ha⟩ := n.scr
    exact .inl ⟨_, _, rfl, .inl ⟨_, hk ▸ e.sqL ha, rfl⟩, by rw [List.length_map]; exact p _ G H (Step.refl e) (.int _)⟩
  · cases hg; obtain ⟨a, vs, rfl, ha, l, r⟩ := n.dic e
    refine .inr ⟨a, _, rfl, ha, ?_⟩
    rw [List.length_zip, ← r.length, ← l, Nat.min_self]; exact p _ G H (Step.refl e) (.int _)
  · cases hg
def absD : D → R D
  | .int i => .ok (.int (if i < 0 then -i else i))
  | _ => .fail
theorem c_abs : ClR X k (.builtin "abs") .st (f1 absD) := cl1 call_abs fun G H x v d e n hg Q p => by
  cases x <;> simp only [absD] at hg <;> first | (cases hg; done) | skip
  cases hg; obtain rfl := n.int
  exact ⟨_, rfl, p _ G H (Step.refl e) (.int _)⟩
def intD : D → R D
  | .int i => .ok (.int i)
  | .bl b => .ok (.int (if b then 1 else 0))
  | _ => .fail
theorem c_int : ClR X k (.type "int") .st (f1 intD) := cl1 call_int1 fun G H x v d e n hg Q p => by
  cases x <;> simp only [intD] at hg <;> first | (cases hg; done) | skip
  · cases hg; obtain rfl := n.bl
    exact .inr ⟨_, rfl, p _ G H (Step.refl e) (.int _)⟩
  · cases hg; obtain rfl := n.int
    exact .inl ⟨_, rfl, p _ G H (Step.refl e) (.int _)⟩
def strD : D → R D
  | .int i => if i.natAbs.log2 < 1920 then .ok (.str (toString i)) else .fail
  | _ => .fail
theorem c_str : ClR X k (.type "str") .st (f1 strD) := cl1 call_str_int fun G H x v d e n hg Q p => by
  cases x <;> simp only [strD] at hg <;> first | (cases hg; done) | skip
  split at hg
  · rename_i hl
    cases hg; obtain rfl := n.int
    exact ⟨_, rfl, hl, p _ G H (Step.refl e) (.str _)⟩
  · cases hg
def max2D : D → D → R D
  | .int i, .int j => .ok (.int (if j > i then j else i))
  | _, _ => .fail
theorem c_max2 (hc : X.calm = true) : ClR X k (.builtin "max") .st (f2 max2D) := cl2 (call_max2 hc) fun G H x v y u d e n m hg Q p => by
  unfold max2D at hg
  split at hg
  · cases hg; obtain rfl := n.int; obtain rfl := m.int
    exact ⟨_, _, rfl, p _ G H (Step.refl e) (.int _)⟩
  · cases hg
def min2D : D → D → R D
  | .int i, .int j => .ok (.int (if j < i then j else i))
  | _, _ => .fail
theorem c_min2 (hc : X.calm = true) : ClR X k (.builtin "min") .st (f2 min2D) := cl2 (call_min2 hc) fun G H x v y u d e n m hg Q p => by
  unfold min2D at hg
  split at hg
  · cases hg; obtain rfl := n.int; obtain rfl := m.int
    exact ⟨_, _, rfl, p _ G H (Step.refl e) (.int _)⟩
  · cases hg
/-- a list of ints, of bools, of texts -/
def asI : List D → Option (List Int)
  | [] => some []
  | .int i :: r => (asI r).map (i :: ·)
  | _ => none
def asB : List D → Option (List Bool)
  | [] => some []
  | .bl i :: r => (asB r).map (i :: ·)
  | _ => none
def asS : List D → Option (List Str)
  | [] => some []
  | .str i :: r => (asS r).map (i :: ·)
  | _ => none
theorem asI_of {G : Hp} : ∀ {ds : List D} {vs : List V} {ns : List Int}, RDs k G ds vs → asI ds = some ns → vs = ns.map V.int
  | _, _, ns, .nil, h => by cases h; rfl
  | _, _, ns, .cons a b, h => by
    cases a with
    | int i =>
      simp only [asI, Option.map_eq_some_iff] at h
      obtain ⟨r, h1, rfl⟩ := h
      rw [asI_of b h1]; rfl
    | _ => simp [asI] at h
theorem asB_of {G : Hp} : ∀ {ds : List D} {vs : List V} {ns : List Bool}, RDs k G ds vs → asB ds = some ns → vs = ns.map V.bl
  | _, _, ns, .nil, h => by cases h; rfl
  | _, _, ns, .cons a b, h => by
    cases a with
    | bl i =>
      simp only [asB, Option.map_eq_some_iff] at h
      obtain ⟨r, h1, rfl⟩ := h
      rw [asB_of b h1]; rfl
    | _ => simp [asB] at h
theorem asS_of {G : Hp} : ∀ {ds : List D} {vs : List V} {ns : List Str}, RDs k G ds vs → asS ds = some ns → vs = ns.map V.str
  | _, _, ns, .nil, h => by cases h; rfl
  | _, _, ns, .cons a b, h => by
    cases a with
    | str i =>
      simp only [asS, Option.map_eq_some_iff] at h
      obtain ⟨r, h1, rfl⟩ := h
      rw [asS_of b h1]; rfl
    | _ => simp [asS] at h
@[simp] theorem asI_map (ns : List Int) : asI (ns.map D.int) = some ns := by
  induction ns with
  | nil => rfl
  | cons n ns ih => simp [asI, ih]
@[simp] theorem asB_map (ns : List Bool) : asB (ns.map D.bl) = some ns := by
  induction ns with
  | nil => rfl
  | cons n ns ih => simp [asB, ih]
@[simp] theorem asS_map (ns : List Str) : asS (ns.map D.str) = some ns := by
  induction ns with
  | nil => rfl
  | cons n ns ih => simp [asS, ih]
def sumD : D → R D
  | .lst ds => match asI ds with | some ns => .ok (.int ns.sum) | none => .fail
  | _ => .fail
theorem c_sum (hc : X.calm = true) : ClR X k (.builtin "sum") .st (f1 sumD) := cl1 (cr_sum hc) fun G H x v d e n hg Q p => by
  cases x <;> simp only [sumD] at hg <;> first | (cases hg; done) | skip
  split at hg
  · rename_i ns hn
    cases hg; obtain ⟨a, vs, rfl, ha, r⟩ := n.lst e
    have := asI_of r hn; subst this
    exact ⟨a, ns, rfl, SqL.of ha, p _ G H (Step.refl e) (.int _)⟩
  · cases hg
def anyD : D → R D
  | .lst ds => match asB ds with | some ns => .ok (.bl (ns.any id)) | none => .fail
  | _ => .fail
theorem c_any (hc : X.calm = true) : ClR X k (.builtin "any") .st (f1 anyD) := cl1 (cr_any hc) fun G H x v d e n hg Q p => by
  cases x <;> simp only [anyD] at hg <;> first | (cases hg; done) | skip
  split at hg
  · rename_i ns hn
    cases hg; obtain ⟨a, vs, rfl, ha, r⟩ := n.lst e
    have := asB_of r hn; subst this
    exact ⟨a, ns, rfl, SqL.of ha, p _ G H (Step.refl e) (.bl _)⟩
  · cases hg
def allD : D → R D
  | .lst ds => match asB ds with | some ns => .ok (.bl (ns.all id)) | none => .fail
  | _ => .fail
theorem c_all (hc : X.calm = true) : ClR X k (.builtin "all") .st (f1 allD) := cl1 (cr_all hc) fun G H x v d e n hg Q p => by
  cases x <;> simp only [allD] at hg <;> first | (cases hg; done) | skip
  split at hg
  · rename_i ns hn
    cases hg; obtain ⟨a, vs, rfl, ha, r⟩ := n.lst e
    have := asB_of r hn; subst this
    exact ⟨a, ns, rfl, SqL.of ha, p _ G H (Step.refl e) (.bl _)⟩
  · cases hg
/-- the greatest, the least of a list of ints -/
def maxL : List Int → Int
  | [] => 0
  | x :: r => r.foldl (fun a b => if b > a then b else a) x
def minL : List Int → Int
  | [] => 0
  | x :: r => r.foldl (fun a b => if b < a then b else a) x
theorem maxL_fold : ∀ (r : List Int) (x : Int), (∀ y, y ∈ x :: r → y ≤ r.foldl (fun a b => if b > a then b else a) x) ∧ r.foldl (fun a b => if b > a then b else a) x ∈ x :: r
  | [], x => by simp
  | y :: r, x => by
    simp only [List.foldl_cons]
    by_cases h : y > x
    · rw [if_pos h]
      obtain ⟨h1, h2⟩ := maxL_fold r y
      refine ⟨fun z hz => ?_, List.mem_cons_of_mem _ h2⟩
      rcases List.mem_cons.mp hz with rfl | hz
      · have := h1 y (by simp); omega
      · exact h1 z hz
    · rw [if_neg h]
      obtain ⟨h1, h2⟩ := maxL_fold r x
      refine ⟨fun z hz => ?_, ?_⟩
      · rcases List.mem_cons.mp hz with rfl | hz
        · exact h1 z (by simp)
        · rcases List.mem_cons.mp hz with rfl | hz
          · have := h1 x (by simp); omega
          · exact h1 z (by simp [hz])
      · rcases List.mem_cons.mp h2 with z | z
        · rw [z]; simp
        · exact List.mem_cons_of_mem _ (List.mem_cons_of_mem _ z)
theorem minL_fold : ∀ (r : List Int) (x : Int), (∀ y, y ∈ x :: r → r.foldl (fun a b => if b < a then b else a) x ≤ y) ∧ r.foldl (fun a b => if b < a then b else a) x ∈ x :: r
  | [], x => by simp
  | y :: r, x => by
    simp only [List.foldl_cons]
    by_cases h : y < x
    · rw [if_pos h]
      obtain ⟨h1, h2⟩ := minL_fold r y
      refine ⟨fun z hz => ?_, List.mem_cons_of_mem _ h2⟩
      rcases List.mem_cons.mp hz with rfl | hz
      · have := h1 y (by simp); omega
      · exact h1 z hz
    · rw [if_neg h]
      obtain ⟨h1, h2⟩ := minL_fold r x
      refine ⟨fun z hz => ?_, ?_⟩
      · rcases List.mem_cons.mp hz with rfl | hz
        · exact h1 z (by simp)
        · rcases List.mem_cons.mp hz with rfl | hz
          · have := h1 x (by simp); omega
          · exact h1 z (by simp [hz])
      · rcases List.mem_cons.mp h2 with z | z
        · rw [z]; simp
        · exact List.mem_cons_of_mem _ (List.mem_cons_of_mem _ z)
def maxD : D → R D
  | .lst ds => match asI ds with | some (n :: ns) => .ok (.int (maxL (n :: ns))) | _ => .fail
  | _ => .fail
theorem c_max (hc : X.calm = true) : ClR X k (.builtin "max") .st (f1 maxD) := cl1 (cr_max hc) fun G H x v d e n hg Q p => by
  cases x <;> simp only [maxD] at hg <;> first | (cases hg; done) | skip
  split at hg
  · rename_i n0 ns hn
    cases hg; obtain ⟨a, vs, rfl, ha, r⟩ := n.lst e
    have := asI_of r hn; subst this
    refine ⟨a, n0 :: ns, rfl, SqL.of ha, by simp, fun m hm hle => ?_⟩
    have q := maxL_fold ns n0
    have : m = maxL (n0 :: ns) := Int.le_antisymm (q.1 m hm) (hle _ q.2)
    rw [this]; exact p _ G H (Step.refl e) (.int _)
  · cases hg
def minD : D → R D
  | .lst ds => match asI ds with | some (n :: ns) => .ok (.int (minL (n :: ns))) | _ => .fail
  | _ => .fail
theorem c_min (hc : X.calm = true) : ClR X k (.builtin "min") .st (f1 minD) := cl1 (cr_min hc) fun G H x v d e n hg Q p => by
  cases x <;> simp only [minD] at hg <;> first | (cases hg; done) | skip
  split at hg
  · rename_i n0 ns hn
    cases hg; obtain ⟨a, vs, rfl, ha, r⟩ := n.lst e
    have := asI_of r hn; subst this
    refine ⟨a, n0 :: ns, rfl, SqL.of ha, by simp, fun m hm hle => ?_⟩
    have q := minL_fold ns n0
    have : m = minL (n0 :: ns) := Int.le_antisymm (hle _ q.2) (q.1 m hm)
    rw [this]; exact p _ G H (Step.refl e) (.int _)
  · cases hg
/-! ### tuple(..), list(..) -/
def tupD : D → R D
  | .lst ds => .ok (.tup ds)
  | .tup ds => .ok (.tup ds)
  | _ => .fail
theorem c_tup (hk : k.K = X.K) : ClR X k (.type "tuple") .st (f1 tupD) := cl1 call_tuple_of fun G H x v d e n hg Q p => by
  cases x <;> simp only [tupD] at hg <;> first | (cases hg; done) | skip
  · cases hg; obtain ⟨a, vs, rfl, ha, r⟩ := n.tup
    exact ⟨a, vs, rfl, .inr ⟨hk ▸ e.sqT ha.t, p _ G H (Step.refl e) (.tup ha r)⟩⟩
  · cases hg; obtain ⟨a, vs, rfl, ha, r⟩ := n.lst e
    exact ⟨a, vs, rfl, .inl ⟨SqL.of ha, fun l hl => p _ _ _ (Step.new e hl) (.tup (SqU.of upd_same) (r.mono (Ex.new (e.free hl))))⟩⟩
def lstD : D → R D
  | .lst ds => .ok (.lst ds)
  | .tup ds => .ok (.lst ds)
  | _ => .fail
theorem c_lst (hk : k.K = X.K) : ClR X k (.type "list") .fr (f1 lstD) := cl1 call_list_of fun G H x v d e n hg Q p => by
  cases x <;> simp only [lstD] at hg <;> first | (cases hg; done) | skip
  · cases hg; obtain ⟨a, vs, rfl, ha, r⟩ := n.tup
    exact ⟨a, vs, rfl, .inr (hk ▸ e.sqT ha.t), fun l hl => p _ _ _ (Step.new' e hl) ⟨l, _, rfl, e.free hl, hl, upd_same, .lst r⟩⟩
  · cases hg; obtain ⟨a, vs, rfl, ha, r⟩ := n.lst e
    exact ⟨a, vs, rfl, .inl (SqL.of ha), fun l hl => p _ _ _ (Step.new' e hl) ⟨l, _, rfl, e.free hl, hl, upd_same, .lst r⟩⟩
/-! ### in -/
def flatD : D → Bool
  | .non => true
  | .bl _ => true
  | .int _ => true
  | .str _ => true
  | _ => false
theorem RD.flat {G : Hp} {d : D} {v : V} (r : RD k G d v) (h : flatD d = true) : flatV v = true := by
  cases r <;> first | rfl | (simp [flatD] at h; done)
theorem RDs.flat {G : Hp} : ∀ {ds : List D} {vs : List V}, RDs k G ds vs → ds.all flatD = true → vs.all flatV = true
  | _, _, .nil, _ => rfl
  | _, _, .cons a b, h => by
    simp only [List.all_cons, Bool.and_eq_true] at h ⊢
    exact ⟨a.flat h.1, RDs.flat b h.2⟩
theorem RD.eqV {G : Hp} {d d' : D} {v v' : V} (r : RD k G d v) (r' : RD k G d' v') (h : flatD d = true) (h' : flatD d' = true) : L2.eqV v v' = deq d d' := by
  cases r <;> first | (simp [flatD] at h; done) | skip
  all_goals (cases r' <;> first | (simp [flatD] at h'; done) | (simp [L2.eqV, deq]; done))
theorem RDs.inV {G : Hp} {x : D} {u : V} (r : RD k G x u) (hx : flatD x = true) : ∀ {ds : List D} {vs : List V}, RDs k G ds vs → ds.all flatD = true → L2.inV u vs = ds.any fun z => deq z x
  | _, _, .nil, _ => rfl
  | _, _, .cons a b, h => by
    simp only [List.all_cons, Bool.and_eq_true] at h
    have ih := RDs.inV r hx b h.2
    simp only [L2.inV, List.any_cons] at ih ⊢
    rw [ih, a.eqV r h.1 hx]
theorem toPs_any (n : Nat) (x : D) (hx : dok n x = true) : ∀ {ds : List D} {m : Nat}, doks m ds = true → ((D.toPs ds).any fun z => PyData.eqv z x.toP) = ds.any fun z => deq z x
  | [], _, _ => by simp [D.toPs]
  | d :: ds, m, h => by
    simp only [doks, Bool.and_eq_true] at h
    simp only [D.toPs, List.any_cons]
    rw [toPs_any n x hx h.2, deq_eqv m n d x h.1 hx]
/-- is x, one sign, in the text -/
def signD : D → Str → Option Bool
  | .str a, z => match a.cps.toList with
    | [c] => some (decide (c ∈ z.cps.toList))
    | _ => none
  | _, _ => none
theorem signD_of {x : D} {z : Str} {b : Bool} (h : signD x z = some b) : ∃ c, x = .str ⟨#[c]⟩ ∧ b = decide (c ∈ z.cps.toList) := by
  cases x with
  | str a =>
    simp only [signD] at h
    split at h
    · rename_i c hc
      cases h
      obtain ⟨⟨l⟩⟩ := a
      cases hc
      exact ⟨c, rfl, rfl⟩
    · cases h
  | _ => simp [signD] at h
/-- is x among the items; flat ones, or (in a list) any data -/
def inD' (x : D) : D → Option Bool
  | .lst ds => if flatD x && ds.all flatD then some (ds.any fun z => deq z x) else if dok 60 x && doks 59 ds then some (ds.any fun z => deq z x) else none
  | .tup ds => if flatD x && ds.all flatD then some (ds.any fun z => deq z x) else none
  | .str z => signD x z
  | _ => none
def inD (x y : D) : R D := match inD' x y with | some b => .ok (.bl b) | none => .fail
def notInD (x y : D) : R D := match inD' x y with | some b => .ok (.bl (!b)) | none => .fail
def rSign (neg : Bool) : R2 := fun x y H Q => ∃ (c : Nat) (z : Str), x = .str ⟨#[c]⟩ ∧ y = .str z ∧ Q (.bl (if neg = true then !decide (c ∈ z.cps.toList) else decide (c ∈ z.cps.toList))) H
theorem in_go {neg : Bool} (hk : k.K = X.K) {G H : Hp} {x y : D} {u v : V} {b : Bool} {Q : VK} (e : Ex G H) (nx : Now k G H x u) (ny : Now k G H y v) (hg : inD' x y = some b) (q : Q (.bl (if neg = true then !b else b)) H) :
    (rIn X.K neg u v H Q ∨ ∃ d ds, Dp X.K H u d ∧ Dp X.K H v (.list ds) ∧ SeqAt.shaped d = true ∧ SeqAt.shaped (.list ds) = true ∧ Q (.bl (if neg = true then !(ds.any fun z => PyData.eqv z d) else ds.any fun z => PyData.eqv z d)) H) ∨ rSign neg u v H Q := by
  cases y with
  | str z =>
    simp only [inD'] at hg
    obtain ⟨c, rfl, rfl⟩ := signD_of hg
    obtain rfl := nx.str
    obtain rfl := ny.str
    exact .inr ⟨c, z, rfl, rfl, q⟩
  | lst ds =>
    simp only [inD'] at hg
    obtain ⟨a, vs, rfl, ha, r⟩ := ny.lst e
    split at hg
    · rename_i hf
      simp only [Bool.and_eq_true] at hf
      cases hg
      have rx := nx.rd e
      have r' := r.mono e
      exact .inl <| .inl ⟨a, vs, rfl, .inl (SqL.of ha), rx.flat hf.1, r'.flat hf.2, by rw [RDs.inV rx hf.1 r' hf.2]; exact q⟩
    · split at hg
      · rename_i hf
        simp only [Bool.and_eq_true] at hf
        cases hg
        have hl : dok 60 (.lst ds) = true := by simp only [dok]; exact hf.2
        have ds' : SeqAt.shaped (.list (D.toPs ds)) = true := by
          have := dok_shaped hl
          simpa only [D.toP] using this
        exact .inl <| .inr ⟨x.toP, D.toPs ds, hk ▸ (nx.rd e).dp 60 hf.1, hk ▸ .lst (SqL.of ha) ((r.mono e).dp 59 hf.2), dok_shaped hf.1, ds', by rw [toPs_any 60 x hf.1 hf.2]; exact q⟩
      · cases hg
  | tup ds =>
    simp only [inD'] at hg
    obtain ⟨a, vs, rfl, ha, r⟩ := ny.tup
    split at hg
    · rename_i hf
      simp only [Bool.and_eq_true] at hf
      cases hg
      have rx := nx.rd e
      have r' := r.mono e
      exact .inl <| .inl ⟨a, vs, rfl, .inr (hk ▸ e.sqT ha.t), rx.flat hf.1, r'.flat hf.2, by rw [RDs.inV rx hf.1 r' hf.2]; exact q⟩
    · cases hg
  | _ => simp [inD'] at hg
theorem o_in (hk : k.K = X.K) (hu : X.A.units + 65 < cLine) : Op2 X k (compareOp .In) .st inD := by
  refine ⟨_, (op_in_seq.or (op_inD hu)).or op_in_sign, ?_⟩
  intro G H x y u v d e nx ny hg Q q
  unfold inD at hg
  split at hg
  · rename_i b hb
    cases hg
    exact in_go (neg := false) hk e nx ny hb (q _ G H (Step.refl e) (.bl _))
  · cases hg
theorem o_notin (hk : k.K = X.K) (hu : X.A.units + 65 < cLine) : Op2 X k (compareOp .NotIn) .st notInD := by
  refine ⟨_, (op_notIn_seq.or (op_notInD hu)).or op_notIn_sign, ?_⟩
  intro G H x y u v d e nx ny hg Q q
  unfold notInD at hg
  split at hg
  · rename_i b hb
    cases hg
    exact in_go (neg := true) hk e nx ny hb (q _ G H (Step.refl e) (.bl _))
  · cases hg
end
end M
set_option Elab.async false
set_option linter.all false
set_option maxRecDepth 100000
set_option maxHeartbeats 4000000
namespace M
open PySem L2
section
variable {X : Cx} {c : Cf} {kd k1 k2 k3 : Kd} {a b e : Expr} {f g h : FE} {pos apos cpos p' : Pos} {fr : Bool} {x : Str}
/-! ### x.append(e), x.extend(e), y = x.pop(), x[i] = e -/
def ownL (i : Nat) (S : Env) : R (List D) := match S[i]? with
  | some (some ⟨true, .lst ds⟩) => .ok ds
  | _ => .fail
theorem ownL_of {i : Nat} {S : Env} {ds : List D} (h : ownL i S = .ok ds) : S[i]? = some (some ⟨true, .lst ds⟩) := by
  unfold ownL at h
  split at h
  · cases h; assumption
  · cases h
theorem ownL_exc {i : Nat} {S : Env} {x : Exc} : ownL i S ≠ .exc x := by unfold ownL; split <;> intro h <;> cases h
def sApp (i : Nat) (f : FE) : FS := fun S => ownL i S >>= fun ds => f S >>= fun d => if ds.length < sizeLine then .ok (.nx, S.set i (some ⟨true, .lst (ds ++ [d])⟩)) else .fail
theorem s_app (i : Nat) (he : PE' X c .st e f) (hN : X.N[i]? = some x := by rfl) (hv : Vis X.env.scope x := by first | exact Or.inl rfl | exact Or.inr (Or.inl rfl) | exact Or.inr (Or.inr rfl)) (hd : (x == ("__debug__" : Str)) = false := by decide)
    (hcd : (x == ("__classdict__" : Str)) = false := by decide) (h2 : (apos.endLine == cpos.line) = true := by rfl) (h3 : starEach [e] X.env = [(false, eval e X.env)] := by rfl) (hs : swapsWith (.Call (.Attribute (.Name x p') "append" apos) [e] [] cpos) none pos.line X.env = pure false := by rfl) :
    PS' X c fr [i + 1000] (.Expr (.Call (.Attribute (.Name x p') "append" apos) [e] [] cpos) pos) (sApp i f) :=
  psI (ps_expr (pe_bm PySem.F.plainAttrs_list PySem.F.slot_list_append PySem.F.type_list_append mt_append (pe_var hN hv hd hcd) (pa_cons he pa_nil h3) rfl (by rw [h3]; rfl) h2 h3 rfl) hs) fun Dn σ H ⟨G, S, rel, p⟩ => by
    have p : PostS c fr [i + 1000] G S σ H Dn (ownL i S >>= fun ds => f S >>= fun d => if ds.length < sizeLine then .ok (.nx, S.set i (some ⟨true, .lst (ds ++ [d])⟩)) else .fail) := p
    cases e0 : ownL i S with
    | exc x => exact absurd e0 ownL_exc
    | fail => rw [e0] at p; exact p.elim
    | ok ds =>
      rw [e0, R.ok_bind] at p
      have hS := ownL_of e0
      obtain ⟨l, o, es, hg, h0, ho, ct⟩ := rel.ow i _ hS
      cases ct with
      | @lst ds' vs r =>
        refine ⟨_, es, .inl ⟨rfl, vs, SqL.of ho⟩, ?_⟩
        refine rdE_go (g := fun d => if ds.length < sizeLine then .ok (Fl.nx, S.set i (some ⟨true, .lst (ds ++ [d])⟩)) else .fail) (Post := PostS c fr [i + 1000] G S σ H Dn) rel p (fun _ z => z) (fun z => z) fun d v G' H' sp q p1 => ?_
        by_cases hl : ds.length < sizeLine
        · rw [if_pos hl] at p1
          have rel' := rel.grow sp
          have ow : OwnAt S σ i l := ⟨⟨_, hS⟩, es⟩
          refine ⟨l, vs, v, rfl, rfl, sp.h _ _ ho, by rw [← r.length]; exact hl, p1 G' σ _ sp.g (rel'.mut ow (.lst ((r.mono sp.g).append (.cons q .nil)))) ((Frm.step (as := []) rel sp).trans (Frm.mut rel' ow))⟩
        · rw [if_neg hl] at p1; exact p1.elim
def sExt (i : Nat) (f : FE) : FS := fun S => ownL i S >>= fun ds => f S >>= fun d => match d with
  | .lst es => if ds.length + es.length ≤ sizeLine then .ok (.nx, S.set i (some ⟨true, .lst (ds ++ es)⟩)) else .fail
  | _ => .fail
theorem s_ext (i : Nat) (he : PE' X c k1 e f) (hN : X.N[i]? = some x := by rfl) (hv : Vis X.env.scope x := by first | exact Or.inl rfl | exact Or.inr (Or.inl rfl) | exact Or.inr (Or.inr rfl)) (hd : (x == ("__debug__" : Str)) = false := by decide)
    (hcd : (x == ("__classdict__" : Str)) = false := by decide) (h2 : (apos.endLine == cpos.line) = true := by rfl) (h3 : starEach [e] X.env = [(false, eval e X.env)] := by rfl) (hs : swapsWith (.Call (.Attribute (.Name x p') "extend" apos) [e] [] cpos) none pos.line X.env = pure false := by rfl) :
    PS' X c fr [i + 1000] (.Expr (.Call (.Attribute (.Name x p') "extend" apos) [e] [] cpos) pos) (sExt i f) :=
  psI (ps_expr (pe_bm PySem.F.plainAttrs_list PySem.F.slot_list_extend PySem.F.type_list_extend mt_extend (pe_var hN hv hd hcd) (pa_cons he pa_nil h3) rfl (by rw [h3]; rfl) h2 h3 rfl) hs) fun Dn σ H ⟨G, S, rel, p⟩ => by
    have p : PostS c fr [i + 1000] G S σ H Dn (ownL i S >>= fun ds => f S >>= fun d => match d with
      | .lst es => if ds.length + es.length ≤ sizeLine then .ok (.nx, S.set i (some ⟨true, .lst (ds ++ es)⟩)) else .fail
      | _ => .fail) := p
    cases e0 : ownL i S with
    | exc x => exact absurd e0 ownL_exc
    | fail => rw [e0] at p; exact p.elim
    | ok ds =>
      rw [e0, R.ok_bind] at p
      have hS := ownL_of e0
      obtain ⟨l, o, es, hg, h0, ho, ct⟩ := rel.ow i _ hS
      cases ct with
      | @lst ds' vs r =>
        refine ⟨_, es, .inl ⟨rfl, vs, SqL.of ho⟩, ?_⟩
        refine rdE_go (Post := PostS c fr [i + 1000] G S σ H Dn) rel p (fun _ z => z) (fun z => z) fun d v G' H' sp q p1 => ?_
        cases d with
        | lst es' =>
          have p1 : PostS c fr [i + 1000] G S σ H Dn (if ds.length + es'.length ≤ sizeLine then .ok (.nx, S.set i (some ⟨true, .lst (ds ++ es')⟩)) else .fail) := p1
          by_cases hl : ds.length + es'.length ≤ sizeLine
          · rw [if_pos hl] at p1
            have rel' := rel.grow sp
            have ow : OwnAt S σ i l := ⟨⟨_, hS⟩, es⟩
            obtain ⟨m, ws, rfl, hm, rm⟩ := q.now.lst sp.gh
            refine ⟨l, m, vs, ws, rfl, rfl, sp.h _ _ ho, hm, by rw [← r.length, ← rm.length]; exact hl, p1 G' σ _ sp.g (rel'.mut ow (.lst ((r.mono sp.g).append rm))) ((Frm.step (as := []) rel sp).trans (Frm.mut rel' ow))⟩
          · rw [if_neg hl] at p1; exact p1.elim
        | _ => exact p1.elim
/-- y = x.pop() -/
def sPop (j i : Nat) : FS := fun S => ownL i S >>= fun ds => match ds[ds.length - 1]? with
  | some d => .ok (.nx, (S.set i (some ⟨true, .lst ds.dropLast⟩)).set j (some ⟨false, d⟩))
  | none => .fail
theorem RDs.dropLast {k : Kn} {G : Hp} {ds : List D} {vs : List V} (r : RDs k G ds vs) : RDs k G ds.dropLast vs.dropLast := by
  rw [List.dropLast_eq_take, List.dropLast_eq_take, r.length]; exact r.take _
theorem s_pop (j i : Nat) {y : Str} {py : Pos} (hNd : X.N.Nodup) (hj : X.N[j]? = some y := by rfl) (hx : Loc X.env.scope y := by first | exact Or.inl rfl | exact Or.inr rfl) (hf : X.fn y = true ∨ X.env.scope.names.lookup y = some .local := by first | exact .inl rfl | exact .inr rfl)
    (hN : X.N[i]? = some x := by rfl) (hv : Vis X.env.scope x := by first | exact Or.inl rfl | exact Or.inr (Or.inl rfl) | exact Or.inr (Or.inr rfl)) (hd : (x == ("__debug__" : Str)) = false := by decide)
    (hcd : (x == ("__classdict__" : Str)) = false := by decide) (h2 : (apos.endLine == cpos.line) = true := by rfl) (hs : swapsWith (.Call (.Attribute (.Name x p') "pop" apos) [] [] cpos) (some (.Name y py)) pos.line X.env = pure false := by rfl) :
    PS' X c fr [i + 1000, j] (.Assign [.Name y py] (.Call (.Attribute (.Name x p') "pop" apos) [] [] cpos) pos) (sPop j i) :=
  psI (ps_set hNd hj hx (pe_bm0 PySem.F.plainAttrs_list PySem.F.slot_list_pop PySem.F.type_list_pop mt_pop (pe_var hN hv hd hcd) rfl h2) hs hf) fun Dn σ H ⟨G, S, rel, p⟩ => by
    have p : PostS c fr [i + 1000, j] G S σ H Dn (ownL i S >>= fun ds => match ds[ds.length - 1]? with
      | some d => .ok (.nx, (S.set i (some ⟨true, .lst ds.dropLast⟩)).set j (some ⟨false, d⟩))
      | none => .fail) := p
    cases e0 : ownL i S with
    | exc x => exact absurd e0 ownL_exc
    | fail => rw [e0] at p; exact p.elim
    | ok ds =>
      rw [e0, R.ok_bind] at p
      have hS := ownL_of e0
      obtain ⟨l, o, es, hg, h0, ho, ct⟩ := rel.ow i _ hS
      cases ct with
      | @lst ds' vs r =>
        cases e1 : ds[ds.length - 1]? with
        | none => rw [e1] at p; exact p.elim
        | some d =>
          rw [e1] at p
          obtain ⟨v, hv1, hv2⟩ := r.get e1
          have ow : OwnAt S σ i l := ⟨⟨_, hS⟩, es⟩
          refine ⟨_, es, .inl ⟨rfl, vs, SqL.of ho⟩, l, vs, v, rfl, rfl, ho, by rw [← r.length]; exact hv1, ?_⟩
          have rel' := rel.mut ow (.lst r.dropLast)
          exact p G _ _ (Ex.refl _) (rel'.setS j hv2) ((Frm.mut rel ow).trans (Frm.set j _ _))
/-- x[i] = e -/
def sSub (i : Nat) (fj f : FE) : FS := fun S => ownL i S >>= fun ds => f S >>= fun d => fj S >>= fun j => match j with
  | .int n => match ixN ds.length n with
    | some m => .ok (.nx, S.set i (some ⟨true, .lst (ds.set m d)⟩))
    | none => .fail
  | _ => .fail
theorem s_sub (i : Nat) {ix : Expr} {fj : FE} {px ps : Pos} (he : PE' X c .st e f) (hj : PE' X c k1 ix fj) (hN : X.N[i]? = some x := by rfl) (hv : Vis X.env.scope x := by first | exact Or.inl rfl | exact Or.inr (Or.inl rfl) | exact Or.inr (Or.inr rfl)) (hd : (x == ("__debug__" : Str)) = false := by decide)
    (hcd : (x == ("__classdict__" : Str)) = false := by decide) (hsub : ∀ (v : Value), assign (.Subscript (.Name x px) ix ps) X.env v = (do let ov ← holding [v] (eval (.Name x px) X.env); let iv ← holding [v, ov] (eval ix X.env); standAt ps; holding [v, ov, iv] (setItem ov iv v); release [v, ov, iv] []) := by intro _; rfl)
    (hs : swapsWithSole [.Subscript (.Name x px) ix ps] e pos.line X.env = pure false := by rfl) (hw : swappedStores [.Subscript (.Name x px) ix ps] e X.env = pure none := by rfl) (h1 : (assignEach [.Subscript (.Name x px) ix ps] X.env).map (·.2) = [assign (.Subscript (.Name x px) ix ps) X.env] := by rfl) :
    PS' X c fr [i + 1000] (.Assign [.Subscript (.Name x px) ix ps] e pos) (sSub i fj f) :=
  psI (ps_asg he (pg_sub (pe_var hN hv hd hcd) hj set_list hsub) hs hw h1) fun Dn σ H ⟨G, S, rel, p⟩ => by
    have p : PostS c fr [i + 1000] G S σ H Dn (ownL i S >>= fun ds => f S >>= fun d => fj S >>= fun j => match j with
      | .int n => match ixN ds.length n with
        | some m => .ok (.nx, S.set i (some ⟨true, .lst (ds.set m d)⟩))
        | none => .fail
      | _ => .fail) := p
    cases e0 : ownL i S with
    | exc x => exact absurd e0 ownL_exc
    | fail => rw [e0] at p; exact p.elim
    | ok ds =>
      rw [e0, R.ok_bind] at p
      have hS := ownL_of e0
      obtain ⟨l, o, es, hg, h0, ho, ct⟩ := rel.ow i _ hS
      have ow : OwnAt S σ i l := ⟨⟨_, hS⟩, es⟩
      cases ct with
      | @lst ds' vs r =>
        refine rdE_go (Post := PostS c fr [i + 1000] G S σ H Dn) rel p (fun _ z => z) (fun z => z) fun d v G1 H1 s1 q1 p1 => ?_
        refine ⟨_, es, ?_⟩
        refine rdE_go (Post := PostS c fr [i + 1000] G S σ H Dn) (rel.grow s1) p1 (fun _ z => z) (fun z => z) fun j u G2 H2 s2 q2 p2 => ?_
        cases j with
        | int n =>
          obtain rfl := q2.now.int
          have p2 : PostS c fr [i + 1000] G S σ H Dn (match ixN ds.length n with
            | some m => .ok (.nx, S.set i (some ⟨true, .lst (ds.set m d)⟩))
            | none => .fail) := p2
          cases em : ixN ds.length n with
          | none => rw [em] at p2; exact p2.elim
          | some m =>
            rw [em] at p2
            have sp := s1.trans s2
            have rel' := rel.grow sp
            refine ⟨l, vs, n, m, rfl, rfl, sp.h _ _ ho, by rw [← r.length]; exact em, p2 G2 σ _ sp.g (rel'.mut ow (.lst ((r.mono sp.g).set m (RD.mono s2.g q1)))) ((Frm.step (as := []) rel sp).trans (Frm.mut rel' ow))⟩
        | _ => exact p2.elim
end
end M
set_option Elab.async false
set_option linter.all false
set_option maxRecDepth 100000
set_option maxHeartbeats 4000000
namespace M
open PySem L2
/-! ### fields by number -/
theorem zip_lookup : ∀ {nm : List Str} {vs : List V} {j : Nat} {f : Str} {v : V}, nm.Nodup → nm[j]? = some f → vs[j]? = some v → (nm.zip vs).lookup f = some v
  | [], _, j, _, _, _, h, _ => by simp at h
  | _ :: _, [], j, _, _, _, _, h => by simp at h
  | n :: nm, u :: vs, 0, f, v, _, h1, h2 => by
    simp at h1 h2; subst h1; subst h2; simp [List.lookup]
  | n :: nm, u :: vs, j + 1, f, v, hn, h1, h2 => by
    simp only [List.getElem?_cons_succ] at h1 h2
    have hne : f ≠ n := fun z => (List.nodup_cons.mp hn).1 (by rw [← z]; exact List.mem_of_getElem? h1)
    rw [List.zip_cons_cons, List.lookup_cons, beq_eq_false_iff_ne.mpr hne]
    exact zip_lookup (List.nodup_cons.mp hn).2 h1 h2
theorem zip_put : ∀ {nm : List Str} {vs : List V} {f : Str} {v : V}, nm.Nodup → nm[vs.length]? = some f → putF f v (nm.zip vs) = nm.zip (vs ++ [v])
  | [], vs, _, _, _, h => by simp at h
  | n :: nm, [], f, v, _, h => by
    simp at h; subst h
    simp [putF]
  | n :: nm, u :: vs, f, v, hn, h => by
    simp only [List.length_cons, List.getElem?_cons_succ] at h
    have hne : ¬ n = f := fun z => (List.nodup_cons.mp hn).1 (by rw [z]; exact List.mem_of_getElem? h)
    rw [List.zip_cons_cons, List.cons_append, List.zip_cons_cons, ← zip_put (List.nodup_cons.mp hn).2 h]
    simp only [putF]
    rw [if_neg hne]
/-- what is known of a class: its number, fields -/
structure ClsI (K : PySem.W.Frag) (k : Kn) (c : Nat) (nm : List Str) : Prop where
  ex : ∃ C, k.cl c = some (C, nm) ∧ Cls K C ∧ ∀ f, f ∈ nm → NoAttr K C f
  nd : nm.Nodup
  few : nm.length < 1000
section
variable {X : Cx} {c : Cf} {kd k1 k2 k3 : Kd} {a b e o : Expr} {f g h : FE} {pos apos cpos p' : Pos} {fr : Bool} {x : Str} {nm : List Str} {ci : Nat}
def fldD (ci j : Nat) : D → R D
  | .obj c ds => if c = ci then match ds[j]? with | some d => .ok d | none => .fail else .fail
  | _ => .fail
theorem d_fld (ci j : Nat) {fn : Str} (C : ClsI X.K c.k ci nm) (hj : nm[j]? = some fn) (he : PE' X c k1 o f) (hb : attributeBase o fn X.env (eval o X.env) = eval o X.env := by rfl) : PE' X c .st (.Attribute o fn pos) (e1 (fldD ci j) f) :=
  peI (pe_fld he hb) fun σ H Q q => e1_go (r := fun x H1 Q => ∃ a C dx fs v, x = .ref a ∧ H1 a = some (.ins C dx fs) ∧ Cls X.K C ∧ NoAttr X.K C fn ∧ fs.lookup fn = some v ∧ Q v H1) (fun G H d u r ex n hg Q p => by
    cases d with
    | obj c' ds =>
      simp only [fldD] at hg
      split at hg
      · rename_i hc
        subst hc
        split at hg
        · rename_i d' hd
          cases hg
          obtain ⟨ad, CA, dx, nm', vs, rfl, hcl, ha, hr⟩ := n.obj ex
          obtain ⟨CA', hcl', cl, na⟩ := C.ex
          rw [hcl] at hcl'; cases hcl'
          obtain ⟨v, hv, rv⟩ := hr.get hd
          exact ⟨ad, CA, dx, _, v, rfl, ha, cl, na _ (List.mem_of_getElem? hj), zip_lookup C.nd hj hv, p v G H (Step.refl ex) rv⟩
        · cases hg
      · cases hg
    | _ => simp [fldD] at hg) q
/-- self.f = e, the slot i owns the object; the field is the next one -/
def ownO (ci i : Nat) (S : Env) : R (List D) := match S[i]? with
  | some (some ⟨true, .obj c ds⟩) => if c = ci then .ok ds else .fail
  | _ => .fail
theorem ownO_of {ci i : Nat} {S : Env} {ds : List D} (h : ownO ci i S = .ok ds) : S[i]? = some (some ⟨true, .obj ci ds⟩) := by
  unfold ownO at h
  split at h
  · split at h
    · rename_i hc; subst hc; cases h; assumption
    · cases h
  · cases h
theorem ownO_exc {ci i : Nat} {S : Env} {x : Exc} : ownO ci i S ≠ .exc x := by unfold ownO; split; split <;> intro h <;> cases h; intro h; cases h
def sFldN (ci i j : Nat) (f : FE) : FS := fun S => ownO ci i S >>= fun ds => f S >>= fun d => if ds.length = j then .ok (.nx, S.set i (some ⟨true, .obj ci (ds ++ [d])⟩)) else .fail
theorem s_fld (ci i j : Nat) {fn : Str} {px : Pos} (C : ClsI X.K c.k ci nm) (hj : nm[j]? = some fn) (he : PE' X c .st e f) (hN : X.N[i]? = some x := by rfl) (hv : Vis X.env.scope x := by first | exact Or.inl rfl | exact Or.inr (Or.inl rfl) | exact Or.inr (Or.inr rfl)) (hd : (x == ("__debug__" : Str)) = false := by decide)
    (hcd : (x == ("__classdict__" : Str)) = false := by decide) (hs : swapsWith e (some (.Attribute (.Name x px) fn p')) pos.line X.env = pure false := by rfl) : PS' X c fr [i + 1000] (.Assign [.Attribute (.Name x px) fn p'] e pos) (sFldN ci i j f) :=
  psI (ps_fld (pe_var hN hv hd hcd) he hs) fun Dn σ H ⟨G, S, rel, p⟩ => by
    have p : PostS c fr [i + 1000] G S σ H Dn (ownO ci i S >>= fun ds => f S >>= fun d => if ds.length = j then .ok (.nx, S.set i (some ⟨true, .obj ci (ds ++ [d])⟩)) else .fail) := p
    cases e0 : ownO ci i S with
    | exc x => exact absurd e0 ownO_exc
    | fail => rw [e0] at p; exact p.elim
    | ok ds =>
      rw [e0, R.ok_bind] at p
      have hS := ownO_of e0
      obtain ⟨l, ob, es, hg, h0, ho, ct⟩ := rel.ow i _ hS
      have ow : OwnAt S σ i l := ⟨⟨_, hS⟩, es⟩
      cases ct with
      | @obj _ _ CA dx nm' vs hcl hr =>
        obtain ⟨CA', hcl', cl, na⟩ := C.ex
        rw [hcl] at hcl'; cases hcl'
        refine rdE_go (g := fun d => if ds.length = j then .ok (Fl.nx, S.set i (some ⟨true, .obj ci (ds ++ [d])⟩)) else .fail) (Post := PostS c fr [i + 1000] G S σ H Dn) rel p (fun _ z => z) (fun z => z) fun d v G1 H1 s1 q1 p1 => ?_
        by_cases hl : ds.length = j
        · rw [if_pos hl] at p1
          have rel' := rel.grow s1
          have hl2 : vs.length = j := by rw [← hr.length]; exact hl
          refine ⟨_, es, l, CA, dx, _, rfl, s1.h _ _ ho, cl, na _ (List.mem_of_getElem? hj), ?_, ?_⟩
          · rw [List.length_zip]; exact Nat.lt_of_le_of_lt (Nat.min_le_left _ _) C.few
          · rw [zip_put C.nd (by rw [hl2]; exact hj)]
            exact p1 G1 σ _ s1.g (rel'.mut ow (.obj hcl ((hr.mono s1.g).append (.cons q1 .nil)))) ((Frm.step (as := []) rel s1).trans (Frm.mut rel' ow))
        · rw [if_neg hl] at p1; exact p1.elim
end
/-! ### __init__ -/
/-- the promise of an __init__: the new object's fields -/
def PostN (k : Kn) (x : Addr) (G0 H : Hp) (Q : VK) (E : XK) : R D → Prop
  | .ok d => ∀ G' H' o, Ex G0 G' → (∀ b u, b ≠ x → H b = some u → H' b = some u) → Ex G' H' → G' x = none → (∀ b u, G' b = some u → G0 b = some u ∨ H b = none) → H' x = some o → Cont k G' d o → Q .non H'
  | .exc e => ∀ cls da G' H', (∀ b u, b ≠ x → H b = some u → H' b = some u) → Ex G' H' → XR ⟨k, H, G0, E⟩ G' e cls da H' → E cls da H'
  | .fail => False
def SpN (k : Kn) (ci n : Nat) (den : List D → R D) : Sp := fun vs H Q E => vs.length = n ∧ ∃ x rest G0 ds C dx nm, vs = .ref x :: rest ∧ k.cl ci = some (C, nm) ∧ H x = some (.ins C dx []) ∧ G0 x = none ∧ Ex G0 H ∧ RDs k G0 ds rest ∧ PostN k x G0 H Q E (den ds)
def startN (n ci : Nat) (ds : List D) : Env := some ⟨true, .obj ci []⟩ :: (ds.map (fun d => some ⟨false, d⟩) ++ List.replicate (n - (ds.length + 1)) none)
def endN : R (Fl × Env) → R D
  | .ok (.nx, S) => match (S[(0 : Nat)]? : Option (Option Sl)) with
    | some (some ⟨true, d⟩) => .ok d
    | _ => .fail
  | .ok _ => .fail
  | .exc x => .exc x
  | .fail => .fail
def runN (n ci : Nat) (s : FS) (ds : List D) : R D := endN (s (startN n ci ds))
noncomputable def less (H : Hp) (x : Addr) : Hp := fun b => open Classical in if b = x then none else H b
theorem less_self {H : Hp} {x : Addr} : less H x x = none := by unfold less; rw [if_pos rfl]
theorem less_ne {H : Hp} {x b : Addr} (h : b ≠ x) : less H x b = H b := by unfold less; rw [if_neg h]
theorem less_ex {H : Hp} {x : Addr} : Ex (less H x) H := fun b o h => by
  by_cases hb : b = x
  · subst hb; rw [less_self] at h; cases h
  · rw [less_ne hb] at h; exact h
theorem rel_startN {k : Kn} {E : XK} {H G0 : Hp} {N : List Str} {x C dx : Addr} {nm : List Str} {ci : Nat} {ds : List D} {rest : List V} (hcl : k.cl ci = some (C, nm)) (hx : H x = some (.ins C dx [])) (hg : G0 x = none) (e : Ex G0 H) (r : RDs k G0 ds rest) :
    Rel ⟨k, less H x, G0, E⟩ G0 (startN N.length ci ds) (L2.start N (.ref x :: rest)) H := by
  have own : ∀ (i : Nat) (d : D), (startN N.length ci ds)[i]? = some (some ⟨true, d⟩) → i = 0 ∧ d = .obj ci [] := fun i d q => by
    unfold startN at q
    cases i with
    | zero => simp at q; exact ⟨rfl, q.symm⟩
    | succ i =>
      rw [List.getElem?_cons_succ, List.getElem?_append] at q
      split at q
      · rw [List.getElem?_map] at q
        cases h : ds[i]? <;> rw [h] at q <;> cases q
      · rw [List.getElem?_replicate] at q
        split at q <;> cases q
  have e0 : Ex G0 (less H x) := fun b o h => by rw [less_ne (ne_of_none h hg)]; exact e b o h
  refine ⟨⟨Ex.refl _, less_ex, e, fun _ _ h => .inl h⟩, by simp [startN, L2.start, r.length], fun i d q => ?_, fun i d q => ?_, fun i j a o1 o2 => ?_⟩
  · unfold startN at q
    cases i with
    | zero => simp at q
    | succ i =>
      rw [List.getElem?_cons_succ, List.getElem?_append] at q
      split at q
      · rw [List.getElem?_map] at q
        cases h : ds[i]? with
        | none => rw [h] at q; cases q
        | some d' =>
          rw [h] at q; cases q
          obtain ⟨v, h1, h2⟩ := r.get h
          refine ⟨v, ?_, h2⟩
          unfold L2.start
          rw [List.map_cons, List.cons_append, List.getElem?_cons_succ, List.getElem?_append_left (by rw [List.length_map]; exact (List.getElem?_eq_some_iff.mp h1).1), List.getElem?_map, h1]; rfl
      · rw [List.getElem?_replicate] at q
        split at q <;> cases q
  · obtain ⟨rfl, rfl⟩ := own i d q
    refine ⟨x, _, by simp [L2.start], hg, less_self, hx, ?_⟩
    have z : Cont k G0 (.obj ci []) (.ins C dx (nm.zip [])) := .obj hcl .nil
    rw [List.zip_nil_right] at z; exact z
  · obtain ⟨⟨d1, q1⟩, _⟩ := o1
    obtain ⟨⟨d2, q2⟩, _⟩ := o2
    rw [(own i d1 q1).1, (own j d2 q2).1]
theorem body_init {k : Kn} {as : List Nat} {N : List Str} {X : Cx} {body : List Stmt} {s : FS} {H : Hp} {vs : List V} {Q : VK} {E : XK} {n ci : Nat} (h0 : 0 ∉ as) (hb : ∀ H0 G0, PB' X ⟨k, H0, G0, E⟩ false as body s) (q : SpN k ci n (runN N.length ci s) vs H Q E) :
    ∃ t, PSs X body t ∧ t { nx := fun _ H' => Q .non H', rt := Q } (L2.start N vs) H := by
  obtain ⟨hl, x, rest, G0, ds, C, dx, nm, rfl, hcl, hx, hg, e, r, p⟩ := q
  refine ⟨_, hb (less H x) G0, G0, _, rel_startN hcl hx hg e r, ?_⟩
  unfold runN at p
  cases e1 : s (startN N.length ci ds) with
  | exc y =>
    rw [e1] at p
    intro cls da G' H' st xr
    refine p cls da G' H' (fun b u hb q => st.h b u (by show less H x b = some u; rw [less_ne hb]; exact q)) st.gh xr
  | fail => rw [e1] at p; exact p.elim
  | ok z =>
    rw [e1] at p
    obtain ⟨fl, S1⟩ := z
    cases fl with
    | nx =>
      intro G' σ' H' ex rel fm
      have p : PostN k x G0 H Q E (match (S1[(0 : Nat)]? : Option (Option Sl)) with
        | some (some ⟨true, d⟩) => .ok d
        | _ => .fail) := p
      split at p
      · rename_i d hd
        obtain ⟨a, o, es, hg', h0', ho, ct⟩ := rel.ow 0 d hd
        have : σ'[0]? = some (some (.ref x)) := by rw [fm.sg 0 h0]; simp [L2.start]
        rw [this] at es; cases es
        refine p G' H' o ex (fun b u hb q => rel.st.h b u (by show less H x b = some u; rw [less_ne hb]; exact q)) rel.st.gh hg' (fun b u q => ?_) ho ct
        rcases rel.st.gr b u q with z | z
        · exact .inl z
        · by_cases hb : b = x
          · subst hb; rw [hg'] at q; cases q
          · exact .inr (by rw [← less_ne (H := H) hb]; exact z)
      · exact p.elim
    | bk => exact p.elim
    | ct => exact p.elim
    | rt d => exact p.elim
section
variable {P : Program} {w : World} {K : PySem.W.Frag} {mg : Str → Option Value} {base : Heap}
theorem init_ok {k : Kn} {as : List Nat} {x qual : Str} {params : Arguments} {body : List Stmt} {scope : Scope} {dvs : List V} {kws : List (Str × V)} {f : Addr} {fd : FuncData} {N ps : List Str} {lv ci : Nat} {s : FS} (F : FunD K x qual params body scope dvs kws f fd) (S : FnScope N ps scope) (h0 : 0 ∉ as)
    (hb : ∀ (cdv : Value) (A : Around) (outer : List PySem.Env) (sh : Shared) (H H0 G0 : Hp), Room lv (A.deeper (PyProof.Rows.envOfC qual scope sh.heap.objs.size f cdv)) → PB' (cxOf CX0 P w K mg base N qual scope f cdv A outer sh H E0).nox ⟨k, H0, G0, E0⟩ false as body s) :
    FnOk P w K mg base CX0 (lv + 1) f fd ps (SpN k ci ps.length (fun ds => (runN N.length ci s ds).nox)) := by
  refine F.ok S (fun vs H Q E q => q.1) fun cdv A outer sh H vs Q E hr q => ?_
  have q' : SpN k ci ps.length (runN N.length ci s) vs H Q E0 := by
    obtain ⟨hl, x, rest, G0, ds, C, dx, nm, e1, hcl, hx, hg, e, r, p⟩ := q
    refine ⟨hl, x, rest, G0, ds, C, dx, nm, e1, hcl, hx, hg, e, r, ?_⟩
    dsimp only at p
    cases e1 : runN N.length ci s ds with
    | ok d => rw [e1] at p; exact p
    | exc x => rw [e1] at p; exact p.elim
    | fail => rw [e1] at p; exact p.elim
  obtain ⟨t, h1, h2⟩ := body_init (X := (cxOf CX0 P w K mg base N qual scope f cdv A outer sh H E0).nox) h0 (fun H0 G0 => hb cdv A outer sh H H0 G0 hr) q'
  exact ⟨t, h1.nox, h2⟩
end
/-- a class that is called -/
structure Mk0 (X : Cx) (k : Kn) (x : Str) (ci n : Nat) (den : List D → R D) : Prop where
  ex : ∃ (C f : Addr) (fd : FuncData) (lv : Nat) (ps : List Str) (nm : List Str), ps.length = n ∧ k.cl ci = some (C, nm) ∧ Mk X.K C f ∧ FnOk X.prog X.w X.K X.mg X.base CX0 lv f fd ps (SpN k ci n den) ∧ Room (lv + 1) X.A ∧ X.mg x = some (.ref C) ∧ Binds X.K fd ps []
section
variable {X : Cx} {c : Cf} {kd k1 k2 k3 : Kd} {a b e : Expr} {pos : Pos} {den : List D → R D} {ci : Nat}
theorem make_go {C : Addr} {nm : List Str} {n : Nat} {fa : FA} {σ : St} {H : Hp} {Q : VK} (hcl : c.k.cl ci = some (C, nm)) (hl : Len n fa) (q : RdE c .fr (eC den fa) σ H Q) :
    RdA c false fa σ H fun vs H1 => ∀ x dx, H1 x = none → H1 dx = none → dx ≠ x → SpN c.k ci (n + 1) den (.ref x :: (vs ++ [])) (upd (upd H1 dx (.own x)) x (.ins C dx [])) (fun v H2 => v = .non ∧ Q (.ref x) H2) E0 := by
  obtain ⟨G, S, rel, p⟩ := q
  have p : PostE c .fr G S σ H Q (fa S >>= fun ds => (den ds).nox) := p
  refine ⟨G, S, rel, ?_⟩
  cases e0 : fa S with
  | exc x => rw [e0] at p; exact p
  | fail => rw [e0] at p; exact p
  | ok ds =>
    rw [e0] at p
    intro vs G1 H1 s1 q1 x dx hx hdx hne
    have q1 : RDs c.k G1 ds vs := q1
    rw [List.append_nil]
    have hgx : G1 x = none := s1.gh.free hx
    have ex1 : Ex H1 (upd (upd H1 dx (.own x)) x (.ins C dx [])) := (Ex.new hdx).upd hx
    refine ⟨by simp [← q1.length, hl S ds e0], x, vs, G1, ds, C, dx, nm, rfl, hcl, upd_same, hgx, s1.gh.trans ex1, q1, ?_⟩
    have p : PostE c .fr G S σ H Q (den ds).nox := p
    cases e1 : den ds with
    | ok d =>
      rw [e1] at p
      intro G' H' o ex hk gh hgx' gr ho ct
      refine ⟨rfl, p _ G' H' (s1.trans ⟨ex, fun b u q => hk b u (ne_of_none q hx) (ex1 b u q), gh, fun b u q => ?_⟩) ⟨x, o, rfl, hgx', s1.h.free hx, ho, ct⟩⟩
      rcases gr b u q with z | z
      · exact .inl z
      · exact .inr (ex1.free z)
    | exc x => rw [e1] at p; exact p.elim
    | fail => rw [e1] at p; exact p.elim
theorem d_make {x : Str} {n : Nat} {p : Pos} {es : List Expr} {fa : FA} (F : Mk0 X c.k x ci (n + 1) den) (ha : PA' X c false (e :: es) fa) (hl : Len n fa) (hg : Gl X x := by rfl) (hdb : (x == ("__debug__" : Str)) = false := by decide)
    (hs : starEach (e :: es) X.env = (false, eval e X.env) :: starEach es X.env := by rfl) (hs2 : ((backTo pos (starEach es X.env)).any fun x => x.1) = false := by rfl) : PE' X c .fr (.Call (.Name x p) (e :: es) [] pos) (eC den fa) := by
  obtain ⟨C, f, fd, lv, ps, nm, hn, hcl, M, ok, hr, hm, hb⟩ := F.ex
  exact peI (pe_make M ok hr hg hm hb .nil pass0 ha hdb hs hs2) fun σ H Q q => make_go hcl hl q
end
end M
set_option Elab.async false
set_option linter.all false
set_option maxRecDepth 100000
set_option maxHeartbeats 4000000
namespace M
open PySem L2
section
variable {X : Cx} {k : Kn} {c : Cf} {kd k1 k2 k3 : Kd} {a b e o : Expr} {f g h : FE} {pos apos cpos p' : Pos} {fr : Bool}
/-! ### sorted(list) of data -/
theorem DpAll.zip {K : PySem.W.Frag} {H : Hp} : ∀ {xs : List V} {ds : List PyData}, DpAll K H xs ds → ∀ {us : List Value}, Vals xs us → PySem.W.EachIs (fun (u : Value) (b : V × PyData) => RelV b.1 u ∧ Dp K H b.1 b.2) us (xs.zip ds)
  | _, _, .nil, _, .nil => .nil
  | _, _, .cons a b, _, .cons r t => .cons ⟨r, a⟩ (DpAll.zip b t)
theorem EachIs.imp {α β : Type} {R R' : α → β → Prop} (h : ∀ a b, R a b → R' a b) : ∀ {as : List α} {bs : List β}, PySem.W.EachIs R as bs → PySem.W.EachIs R' as bs
  | _, _, .nil => .nil
  | _, _, .cons a b => .cons (h _ _ a) (EachIs.imp h b)
theorem each_vals : ∀ {us : List Value} {bs : List (V × PyData)}, PySem.W.EachIs (fun u b => RelV b.1 u) us bs → Vals (bs.map (·.1)) us
  | _, _, .nil => .nil
  | _, _, .cons a b => .cons a (each_vals b)
theorem DpAll.length {K : PySem.W.Frag} {H : Hp} : ∀ {xs : List V} {ds : List PyData}, DpAll K H xs ds → xs.length = ds.length
  | _, _, .nil => rfl
  | _, _, .cons _ b => by simp [DpAll.length b]
/-- the sort's own answer, by values and data -/
def rSrt (X : Cx) : List V → Hp → VK → Prop := fun vs H Q => ∃ a xs ds, vs = [V.ref a] ∧ SqL X.K H a xs ∧ DpAll X.K H xs ds ∧ PySem.W.AllAlike ds ∧ PySem.W.Sortable ds ∧ (∀ d, d ∈ ds → d.depth ≤ 60) ∧
  ∀ p, H p = none → Q (.ref p) (upd H p (.lst (((xs.zip ds).mergeSort (PySem.W.dataLe false (·.2))).map (·.1))))
theorem cr_srt (hu : X.A.units + 64 < cLine) : CallR X (.builtin "sorted") (rSrt X) := by
  intro pins s σ H vs us Q I r h
  obtain ⟨a, xs, ds, rfl, hs, hd, hal, hso, hdp, q⟩ := h
  obtain ⟨u, rfl, ru⟩ := vals1 r
  cases ru
  obtain ⟨its, rv, pl, hz⟩ := I.list hs
  have hlen := DpAll.length hd
  have hm : (xs.zip ds).map (·.2) = ds := by rw [List.map_snd_zip]; omega
  have ea := DpAll.zip hd rv
  refine PySem.W.sorted_data (enc := fun (b : V × PyData) => b.2) (R := fun u (b : V × PyData) => RelV b.1 u) (bs := xs.zip ds) pl.isList (EachIs.imp (fun _ _ z => z.1) ea) (EachIs.imp (fun u b z => Dp.reads I b.2 b.1 u z.2 z.1) ea) (by rw [hm]; exact hal) (by rw [hm]; exact hso) (by rw [List.length_zip]; omega) ?_ ?_
  · intro b hb
    have : b.2 ∈ ds := by rw [← hm]; exact List.mem_map.mpr ⟨b, hb, rfl⟩
    have := hdp _ this
    omega
  · intro out ho eo
    obtain ⟨m, F⟩ := I.fr
    obtain ⟨cn, _, N, _, kp⟩ := PySem.W.sorted_news (news := []) F (fun p hp => nomatch hp) its out
    have hobj := (N _ List.mem_cons_self).1
    have hv := each_vals eo
    refine ⟨.ref (s.heap.objs.size + 1), _, I.laid (a := s.heap.objs.size + 1) (t' := s.toks) (o := .lst _) kp (Nat.le_succ _) ⟨?_, out, cn, hv, hobj⟩, rfl, q _ (I.hok.fresh (Nat.le_succ _))⟩
    rw [List.length_map, List.length_mergeSort, List.length_zip]; omega
end
/-- Python's < of data -/
def dlt (x y : D) : Bool := PySem.W.dataLt x.toP y.toP
def dle (x y : D) : Bool := !dlt y x
mutual
/-- the two can be compared, place by place -/
def alikeD : D → D → Bool
  | .non, .non => true
  | .bl _, .bl _ => true
  | .int _, .int _ => true
  | .str _, .str _ => true
  | .lst xs, .lst ys => alikeDs xs ys
  | .tup xs, .tup ys => alikeDs xs ys
  | _, _ => false
def alikeDs : List D → List D → Bool
  | x :: xs, y :: ys => alikeD x y && alikeDs xs ys
  | [], _ => true
  | _ :: _, [] => true
end
mutual
theorem alikeD_of : ∀ (x y : D), alikeD x y = true → PySem.W.alike x.toP y.toP = true
  | .non, y, h => by cases y <;> first | (simp [D.toP, PySem.W.alike]; done) | (simp [alikeD] at h; done)
  | .bl _, y, h => by cases y <;> first | (simp [D.toP, PySem.W.alike]; done) | (simp [alikeD] at h; done)
  | .int _, y, h => by cases y <;> first | (simp [D.toP, PySem.W.alike]; done) | (simp [alikeD] at h; done)
  | .str _, y, h => by cases y <;> first | (simp [D.toP, PySem.W.alike]; done) | (simp [alikeD] at h; done)
  | .lst xs, y, h => by
    cases y with
    | lst ys => simp only [alikeD] at h; simp only [D.toP, PySem.W.alike]; exact alikeDs_of xs ys h
    | _ => simp [alikeD] at h
  | .tup xs, y, h => by
    cases y with
    | tup ys => simp only [alikeD] at h; simp only [D.toP, PySem.W.alike]; exact alikeDs_of xs ys h
    | _ => simp [alikeD] at h
  | .ty _, _, h => by simp [alikeD] at h
  | .dic _ _, _, h => by simp [alikeD] at h
  | .dit _ _, _, h => by simp [alikeD] at h
  | .obj _ _, _, h => by simp [alikeD] at h
  | .scr _, _, h => by simp [alikeD] at h
  | .cls _, _, h => by simp [alikeD] at h
theorem alikeDs_of : ∀ (xs ys : List D), alikeDs xs ys = true → PySem.W.alikeAll (D.toPs xs) (D.toPs ys) = true
  | [], _, _ => by simp [D.toPs, PySem.W.alikeAll]
  | _ :: _, [], _ => by simp [D.toPs, PySem.W.alikeAll]
  | x :: xs, y :: ys, h => by
    simp only [alikeDs, Bool.and_eq_true] at h
    simp only [D.toPs, PySem.W.alikeAll, Bool.and_eq_true]
    exact ⟨alikeD_of x y h.1, alikeDs_of xs ys h.2⟩
end
/-- an item that sorted takes: no None; a tuple has an item -/
def srtItem : D → Bool
  | .non => false
  | .tup [] => false
  | _ => true
def D.isTup : D → Bool
  | .tup _ => true
  | _ => false
def srtOk (ds : List D) : Bool := doks 59 ds && ds.all (fun x => ds.all fun y => alikeD x y) && ds.all srtItem
def srt (ds : List D) : List D := ds.mergeSort dle
theorem toPs_mem : ∀ {ds : List D} {p : PyData}, p ∈ D.toPs ds → ∃ d, d ∈ ds ∧ d.toP = p
  | [], _, h => by simp [D.toPs] at h
  | d :: ds, p, h => by
    simp only [D.toPs, List.mem_cons] at h
    rcases h with h | h
    · exact ⟨d, by simp, h.symm⟩
    · obtain ⟨d', h1, h2⟩ := toPs_mem h; exact ⟨d', by simp [h1], h2⟩
theorem doks_mem {n : Nat} : ∀ {ds : List D} {d : D}, doks n ds = true → d ∈ ds → dok n d = true
  | [], _, _, h => by simp at h
  | x :: ds, d, h, hm => by
    simp only [doks, Bool.and_eq_true] at h
    rcases List.mem_cons.mp hm with rfl | hm
    · exact h.1
    · exact doks_mem h.2 hm
theorem srt_sortable {ds : List D} (h : srtOk ds = true) : PySem.W.Sortable (D.toPs ds) := by
  unfold srtOk at h
  simp only [Bool.and_eq_true, List.all_eq_true] at h
  obtain ⟨⟨h1, h2⟩, h3⟩ := h
  cases ds with
  | nil => exact .inl fun d hd => by simp [D.toPs] at hd
  | cons d0 ds =>
    cases d0 with
    | tup xs =>
      refine .inl fun p hp => ?_
      obtain ⟨d, hd, rfl⟩ := toPs_mem hp
      have ha := h2 _ (List.mem_cons_self) d hd
      cases d with
      | tup ys =>
        have := h3 _ hd
        cases ys with
        | nil => simp [srtItem] at this
        | cons y ys => exact ⟨y.toP, D.toPs ys, by simp [D.toP, D.toPs]⟩
      | _ => simp [alikeD] at ha
    | _ =>
      refine .inr fun p hp => ?_
      obtain ⟨d, hd, rfl⟩ := toPs_mem hp
      have ha := h2 _ (List.mem_cons_self) d hd
      have hi := h3 _ hd
      cases d <;> first | (simp [alikeD] at ha; done) | (simp [srtItem] at hi; done) | (simp [D.toP]; done)
section
variable {X : Cx} {k : Kn}
theorem RDs.srt {G : Hp} {ds : List D} {vs : List V} (r : RDs k G ds vs) : RDs k G (M.srt ds) (((vs.zip (D.toPs ds)).mergeSort (PySem.W.dataLe false (·.2))).map (·.1)) := by
  have key : ∀ (bs : List (D × V)), (∀ b, b ∈ bs → RD k G b.1 b.2) → RDs k G (bs.map (·.1)) (bs.map (·.2)) := fun bs => by
    induction bs with
    | nil => intro _; exact .nil
    | cons b bs ih => intro h; exact .cons (h b (by simp)) (ih fun x hx => h x (by simp [hx]))
  have hl := r.length
  have z1 : (ds.zip vs).map (·.1) = ds := by rw [List.map_fst_zip]; omega
  have z2 : vs.zip (D.toPs ds) = (ds.zip vs).map fun b => (b.2, b.1.toP) := by
    clear r z1
    induction ds generalizing vs with
    | nil => cases vs <;> simp [D.toPs]
    | cons d ds ih =>
      cases vs with
      | nil => simp at hl
      | cons v vs => simp only [D.toPs, List.zip_cons_cons, List.map_cons]; rw [ih (by simpa using hl)]
  have e1 : M.srt ds = ((ds.zip vs).mergeSort fun a b => dle a.1 b.1).map (·.1) := by
    unfold M.srt
    rw [List.map_mergeSort (s := dle) (fun _ _ _ _ => rfl), z1]
  have e2 : ((vs.zip (D.toPs ds)).mergeSort (PySem.W.dataLe false (·.2))).map (·.1) = ((ds.zip vs).mergeSort fun a b => dle a.1 b.1).map (·.2) := by
    rw [z2, ← List.map_mergeSort (r := fun a b => dle a.1 b.1) (f := fun (b : D × V) => (b.2, b.1.toP)) (fun a _ b _ => by rw [PySem.W.dataLe_eq]; rfl), List.map_map]
    rfl
  rw [e1, e2]
  refine key _ fun b hb => ?_
  have hb : b ∈ ds.zip vs := List.mem_mergeSort.mp hb
  have : ∀ {ds : List D} {vs : List V}, RDs k G ds vs → ∀ b, b ∈ ds.zip vs → RD k G b.1 b.2 := fun {ds vs} r => by
    intro b hb
    obtain ⟨i, hi, rfl⟩ := List.mem_iff_getElem.mp hb
    rw [List.getElem_zip]
    have h1 : i < ds.length := by rw [List.length_zip] at hi; omega
    obtain ⟨v, hv, rv⟩ := r.get (List.getElem?_eq_getElem h1)
    have h2 : i < vs.length := by rw [List.length_zip] at hi; omega
    rw [List.getElem?_eq_getElem h2] at hv; cases hv
    exact rv
  exact this r b hb
def srtD : D → R D
  | .lst ds => if srtOk ds then .ok (.lst (srt ds)) else .fail
  | _ => .fail
theorem c_srt (hk : k.K = X.K) (hu : X.A.units + 64 < cLine) : ClR X k (.builtin "sorted") .fr (f1 srtD) := cl1 (cr_srt hu) fun G H x v d e n hg Q p => by
  cases x <;> simp only [srtD] at hg <;> first | (cases hg; done) | skip
  split at hg
  · rename_i ho
    cases hg; obtain ⟨a, vs, rfl, ha, r⟩ := n.lst e
    have hd : doks 59 _ = true := (by unfold srtOk at ho; simp only [Bool.and_eq_true] at ho; exact ho.1.1)
    refine ⟨a, vs, _, rfl, SqL.of ha, hk ▸ (r.mono e).dp 59 hd, fun p hp q hq => ?_, srt_sortable ho, fun q hq => ?_, fun pp hp => p _ _ _ (Step.new' e hp) ⟨pp, _, rfl, e.free hp, hp, upd_same, .lst r.srt⟩⟩
    · obtain ⟨d1, h1, rfl⟩ := toPs_mem hp
      obtain ⟨d2, h2, rfl⟩ := toPs_mem hq
      unfold srtOk at ho
      simp only [Bool.and_eq_true, List.all_eq_true] at ho
      exact alikeD_of _ _ (ho.1.2 d1 h1 d2 h2)
    · obtain ⟨d1, h1, rfl⟩ := toPs_mem hq
      have := (dok_lay 59 d1 (doks_mem hd h1)).2
      omega
  · cases hg
end
end M
set_option Elab.async false
set_option linter.all false
set_option maxRecDepth 100000
set_option maxHeartbeats 4000000
namespace M
open PySem L2
theorem _root_.L2.Room.units5 {k : Nat} {A : Around} (r : Room k A) : A.units + 65 < cLine := by have := r.un; omega
/-- a def, wherever it is called -/
structure Callee (P : Program) (w : World) (K : PySem.W.Frag) (mg : Str → Option Value) (base : Heap) (k : Kn) (lv : Nat) (x : Str) (n : Nat) (fr : Bool) (den : List D → R D) : Prop where
  ex : ∃ (f : Addr) (fd : FuncData) (ps : List Str), ps.length = n ∧ FnOk P w K mg base CX0 lv f fd ps (SpF k fr n den) ∧ mg x = some (.ref f) ∧ PySem.W.keepIn K (.ref f) = true ∧ Binds K fd ps []
theorem Callee.mk' {P : Program} {w : World} {K : PySem.W.Frag} {mg : Str → Option Value} {base : Heap} {k : Kn} {lv : Nat} {x : Str} {n : Nat} {fr : Bool} {den : List D → R D} (f : Addr) (fd : FuncData) (ps : List Str) (hn : ps.length = n) (h1 : FnOk P w K mg base CX0 lv f fd ps (SpF k fr n den)) (h2 : mg x = some (.ref f)) (h3 : PySem.W.keepIn K (.ref f) = true) (h4 : Binds K fd ps []) :
    Callee P w K mg base k lv x n fr den := ⟨f, fd, ps, hn, h1, h2, h3, h4⟩
theorem Callee.at {X : Cx} {k : Kn} {lv m : Nat} {x : Str} {n : Nat} {fr : Bool} {den : List D → R D} (h : Callee X.prog X.w X.K X.mg X.base k lv x n fr den) (hr : Room m X.A) (hle : lv ≤ m) : Fn0 X k x n fr den := by
  obtain ⟨f, fd, ps, hn, h1, h2, h3, h4⟩ := h.ex
  exact ⟨f, fd, lv, ps, hn, h1, hr.mono hle, h2, h3, h4⟩
/-- a name of the module that stands for a datum -/
structure Gc (mg : Str → Option Value) (k : Kn) (x : Str) (d : D) : Prop where
  ex : ∃ v u, mg x = some u ∧ RelV v u ∧ ∀ G, RD k G d v
section
variable {X : Cx} {c : Cf} {k : Kn} {kd k1 k2 k3 : Kd} {a b e o : Expr} {f g h : FE} {pos apos cpos p' : Pos} {fr : Bool} {x y : Str}
def eG (d : D) : FE := fun _ => .ok d
theorem d_g {d : D} (h : Gc X.mg c.k x d) (hg : Gl X x := by rfl) (hd : (x == ("__debug__" : Str)) = false := by decide) : PE' X c .st (.Name x pos) (eG d) := by
  obtain ⟨v, u, hm, r, rd⟩ := h.ex
  exact cst_of (pe_glob hg hm r hd) rd
/-- a built-in class as a value -/
def eY (n : String) : FE := fun _ => .ok (.ty n)
theorem d_ty (n : String) (hm : X.mg x = none) (hv : bootBuiltins x = some (.type n) := by decide +kernel) (hg : Gl X x := by rfl) (hn : x ≠ "__name__" := by decide) (hd : (x == ("__debug__" : Str)) = false := by decide) : PE' X c .st (.Name x pos) (eY n) :=
  cst_of (pe_bltn (v := .ty n) hg hm hv rfl hn hd) fun _ => .ty n
/-! ### isinstance against built-in classes -/
def tyN : D → Option String
  | .non => some "NoneType"
  | .bl _ => some "bool"
  | .int _ => some "int"
  | .str _ => some "str"
  | .tup _ => some "tuple"
  | .lst _ => some "list"
  | .dic _ _ => some "dict"
  | .dit _ _ => some "dict"
  | _ => none
theorem Now.tyX (hk : k.K = X.K) {G H : Hp} {d : D} {v : V} {n : String} (e : Ex G H) (w : Now k G H d v) (h : tyN d = some n) : TyX X.K H v (.type n) := by
  cases d <;> simp only [tyN] at h <;> first | (cases h; done) | skip
  · cases h; obtain rfl := w.non; exact .base .non
  · cases h; obtain rfl := w.bl; exact .base (.bl _)
  · cases h; obtain rfl := w.int; exact .base (.int _)
  · cases h; obtain rfl := w.str; exact .base (.str _)
  · cases h; obtain ⟨a, vs, rfl, ha, r⟩ := w.tup
    rcases e.sqU ha with q | ⟨o, its, m, q1, q2, q3⟩
    · exact .base (.tup q)
    · exact .kTuple (hk ▸ q1) q2
  · cases h; obtain ⟨a, vs, rfl, ha, r⟩ := w.lst e; exact .base (.lst ha)
  · cases h; obtain ⟨a, vs, rfl, ha, r⟩ := w.dic e; exact .base (.dK ha)
  · cases h; obtain ⟨a, vs, rfl, ha, r⟩ := w.dit e; exact .base (.dT ha)
def isiD : D → D → R D
  | x, .ty b => (match tyN x with
    | some a => (match kitB a b with
      | some r => .ok (.bl r)
      | none => .fail)
    | none => .fail)
  | _, _ => .fail
theorem c_isi (hk : k.K = X.K) : ClR X k (.builtin "isinstance") .st (f2 isiD) := cl2 call_isi fun G H x v y u d e n m hg Q p => by
  unfold isiD at hg
  split at hg
  · split at hg
    · rename_i ha
      split at hg
      · rename_i hb
        cases hg; obtain rfl := m.ty
        exact ⟨v, _, _, _, _, rfl, .ty _, n.tyX hk e ha, kit_ty hb, p _ G H (Step.refl e) (.bl _)⟩
      · cases hg
    · cases hg
  · cases hg
/-! ### slices -/
theorem SlR.or {r r' : V → Option Int → Option Int → Hp → VK → Prop} (h : SlR X r) (h' : SlR X r') : SlR X (fun x l u H Q => r x l u H Q ∨ r' x l u H Q) := fun pins s σ H x v vl vu lo hi sl Q I rx hs h1 h2 q => by
  rcases q with q | q
  · exact h pins s σ H x v vl vu lo hi sl Q I rx hs h1 h2 q
  · exact h' pins s σ H x v vl vu lo hi sl Q I rx hs h1 h2 q
abbrev FO := Env → R (Option Int)
def PostO (c : Cf) (G : Hp) (S : Env) (σ : St) (H : Hp) (Q : Option Int → Hp → Prop) : R (Option Int) → Prop
  | .ok b => ∀ G' H', Step G H G' H' → Q b H'
  | .exc x => PX c x
  | .fail => False
def RdO (c : Cf) (f : FO) : TO := fun σ H Q => ∃ G S, Rel c G S σ H ∧ PostO c G S σ H Q (f S)
abbrev PO' (X : Cx) (c : Cf) (e : Option Expr) (f : FO) : Prop := PO X e (RdO c f)
def oN : FO := fun _ => .ok none
def toI : D → R (Option Int)
  | .int i => .ok (some i)
  | _ => .fail
def oS (f : FE) : FO := fun S => f S >>= toI
theorem d_on : PO' X c none oN := poI po_none fun σ H Q ⟨G, S, rel, p⟩ => p G H (Step.refl rel.st.gh)
theorem d_os (he : PE' X c k1 e f) : PO' X c (some e) (oS f) := poI (po_some he) fun σ H Q ⟨G, S, rel, p⟩ => by
  refine rdE_go (g := toI) (Post := PostO c G S σ H Q) rel p (fun _ z => z) (fun z => z) fun d v G' H' s q p1 => ?_
  cases d with
  | int i => exact ⟨i, q.now.int, p1 G' H' s⟩
  | _ => exact p1.elim
def cutL {α : Type} (xs : List α) (lo hi : Option Int) : List α := List.take (HT.sIx xs.length xs.length hi - HT.sIx xs.length 0 lo) (List.drop (HT.sIx xs.length 0 lo) xs)
def slD (x : D) (lo hi : Option Int) : R D := match x with
  | .lst xs => .ok (.lst (cutL xs lo hi))
  | .tup xs => .ok (.tup (cutL xs lo hi))
  | .str z => if z.length ≤ sizeLine then .ok (.str (cutS z lo hi)) else .fail
  | _ => .fail
def eSl (f : FE) (l h : FO) : FE := fun S => f S >>= fun x => l S >>= fun lo => h S >>= fun hi => (slD x lo hi).nox
theorem RDs.cutL {G : Hp} {ds : List D} {vs : List V} (r : RDs k G ds vs) (lo hi : Option Int) : RDs k G (M.cutL ds lo hi) (cutV vs lo hi) := by
  unfold M.cutL cutV
  rw [← r.length]
  exact (r.drop _).take _
theorem rdO_go {f : FO} {G H : Hp} {S : Env} {σ : St} {Q : Option Int → Hp → Prop} {β : Type} {g : Option Int → R β} {Post : R β → Prop} (r : Rel c G S σ H) (p : Post (f S >>= g))
    (hx : ∀ x, Post (.exc x) → PX c x) (hf : Post .fail → False) (k : ∀ d G' H', Step G H G' H' → Post (g d) → Q d H') : RdO c f σ H Q := by
  refine ⟨G, S, r, ?_⟩
  cases e : f S with
  | ok d => rw [e] at p; exact fun G' H' s => k d G' H' s p
  | exc x => rw [e] at p; exact hx x p
  | fail => rw [e] at p; exact hf p
theorem d_sl {lo hi : Option Expr} {fl fh : FO} {p2 : Pos} (hk : c.k.K = X.K) (he : PE' X c k1 e f) (hl : PO' X c lo fl) (hh : PO' X c hi fh) : PE' X c .st (.Subscript e (.Slice lo hi none p2) pos) (eSl f fl fh) :=
  peI (pe_slice (SlR.or sl_list (SlR.or sl_tupA sl_str)) he hl hh) fun σ H Q ⟨G, S, rel, p⟩ => by
    refine rdE_go (g := fun x => fl S >>= fun lo => fh S >>= fun hi => (slD x lo hi).nox) (Post := PostE c .st G S σ H Q) rel p (fun _ z => z) (fun z => z) fun d v G1 H1 s1 q1 p1 => ?_
    refine rdO_go (g := fun lo => fh S >>= fun hi => (slD d lo hi).nox) (Post := PostE c .st G S σ H Q) (rel.grow s1) p1 (fun _ z => z) (fun z => z) fun lo G2 H2 s2 p2 => ?_
    refine rdO_go (g := fun hi => (slD d lo hi).nox) (Post := PostE c .st G S σ H Q) ((rel.grow s1).grow s2) p2 (fun _ z => z) (fun z => z) fun hi G3 H3 s3 p3 => ?_
    have n := (q1.now.grow s2).grow s3
    have sp := (s1.trans s2).trans s3
    cases d with
    | lst xs =>
      obtain ⟨a, vs, rfl, ha, r⟩ := n.lst s3.gh
      exact .inl ⟨a, vs, rfl, SqL.of ha, fun p hp => p3 _ _ _ (sp.trans (Step.new s3.gh hp)) (.lst upd_same ((r.cutL lo hi).mono (Ex.new (s3.gh.free hp))))⟩
    | tup xs =>
      obtain ⟨a, vs, rfl, ha, r⟩ := n.tup
      refine .inr (.inl ⟨a, vs, rfl, hk ▸ s3.gh.sqT ha.t, fun z => ?_, fun _ p hp => p3 _ _ _ (sp.trans (Step.new s3.gh hp)) (.tup (SqU.of upd_same) ((r.cutL lo hi).mono (Ex.new (s3.gh.free hp))))⟩)
      have e1 : cutL xs lo hi = xs := by
        unfold cutL
        rw [r.length, z.1, z.2, List.drop_zero, Nat.sub_zero, ← r.length, List.take_length]
      have p3 : PostE c .st G S σ H Q (.ok (.tup (cutL xs lo hi))) := p3
      rw [e1] at p3
      exact p3 _ _ _ sp (.tup ha r)
    | str z =>
      obtain rfl := n.str
      have p3 : PostE c .st G S σ H Q (if z.length ≤ sizeLine then .ok (.str (cutS z lo hi)) else .fail : R D).nox := p3
      by_cases hz : z.length ≤ sizeLine
      · rw [if_pos hz] at p3
        exact .inr (.inr ⟨z, rfl, hz, p3 _ _ _ sp (.str _)⟩)
      · rw [if_neg hz] at p3; exact p3.elim
    | _ => exact p3.elim
/-- xs[::-1] -/
def revD : D → R D
  | .lst xs => .ok (.lst xs.reverse)
  | _ => .fail
theorem d_rev {kk : Nat} {p1 p2 p3 : Pos} (he : PE' X c k1 e f) : PE' X c .fr (.Subscript e (.Slice none none (some (.UnaryOp .USub (.Constant (.int 1) kk p1) p2)) p3) pos) (e1 revD f) :=
  peI (pe_revL he) fun σ H Q q => e1_go (r := fun x H1 Q => ∃ a xs, x = V.ref a ∧ SqL X.K H1 a xs ∧ ∀ p, H1 p = none → Q (V.ref p) (upd H1 p (.lst xs.reverse))) (fun G H d u r ex n hg Q p => by
    cases d <;> simp only [revD] at hg <;> first | (cases hg; done) | skip
    cases hg; obtain ⟨a, vs, rfl, ha, r⟩ := n.lst ex
    exact ⟨a, vs, rfl, SqL.of ha, fun pp hp => p _ _ _ (Step.new' ex hp) ⟨pp, _, rfl, ex.free hp, hp, upd_same, .lst r.reverse⟩⟩) q
/-- [..] * n, new -/
def mulL : D → D → R D
  | .lst xs, .int j => if -(2 ^ 63) ≤ j ∧ j < 2 ^ 63 ∧ xs.length * j.toNat ≤ sizeLine then .ok (.lst (List.replicate j.toNat xs).flatten) else .fail
  | _, _ => .fail
theorem o_mulL : Op2 X k (binaryOp .Mult) .fr mulL := by
  refine ⟨_, op_rep, ?_⟩
  intro G H x y u v d e nx ny hg Q q
  unfold mulL at hg
  split at hg
  · split at hg
    · rename_i hc
      cases hg; obtain rfl := ny.int
      obtain ⟨a, vs, rfl, ha, ra⟩ := nx.lst e
      exact ⟨a, _, vs, rfl, rfl, ha, hc.1, hc.2.1, by rw [← ra.length]; exact hc.2.2, fun p hp => q _ _ _ (Step.new' e hp) ⟨p, _, rfl, e.free hp, hp, upd_same, .lst (ra.rep _)⟩⟩
    · cases hg
  · cases hg
/-! ### statements -/
/-- a new object goes to a slot, frozen -/
theorem setF_go {i : Nat} {Dn : Ends} {σ : St} {H : Hp} (q : RdS c fr [i] (sSet i f) Dn σ H) : RdE c .fr f σ H fun x H1 => gName i x σ H1 Dn.nx := by
  obtain ⟨G, S, rel, p⟩ := q
  refine rdE_go (g := fun d => .ok (Fl.nx, S.set i (some ⟨false, d⟩))) (Post := PostS c fr [i] G S σ H Dn) rel p (fun _ z => z) (fun z => z) fun d v G' H' sp q p1 => ?_
  obtain ⟨a, o, rfl, hg, hn, ha, ct⟩ := q
  have sp2 : Step G H (upd G' a o) H' := sp.frz ha hn hg
  exact p1 _ _ H' sp2.g ((rel.grow sp2).setS i ((ct.mono (Ex.new hg)).rd upd_same)) ((Frm.step (as := []) rel sp2).trans (Frm.set i _ _))
theorem s_lcZ (i : Nat) {py spos : Pos} {tg elt iter : Expr} {t : FT} {ifs : List Expr} {scope : Scope} (own : List (Str × Nat)) {ki gs : List Nat} {fi : FI} {ga : FG} {fe : FE} (hc : X.calm = true) (hN : X.N.Nodup) (hi : PI' X c ki tg iter fi) (ok : BlkOk X.N X.env.scope scope own)
    (hg : ∀ (s : Shared) (H : Hp) (C : Addr) (cl : List (Str × Addr)) (fp : List Addr), PG' (X.blk s H scope (compEnvC scope cl C X.env) fp) c.nx gs tg ga) (ht : ∀ (s : Shared) (H : Hp) (C : Addr) (cl : List (Str × Addr)) (fp : List Addr), PTs' (X.blk s H scope (compEnvC scope cl C X.env) fp) c.nx ifs t)
    (he : ∀ (s : Shared) (H : Hp) (C : Addr) (cl : List (Str × Addr)) (fp : List Addr), PE' (X.blk s H scope (compEnvC scope cl C X.env) fp) c.nx .st elt fe) (hy : X.N[i]? = some y := by rfl) (hyl : X.env.scope.names.lookup y = some .local := by rfl)
    (hsw : swapsWith (.ListComp elt [⟨tg, iter, ifs, 0⟩] scope pos) (some (.Name y py)) spos.line X.env = pure true := by exact sw_true rfl rfl rfl (by decide +kernel)) (hgs : ∀ i, i ∈ gs → i ∈ own.map (·.2) := by decide) (hs : ∀ x, foldedSetIterable iter X.env x = pure x := by intro _; rfl) :
    PS' X c fr [i] (.Assign [.Name y py] (.ListComp elt [⟨tg, iter, ifs, 0⟩] scope pos) spos) (sSet i (lcE fi ga t fe (own.map (·.2)))) :=
  psI (ps_setLc hc hN hy hyl hsw hi ok hg ht he hs) fun Dn σ H q => lc_go (fun _ _ _ _ z => z) (fun _ _ _ z => z) (fun _ _ _ z => z) hgs (setF_go q)
/-- x op= e, ints -/
def sAug (i : Nat) (o : D → D → R D) (f : FE) : FS := fun S => eV i S >>= fun x => f S >>= fun y => (o x y).nox >>= fun z => .ok (.nx, S.set i (some ⟨false, z⟩))
theorem eV_exc {i : Nat} {S : Env} {x : Exc} : eV i S ≠ .exc x := by unfold eV; split <;> intro h <;> cases h
theorem eV_of {i : Nat} {S : Env} {d : D} (h : eV i S = .ok d) : S[i]? = some (some ⟨false, d⟩) := by
  unfold eV at h
  split at h
  · cases h; assumption
  · cases h
def IpI (X : Cx) (op : Operator) (o : D → D → R D) : Prop := ∃ gf : Int → Int → Int, PIp X op (ipI gf) ∧ ∀ x y d, o x y = .ok d → (∀ i j, x = .int i → y = .int j → d = .int (gf i j))
theorem i_add : IpI X .Add addD := ⟨_, ip_add, fun x y d h i j e1 e2 => by subst e1; subst e2; simp only [addD] at h; cases h; rfl⟩
theorem i_sub : IpI X .Sub subD := ⟨_, ip_sub, fun x y d h i j e1 e2 => by subst e1; subst e2; simp only [subD] at h; cases h; rfl⟩
/-- both are ints -/
def bothI : D → D → Bool
  | .int _, .int _ => true
  | _, _ => false
def sAugI (i : Nat) (o : D → D → R D) (f : FE) : FS := fun S => eV i S >>= fun x => f S >>= fun y => if bothI x y then (o x y).nox >>= fun z => .ok (.nx, S.set i (some ⟨false, z⟩)) else .fail
theorem s_aug (i : Nat) {op : Operator} {oo : D → D → R D} (ho : IpI X op oo) (hN : X.N.Nodup) (he : PE' X c k1 e f) (hi : X.N[i]? = some x := by rfl) (hx : Loc X.env.scope x := by first | exact Or.inl rfl | exact Or.inr rfl) (hf : X.fn x = true ∨ X.env.scope.names.lookup x = some .local := by first | exact .inl rfl | exact .inr rfl) :
    PS' X c fr [i] (.AugAssign (.Name x p') op e pos) (sAugI i oo f) := by
  obtain ⟨gf, h1, h2⟩ := ho
  refine psI (ps_aug hN hi hx he h1 hf) fun Dn σ H ⟨G, S, rel, p⟩ => ?_
  have p : PostS c fr [i] G S σ H Dn (eV i S >>= fun x => f S >>= fun y => if bothI x y then (oo x y).nox >>= fun z => .ok (.nx, S.set i (some ⟨false, z⟩)) else .fail) := p
  cases e0 : eV i S with
  | exc x => exact absurd e0 eV_exc
  | fail => rw [e0] at p; exact p.elim
  | ok d =>
    rw [e0, R.ok_bind] at p
    obtain ⟨v, es, rv⟩ := rel.fz i d (eV_of e0)
    refine ⟨v, es, ?_⟩
    refine rdE_go (Post := PostS c fr [i] G S σ H Dn) rel p (fun _ z => z) (fun z => z) fun d2 v2 G' H' sp q p1 => ?_
    by_cases hb : bothI d d2 = true
    · rw [if_pos hb] at p1
      cases d <;> first | (simp [bothI] at hb; done) | skip
      cases d2 <;> first | (simp [bothI] at hb; done) | skip
      rename_i a1 a2
      cases rv
      obtain rfl := q.now.int
      cases e1 : oo (.int a1) (.int a2) with
      | exc x => rw [e1] at p1; exact p1.elim
      | fail => rw [e1] at p1; exact p1.elim
      | ok z =>
        rw [e1] at p1
        have := h2 _ _ _ e1 a1 a2 rfl rfl
        subst this
        exact ⟨a1, a2, rfl, rfl, p1 G' _ H' sp.g ((rel.grow sp).setS i (.int _)) ((Frm.step (as := []) rel sp).trans (Frm.set i _ _))⟩
    · rw [if_neg hb] at p1; exact p1.elim
/-- a, b = x, y and a, b, c = x, y, z -/
def putS (S : Env) : List Nat → List D → Env
  | i :: is, d :: ds => putS (S.set i (some ⟨false, d⟩)) is ds
  | _, _ => S
def sPar (is : List Nat) (fa : FA) : FS := fun S => fa S >>= fun ds => if ds.length = is.length then .ok (.nx, putS S is ds) else .fail
theorem s_par2 (i j : Nat) {fa : FA} {px py pt pt2 : Pos} {kt kk : Nat} (hN : X.N.Nodup) (ha : PA' X c false [a, b] fa) (hi : X.N[i]? = some x := by rfl) (hj : X.N[j]? = some y := by rfl) (hij : i ≠ j := by decide) (hx : X.env.scope.names.lookup x = some .local := by rfl) (hy : X.env.scope.names.lookup y = some .local := by rfl)
    (hc : X.calm = true := by rfl) (hsw : swappedStores [.Tuple [.Name x px, .Name y py] kt pt] (.Tuple [a, b] kk pt2) X.env = pure (some [x, y]) := by rfl) (hs : swapsWithSole [.Tuple [.Name x px, .Name y py] kt pt] (.Tuple [a, b] kk pt2) pos.line X.env = pure false := by rfl) :
    PS' X c fr [i, j] (.Assign [.Tuple [.Name x px, .Name y py] kt pt] (.Tuple [a, b] kk pt2) pos) (sPar [i, j] fa) :=
  psI (ps_par hc hN hi hj hij hx hy ha hsw hs) fun Dn σ H ⟨G, S, rel, p⟩ => by
    refine rdA_go (g := fun ds => if ds.length = [i, j].length then .ok (Fl.nx, putS S [i, j] ds) else .fail) (Post := PostS c fr [i, j] G S σ H Dn) rel p (fun _ z => z) (fun z => z) fun ds vs G' H' sp q p1 => ?_
    have q : RDs c.k G' ds vs := q
    rcases q with _ | ⟨r1, _ | ⟨r2, _ | ⟨r3, r4⟩⟩⟩
    · exact p1.elim
    · exact p1.elim
    · exact ⟨_, _, rfl, p1 G' _ H' sp.g (((rel.grow sp).setS i r1).setS j r2) ((Frm.step (as := []) rel sp).trans ((Frm.set i _ _).trans (Frm.set j _ _)))⟩
    · simp only [List.length_cons, List.length_nil] at p1; rw [if_neg (by omega)] at p1; exact p1.elim
theorem s_par3 (i j l : Nat) {z : Str} {cc : Expr} {fa : FA} {px py pz pt pt2 : Pos} {kt kk : Nat} (hN : X.N.Nodup) (ha : PA' X c false [a, b, cc] fa) (hi : X.N[i]? = some x := by rfl) (hj : X.N[j]? = some y := by rfl) (hl : X.N[l]? = some z := by rfl) (hij : i ≠ j := by decide) (hil : i ≠ l := by decide) (hjl : j ≠ l := by decide)
    (hx : X.env.scope.names.lookup x = some .local := by rfl) (hy : X.env.scope.names.lookup y = some .local := by rfl) (hz : X.env.scope.names.lookup z = some .local := by rfl)
    (hc : X.calm = true := by rfl) (hsw : swappedStores [.Tuple [.Name x px, .Name y py, .Name z pz] kt pt] (.Tuple [a, b, cc] kk pt2) X.env = pure (some [x, y, z]) := by rfl) (hs : swapsWithSole [.Tuple [.Name x px, .Name y py, .Name z pz] kt pt] (.Tuple [a, b, cc] kk pt2) pos.line X.env = pure false := by rfl) :
    PS' X c fr [i, j, l] (.Assign [.Tuple [.Name x px, .Name y py, .Name z pz] kt pt] (.Tuple [a, b, cc] kk pt2) pos) (sPar [i, j, l] fa) :=
  psI (ps_par3 hc hN hi hj hl hij hil hjl hx hy hz ha hsw hs) fun Dn σ H ⟨G, S, rel, p⟩ => by
    refine rdA_go (g := fun ds => if ds.length = [i, j, l].length then .ok (Fl.nx, putS S [i, j, l] ds) else .fail) (Post := PostS c fr [i, j, l] G S σ H Dn) rel p (fun _ z => z) (fun z => z) fun ds vs G' H' sp q p1 => ?_
    have q : RDs c.k G' ds vs := q
    rcases q with _ | ⟨r1, _ | ⟨r2, _ | ⟨r3, _ | ⟨r4, r5⟩⟩⟩⟩
    · exact p1.elim
    · exact p1.elim
    · exact p1.elim
    · exact ⟨_, _, _, rfl, p1 G' _ H' sp.g ((((rel.grow sp).setS i r1).setS j r2).setS l r3) ((Frm.step (as := []) rel sp).trans ((Frm.set i _ _).trans ((Frm.set j _ _).trans (Frm.set l _ _))))⟩
    · simp only [List.length_cons, List.length_nil] at p1; rw [if_neg (by omega)] at p1; exact p1.elim
end
end M
set_option Elab.async false
set_option linter.all false
set_option maxRecDepth 100000
set_option maxHeartbeats 4000000
namespace M
open PySem L2
/-! ### {elt for target in iter if ..}, the set told by a family of objects -/
section
variable {τ κ : Type}
/-- the new set's object -/
def freshSet (w : World) : Obj := { cls := .type "set", dict := none, data := .set #[] 0 (.fresh 0 0 (!w.params.followText "set-order")) }
structure Fam (P : Program) (w : World) (K : PySem.W.Frag) (τ κ : Type) where
  ob : τ → Addr → HO
  t0 : τ
  pre : τ → V → κ → Hp → Prop
  post : τ → V → κ → τ → Prop
  new : ∀ (H : Hp) (h : Heap) (a : Addr), h.get? a = some (freshSet w) → ObjOk P w H h a (ob t0 a)
  add : ∀ (X : Cx), X.prog = P → X.w = w → X.K = K → X.A.units + 64 < cLine → ∀ (pins : List (Addr × Obj)) (s : Shared) (σ : L2.St) (H : Hp) (S : Addr) (t : τ) (y : V) (kk : κ) (u : Value) (Q : Value → Shared → Prop) (E : Value → Shared → Prop), Inv X pins σ H s → H S = some (ob t S) → RelV y u → pre t y kk H →
    (∀ t' s', post t y kk t' → Inv X pins σ (upd H S (ob t' S)) s' → Q .none s') → wpAny (model P w) X.A (call (.builtin "set.add") [.ref S, u]) Q E s
def tScG {P : Program} {w : World} {K : PySem.W.Frag} (F : Fam P w K τ κ) (wi : TI) (g : TG) (tt : TT) (te : TE) (vs : List Nat) : TE := fun σ H Q => wi σ H fun J H1 => ∀ S, H1 S = none → ∃ W : Nat → Nat → Hp → Prop, (∃ m, W 0 m (upd H1 S (F.ob F.t0 S))) ∧ ∀ i m H, W i m H →
  (J.stop i H ∧ Q (.ref S) H) ∨ (J.go i H ∧ ∃ Nx : Hp → Prop, (∀ H', Nx H' → ∃ m', m' < m ∧ W (i + 1) m' H') ∧ ∀ x H', J.yld i H x H' → g x (L2.wipe σ vs) H' fun σ2 H2 => L2.wipe σ2 vs = L2.wipe σ vs ∧ tt σ2 H2 fun b H3 =>
    if b = true then te σ2 H3 fun y H4 => ∃ t kk, H4 S = some (F.ob t S) ∧ F.pre t y kk H4 ∧ ∀ t', F.post t y kk t' → Nx (upd H4 S (F.ob t' S)) else Nx H3)
variable {X : Cx}
theorem pe_scG (F : Fam X.prog X.w X.K τ κ) {elt tg iter : Expr} {ifs : List Expr} {scope : Scope} {own : List (Str × Nat)} {pos : Pos} {wi : TI} {g : TG} {tt : TT} {te : TE} (hu : X.A.units + 64 < cLine) (hc : X.calm = true) (hN : X.N.Nodup) (hi : PI X tg iter wi) (ok : BlkOk X.N X.env.scope scope own)
    (hg : ∀ (s : Shared) (H : Hp) (C : Addr) (cl : List (Str × Addr)) (fp : List Addr), PG (X.blk s H scope (compEnvC scope cl C X.env) fp) tg g) (ht : ∀ (s : Shared) (H : Hp) (C : Addr) (cl : List (Str × Addr)) (fp : List Addr), PTs (X.blk s H scope (compEnvC scope cl C X.env) fp) ifs tt)
    (he : ∀ (s : Shared) (H : Hp) (C : Addr) (cl : List (Str × Addr)) (fp : List Addr), PE (X.blk s H scope (compEnvC scope cl C X.env) fp) elt te) (hs : ∀ x, foldedSetIterable iter X.env x = pure x := by intro _; rfl) :
    PE X (.SetComp elt [⟨tg, iter, ifs, 0⟩] scope pos) (tScG F wi g tt te (own.map (·.2))) := by
  constructor
  intro pins s σ H Q I rd
  rw [PpSet.eval_SetComp]
  have cells : ∀ y ∈ scope.names, y.2 = .free → ∃ c, X.env.cells.lookup y.1 = some c := fun y hy e => (ok.free y hy e).elim (fun k => I.ok.has _ (.inl k)) fun k => I.ok.has _ (.inr k)
  refine wpAny_comprehension_free (use := none) rfl hs (closure_ok cells) ok.kind (fun y hy e => by rw [ok.uniq y hy, e]) (thn (hi.run pins s σ H _ I rd) fun xv s1 hx => thn hx fun itv s2 h2 => ?_)
  obtain ⟨it, fp, tn, J, H2, rfl, I2, T, st2, f2, q⟩ := h2
  refine PpSet.newSet_ok (newEnv_comp ?_)
  -- the new set stands at a new place
  have hfr : H2 s2.heap.objs.size = none := I2.hok.fresh (Nat.le_refl _)
  generalize hA : s2.heap.objs.size = A0 at hfr
  obtain ⟨W, ⟨m0, w0⟩, turn⟩ := q A0 hfr
  obtain ⟨s3, hs3⟩ : ∃ s3 : Shared, s3 = { s2 with heap := s2.heap.push (freshSet X.w) } := ⟨_, rfl⟩
  obtain ⟨H3, hH3⟩ : ∃ H3 : Hp, H3 = upd H2 A0 (F.ob F.t0 A0) := ⟨_, rfl⟩
  have old : ∀ b o, s2.heap.get? b = some o → s3.heap.get? b = some o := fun b o e => by rw [hs3]; exact Heap.get?_push_of_some _ e
  have I3 : Inv X pins σ H3 s3 := by
    rw [hs3, hH3]
    exact I2.laid (t' := s2.toks) (fun b o e => Heap.get?_push_of_some _ e) (Nat.le_of_eq hA) (F.new _ _ _ (by rw [← hA]; exact Heap.get?_push_size _ rfl))
  have there : ∀ b ∈ fp, b < s2.heap.objs.size := fun b hb => by
    obtain ⟨o, e, _⟩ := T.obj _ _ st2 b hb
    exact Heap.lt_size e
  have f3 : ∀ b ∈ fp, FpOk X pins H3 b ∧ b < s3.heap.objs.size := fun b hb => by
    have lt := there b hb
    refine ⟨⟨?_, (f2 b hb).2⟩, by rw [hs3]; exact (Heap.size_push ..).symm ▸ Nat.lt_succ_of_lt lt⟩
    rw [hH3, upd_ne (by rw [← hA]; exact Nat.ne_of_lt lt)]
    exact (f2 b hb).1
  have st3 : tn 0 s3.heap := T.keep _ _ _ st2 fun b _ o e => old b o e
  have I4 := block_start I3 ok hN f3
  have pg := hg s3 H3 s3.heap.objs.size (cellsFrom (s3.heap.objs.size + 1) scope.names (cloFrom X.env.cells scope.names [])) fp
  have pt := ht s3 H3 s3.heap.objs.size (cellsFrom (s3.heap.objs.size + 1) scope.names (cloFrom X.env.cells scope.names [])) fp
  have pe := he s3 H3 s3.heap.objs.size (cellsFrom (s3.heap.objs.size + 1) scope.names (cloFrom X.env.cells scope.names [])) fp
  have goal : codeAny (model X.prog X.w) X.A (.compStart (.SetComp elt [⟨tg, iter, ifs, 0⟩] scope pos) 0 (.ref it) (.ref A0) (compEnvC scope (cellsFrom (s3.heap.objs.size + 1) scope.names (cloFrom X.env.cells scope.names [])) s3.heap.objs.size X.env))
      (compPost (model X.prog X.w) X.A X.xe none (EP X pins σ Q) (.ref A0) s3.heap.objs.size) { s3 with heap := pushCells (s3.heap.push { cls := .type "dict", data := .dict #[] }) scope.names } := by
    generalize hce : compEnvC scope (cellsFrom (s3.heap.objs.size + 1) scope.names (cloFrom X.env.cells scope.names [])) s3.heap.objs.size X.env = ce at I4 pg pt pe ⊢
    have cL : ce.locals = s3.heap.objs.size := by subst hce; rfl
    generalize hs4 : ({ s3 with heap := pushCells (s3.heap.push { cls := .type "dict", data := .dict #[] }) scope.names } : Shared) = s4 at I4 ⊢
    have st4 : tn 0 s4.heap := T.keep _ _ _ st3 fun b _ o e => by rw [← hs4]; exact pushCells_keeps _ _ _ _ (Heap.get?_push_of_some _ e)
    have fpo : ∀ {σ' : L2.St} {H' : Hp} {s' : Shared}, Inv (X.blk s3 H3 scope ce fp) [] σ' H' s' → (∀ b ∈ fp, H' b = none) → ∀ b ∈ fp, FpOk (X.blk s3 H3 scope ce fp) [] H' b := fun {σ' H' s'} J' hn b hb =>
      ⟨hn b hb, (J'.ok.exf b hb).1, J'.ok.exfs b hb, .inl hb, (J'.ok.exf b hb).2, fun p hp => by cases (show p ∈ ([] : List (Addr × Obj)) from hp)⟩
    have loop : codeAny (model X.prog X.w) X.A (.compLoop (.SetComp elt [⟨tg, iter, ifs, 0⟩] scope pos) 0 (.ref it) (.ref A0) ce) (compPost (model X.prog X.w) X.A X.xe none (EP X pins σ Q) (.ref A0) s3.heap.objs.size) s4 := by
      refine PpSet.compLoopS_any (fun n s' => ∃ i H', Inv (X.blk s3 H3 scope ce fp) [] (L2.wipe σ (own.map (·.2))) H' s' ∧ tn i s'.heap ∧ (∀ b ∈ fp, H' b = none) ∧ W i n H') ?_ m0 ⟨0, H3, I4, st4, fun b hb => (f3 b hb).1.1, by rw [hH3]; exact w0⟩
      rintro n s5 ⟨i, H5, I5, st5, n5, w5⟩
      rcases turn i n H5 w5 with ⟨stop, qq⟩ | ⟨go, Nx, hNx, step⟩
      · refine thnF (T.done (X.blk s3 H3 scope ce fp) rfl rfl rfl hc i [] s5 _ H5 (fun _ _ => False) I5 (fpo I5 n5) st5 stop) fun r s6 ⟨hr, I6⟩ => ?_
        subst hr
        have I7 : Inv X pins σ H5 s6 := I3.call' (ch := fp) I6.os I6.base I6.hok I6.bare fun b hb => ⟨(f3 b hb).1.2.2.2.1, (f3 b hb).1.2.1, (f3 b hb).1.2.2.2.2.1, (f3 b hb).1.2.2.2.2.2⟩
        have nC : H5 s3.heap.objs.size = none := by rw [← cL]; exact I6.free
        obtain ⟨m, hn, _⟩ := I6.loc
        have hn : s6.heap.Ns ce.locals m := hn
        rw [cL] at hn
        have fC := I3.fpOk (Nat.le_refl _) nC
        exact ⟨m, hn, fun h'' sb => ⟨.ref A0, H5, I7.turned (t' := s6.toks) (fun b o hb e => (sb.2 b hb).trans e) fC.1 fC.2.1 fC.2.2.2.1 fC.2.2.2.2.1 fC.2.2.2.2.2, rfl, qq⟩⟩
      · refine thnF (T.item (X.blk s3 H3 scope ce fp) rfl rfl rfl hc i [] s5 _ H5 (fun _ _ => False) I5 (fpo I5 n5) st5 go) fun r s6 ⟨u, hr, h6⟩ => ?_
        subst hr
        refine thnF h6 fun _ s7 ⟨x, H7, I7, r7, y7, st7, n7⟩ => ?_
        have I7' := I7.pinned (fpo I7 n7) (T.obj _ _ st7)
        refine thnF (pg.run _ s7 _ H7 x u _ I7' r7 (step x H7 y7)) fun _ s8 ⟨σ8, H8, I8, hw8, q8⟩ => ?_
        refine thnF (pt.run _ s8 σ8 H8 _ I8 q8) fun b s9 ⟨H9, I9, q9⟩ => ?_
        have fin : ∀ {s' : Shared} {H' : Hp}, Inv (X.blk s3 H3 scope ce fp) ([] ++ pinsAt fp s7.heap) σ8 H' s' → Nx H' → ∃ m, m < n ∧ ∃ i H', Inv (X.blk s3 H3 scope ce fp) [] (L2.wipe σ (own.map (·.2))) H' s' ∧ tn i s'.heap ∧ (∀ b ∈ fp, H' b = none) ∧ W i m H' := fun {s' H'} I' nx => by
          obtain ⟨m', hm, w'⟩ := hNx H' nx
          have pinned : ∀ b ∈ fp, ∀ o, s7.heap.get? b = some o → s'.heap.get? b = some o ∧ H' b = none := fun b hb o e =>
            let z := I'.pin (b, o) (List.mem_append_right _ (List.mem_append_right _ (mem_pinsAt hb e)))
            ⟨z.1, z.2.1⟩
          refine ⟨m', hm, i + 1, H', (I'.unpinned (pins := [])).weak (by rw [← hw8, wipe_length]) (fun j v e => ?_), T.keep _ _ _ st7 fun b hb o e => (pinned b hb o e).1, fun b hb => ?_, w'⟩
          · rw [← hw8] at e
            exact (wipe_some e).1
          · obtain ⟨o, e, _⟩ := T.obj _ _ st7 b hb
            exact (pinned b hb o e).2
        cases b with
        | false =>
          rw [if_neg Bool.false_ne_true] at q9 ⊢
          exact fin I9 q9
        | true =>
          rw [if_pos rfl] at q9 ⊢
          refine thnF (pe.run _ s9 σ8 H9 _ I9 q9) fun z s10 ⟨yv, H10, I10, r10, t, kk, ht10, hp10, nx⟩ => ?_
          exact F.add (X.blk s3 H3 scope ce fp) rfl rfl rfl hu _ s10 σ8 H10 A0 t yv kk z _ _ I10 ht10 r10 hp10 fun t' s11 hpost I11 => fin I11 (nx t' hpost)
    exact PpSet.codeAny_compStart_set loop (T.self X.A 0 _ _ _ st4 loop)
  rw [hs3] at goal
  exact goal
end
/-! ### a set of tuples of ints -/
section
theorem set_add_tup {P : Program} {w : World} {A : Around} {E : Value → Shared → Prop} {s : Shared} {a x : Addr} {L : List (Addr × List Int)} {es : Array (Int × Value)} {ep : Nat} {t : SetTable} {k : List Int} {Q : Value → Shared → Prop} (R : SetTR P w s.heap a L es ep t) (hx : IsT P w s.heap k x) (hu : A.units + 2 < cLine) (hfew : L.length + 1 < 64)
    (hQ : ∀ h' tk L' es' ep' t', Heap.SameBut a s.heap h' → SetTR P w h' a L' es' ep' t' → (k ∈ L.map (·.2) → L' = L) → (k ∉ L.map (·.2) → L'.Perm ((x, k) :: L)) → Q .none { s with heap := h', toks := tk }) : wpAny (model P w) A (call (.builtin "set.add") [.ref a, .ref x]) Q E s := by
  obtain ⟨o, ho, hex, hd⟩ := R.ob
  have hT : s.TypeIs (.ref a) "set" := ⟨o, ho, hex.1⟩
  refine wpAny_call_entry F.slot_set_add hT F.entry_set_add ?_ (F.args_set_add_2 _ _)
  unfold Builtin.«set.add» Builtin.Frozenset.oneOther
  simp only [List.isEmpty_nil, bind_assoc]
  unfold Builtin.Frozenset.addrOf setAdd
  refine wpAny_bind (wpAny_pure ?_)
  try dsimp only
  refine wpAny_bind (wpAny_pure ?_)
  try dsimp only
  refine wpAny_bind ?_
  refine wpAny_holding ?_
  refine wpAny_bind (wpAny_pyHash_tuple (by first | exact Nat.lt_of_le_of_lt (Nat.le_add_right _ _) hu | (show A.units + 1 < cLine; omega) | omega) hx ?_)
  refine add_at (s := { s with toks := s.toks + (k.length + 1) }) R hx (by first | exact Nat.lt_of_le_of_lt (Nat.le_add_right _ _) hu | (show A.units + 1 < cLine; omega) | omega) hfew fun b h' L' es' ep' t' sb R' c1 c2 => ?_
  show wpAny _ _ (ret Value.none) _ _ _
  exact wpAny_pure ⟨_, rfl, hQ h' _ L' es' ep' t' sb R' c1 c2⟩
def famT (P : Program) (w : World) (K : PySem.W.Frag) : Fam P w K (List (Addr × List Int)) (List Int) where
  ob := fun L a => SetTO P w a L
  t0 := []
  pre := fun L y k H => (∀ p ∈ L, SqT K H p.1 (p.2.map V.int)) ∧ L.length + 1 < 64 ∧ ∃ x, y = .ref x ∧ SqT K H x (k.map V.int)
  post := fun L y k L' => ∃ x, y = .ref x ∧ (k ∈ L.map (·.2) → L' = L) ∧ (k ∉ L.map (·.2) → L'.Perm ((x, k) :: L))
  new := fun H h a e => setTO_new (setTR_fresh e).t0
  add := by
    intro X hP hw hK hu pins s σ H S L y k u Q E I hS ry hp hq
    subst hP hw hK
    obtain ⟨h1, h2, x, rfl, h3⟩ := hp
    cases ry
    have R0 : SetT0 X.prog X.w s.heap S L := (I.hok S _ hS).1
    obtain ⟨es, ep, t, R⟩ := R0.full fun p hp => I.isT (h1 p hp)
    refine set_add_tup R (I.isT h3) (by omega) h2 fun h' tk L' es' ep' t' sb R' c1 c2 => ?_
    have he : ∃ u, h'.get? S = some u := by
      obtain ⟨o, ho, _⟩ := R'.ob
      exact ⟨o, ho⟩
    exact hq L' _ ⟨x, rfl, c1, c2⟩ (I.write (e := S) (t' := tk) (by rw [hS]; trivial) (.inl rfl) (fun b u hb hu => (sb.2 b hb).trans hu) he (setTO_new R'.t0))
/-- len of such a set -/
theorem call_lenT {X : Cx} : CallR X (.builtin "len") (fun xs H Q => ∃ a L, xs = [V.ref a] ∧ H a = some (SetTO X.prog X.w a L) ∧ (∀ p ∈ L, SqT X.K H p.1 (p.2.map V.int)) ∧ Q (.int L.length) H) := by
  intro pins s σ H xs us Q I r h
  obtain ⟨a, L, rfl, ha, ht, q⟩ := h
  rw [Vals.ref1 r]
  have R0 : SetT0 X.prog X.w s.heap a L := (I.hok a _ ha).1
  obtain ⟨es, ep, t, R⟩ := R0.full fun p hp => I.isT (ht p hp)
  obtain ⟨o, ho, hex, hd⟩ := R.ob
  have hs := R.size
  have hf := R.few
  refine call_len_set ho hex hd R.fits (by omega) ⟨.int L.length, H, I.tok _, ⟨_, by rw [hs]⟩, q⟩
/-- the keys of a list, each once -/
def nubT (acc : List (List Int)) (k : List Int) : List (List Int) := if k ∈ acc then acc else k :: acc
def nub (ks : List (List Int)) : List (List Int) := ks.foldl nubT []
def asT : D → Option (List Int)
  | .tup ds => asI ds
  | _ => none
def asTs : List D → Option (List (List Int))
  | [] => some []
  | d :: ds => match asT d, asTs ds with
    | some k, some ks => some (k :: ks)
    | _, _ => none
/-- len({elt for ..}), the elements tuples of ints -/
def lenSc (fi : FI) (ga : FG) (t : FT) (fe : FE) (vs : List Nat) : FE := fun S => fi S >>= fun ds => if ds.length < 60 then lcF ga t fe (wipeS S vs) ds >>= fun ys => (match asTs ys with
  | some ks => .ok (.int (nub ks).length)
  | none => .fail) else .fail
theorem RD.asT {k : Kn} {G : Hp} {d : D} {v : V} {ns : List Int} (r : RD k G d v) (h : M.asT d = some ns) : ∃ a, v = .ref a ∧ SqU k.K G a (ns.map V.int) := by
  cases d <;> simp only [M.asT] at h <;> first | (cases h; done) | skip
  cases r with
  | tup hs hr =>
    have := asI_of hr h
    subst this
    exact ⟨_, rfl, hs⟩
theorem lenSc_go {X : Cx} {c : Cf} {t : FT} {ki gs vs : List Nat} {fi : FI} {ga : FG} {fe : FE} {σ : L2.St} {H : Hp} {Q : VK} {gi : TG} {tt : TT} {te : TE} (hk : c.k.K = X.K) (hg : ∀ v σ H Q, RdG c.nx gs ga v σ H Q → gi v σ H Q) (ht : ∀ σ H Q, RdT c.nx t σ H Q → tt σ H Q) (he : ∀ σ H Q, RdE c.nx .st fe σ H Q → te σ H Q)
    (hgs : ∀ i, i ∈ gs → i ∈ vs) (q : RdE c .st (lenSc fi ga t fe vs) σ H Q) :
    tScG (famT X.prog X.w X.K) (RdI c ki fi) gi tt te vs σ H fun v H1 => ∃ a L, [v] = [V.ref a] ∧ H1 a = some (SetTO X.prog X.w a L) ∧ (∀ p ∈ L, SqT X.K H1 p.1 (p.2.map V.int)) ∧ Q (.int L.length) H1 := by
  obtain ⟨G, S, rel, p⟩ := q
  refine ⟨G, S, rel, ?_⟩
  have p : PostE c .st G S σ H Q (fi S >>= fun ds => if ds.length < 60 then lcF ga t fe (wipeS S vs) ds >>= fun ys => (match asTs ys with
    | some ks => .ok (.int (nub ks).length)
    | none => .fail) else .fail) := p
  cases e0 : fi S with
  | exc x => rw [e0] at p; exact p
  | fail => rw [e0] at p; exact p
  | ok ds =>
    rw [e0, R.ok_bind] at p
    by_cases hz : ds.length < 60
    · rw [if_pos hz] at p
      intro J G1 H1 sp it Dl hD
      have relb := ((rel.grow sp).wipe vs).cw (W := E0)
      refine ⟨fun i m H2 => m = ds.length - i ∧ i ≤ ds.length ∧ ∃ G2 L ac, Step G1 H1 G2 H2 ∧ G2 Dl = none ∧ H2 Dl = some (SetTO X.prog X.w Dl L) ∧ (∀ p ∈ L, SqU c.k.K G2 p.1 (p.2.map V.int)) ∧ (L.map (·.2)).Perm ac ∧ ac.length ≤ i ∧
          PostE c .st G S σ H Q (lcF ga t fe (wipeS S vs) (ds.drop i) >>= fun ys => (match asTs ys with
            | some ks => .ok (.int (ks.foldl nubT ac).length)
            | none => .fail)),
        ⟨_, rfl, Nat.zero_le _, G1, [], [], Step.new' sp.gh hD, sp.gh.free hD, upd_same, fun p hp => (by cases hp), List.Perm.nil, Nat.zero_le _, by simpa [nub] using p⟩, ?_⟩
      rintro i m H2 ⟨rfl, hle, G2, L, ac, sp2, hGD, hHD, hr, hpm, hal, p2⟩
      have rel2 : Rel c.nx G2 (wipeS S vs) (L2.wipe σ vs) H2 := relb.grow sp2
      have itm := it G2 H2 sp2.g sp2.gh fun j hj x ow => by
        obtain ⟨_, _, o, _, ho, _⟩ := (rel.grow sp).own ow
        rw [ho, sp2.h _ _ ho]
      have nD : ∀ {G6 H6 : Hp}, Step G2 H2 G6 H6 → G6 Dl = none ∧ H6 Dl = some (SetTO X.prog X.w Dl L) := fun {G6 H6} z => by
        refine ⟨?_, z.h _ _ hHD⟩
        cases q : G6 Dl with
        | none => rfl
        | some o =>
          rcases z.gr _ _ q with w | w
          · rw [hGD] at w; cases w
          · rw [hHD] at w; cases w
      by_cases hlt : i < ds.length
      · obtain ⟨d, hd⟩ : ∃ d, ds[i]? = some d := ⟨ds[i], List.getElem?_eq_getElem hlt⟩
        have hdrop : ds.drop i = d :: ds.drop (i + 1) := by
          rw [List.drop_eq_getElem_cons hlt]; congr 1; rw [List.getElem?_eq_getElem hlt] at hd; exact Option.some.inj hd
        rw [hdrop] at p2
        obtain ⟨hgo, hy⟩ := itm.2 i d hd
        refine .inr ⟨hgo, fun H' => ∃ G3 L ac, Step G1 H1 G3 H' ∧ G3 Dl = none ∧ H' Dl = some (SetTO X.prog X.w Dl L) ∧ (∀ p ∈ L, SqU c.k.K G3 p.1 (p.2.map V.int)) ∧ (L.map (·.2)).Perm ac ∧ ac.length ≤ i + 1 ∧
          PostE c .st G S σ H Q (lcF ga t fe (wipeS S vs) (ds.drop (i + 1)) >>= fun ys => (match asTs ys with
            | some ks => .ok (.int (ks.foldl nubT ac).length)
            | none => .fail)), fun H' ⟨G3, r3⟩ => ⟨_, by omega, rfl, hlt, G3, r3⟩, fun x H3 hx => ?_⟩
        obtain ⟨G3, sp3, hd3⟩ := hy x H3 hx
        refine hg x _ H3 _ ⟨G3, wipeS S vs, d, rel2.grow sp3, hd3, ?_⟩
        unfold lcF at p2
        cases e1 : ga d (wipeS S vs) with
        | exc x => rw [e1] at p2; exact p2.elim
        | fail => rw [e1] at p2; exact p2.elim
        | ok S1 =>
          rw [e1, R.nox_ok, R.ok_bind] at p2
          intro G4 σ4 H4 sp4 rel4 f4
          refine ⟨wipe_eq (by rw [f4.len, wipe_length]) fun j hj => f4.sg j fun z => hj (hgs j z), ht σ4 H4 _ ⟨G4, S1, rel4, ?_⟩⟩
          cases e2 : t S1 with
          | exc x => rw [e2] at p2; exact p2.elim
          | fail => rw [e2] at p2; exact p2.elim
          | ok b =>
            rw [e2, R.nox_ok, R.ok_bind] at p2
            intro G5 H5 sp5
            have spA : Step G2 H2 G5 H5 := (sp3.trans sp4).trans sp5
            cases b with
            | false =>
              rw [if_neg Bool.false_ne_true] at p2 ⊢
              exact ⟨G5, L, ac, sp2.trans spA, (nD spA).1, (nD spA).2, fun p hp => spA.g.sqU (hr p hp), hpm, by omega, p2⟩
            | true =>
              rw [if_pos rfl] at p2 ⊢
              refine he σ4 H5 _ ⟨G5, S1, rel4.grow sp5, ?_⟩
              cases e3 : fe S1 with
              | exc x => rw [e3] at p2; exact p2.elim
              | fail => rw [e3] at p2; exact p2.elim
              | ok y =>
                rw [e3, R.nox_ok, R.ok_bind] at p2
                intro v G6 H6 sp6 hv
                have hv : RD c.k G6 y v := hv
                have spB := spA.trans sp6
                cases e4 : lcF ga t fe (wipeS S vs) (ds.drop (i + 1)) with
                | exc x => exact absurd e4 (lcF_exc _)
                | fail => rw [e4] at p2; exact p2.elim
                | ok ys =>
                  rw [e4] at p2
                  have p2 : PostE c .st G S σ H Q (match asTs (y :: ys) with
                    | some ks => .ok (.int (ks.foldl nubT ac).length)
                    | none => .fail) := p2
                  simp only [asTs] at p2
                  cases ek : asT y with
                  | none => rw [ek] at p2; exact p2.elim
                  | some kk =>
                    cases es : asTs ys with
                    | none => rw [ek, es] at p2; exact p2.elim
                    | some ks =>
                      rw [ek, es] at p2
                      obtain ⟨xa, rfl, hxa⟩ := hv.asT ek
                      have hlen : L.length = ac.length := by rw [← List.length_map (f := fun (p : Addr × List Int) => p.2)]; exact hpm.length_eq
                      have hr6 : ∀ p ∈ L, SqU c.k.K G6 p.1 (p.2.map V.int) := fun p hp => spB.g.sqU (hr p hp)
                      refine ⟨L, kk, (nD spB).2, ⟨fun p hp => hk ▸ (sp6.gh.sqU (hr6 p hp)).t, by omega, xa, rfl, hk ▸ (sp6.gh.sqU hxa).t⟩, ?_⟩
                      rintro L' ⟨xb, hxb, c1, c2⟩
                      cases hxb
                      have spC : Step G1 H1 G6 (upd H6 Dl (SetTO X.prog X.w Dl L')) := by
                        have z := sp2.trans spB
                        exact ⟨z.g, z.h.upd hD, z.gh.upd (nD spB).1, z.gr⟩
                      by_cases hm : kk ∈ L.map (·.2)
                      · have := c1 hm
                        subst this
                        refine ⟨G6, L', ac, spC, (nD spB).1, upd_same, hr6, hpm, by omega, ?_⟩
                        rw [R.ok_bind, es]
                        have hm' : kk ∈ ac := hpm.mem_iff.mp hm
                        simpa only [List.foldl_cons, nubT, if_pos hm'] using p2
                      · have hp' := c2 hm
                        refine ⟨G6, L', kk :: ac, spC, (nD spB).1, upd_same, fun p hp => ?_, ?_, by simp only [List.length_cons]; omega, ?_⟩
                        · rcases List.mem_cons.mp (hp'.mem_iff.mp hp) with rfl | hp
                          · exact hxa
                          · exact hr6 p hp
                        · exact (hp'.map _).trans (List.Perm.cons _ hpm)
                        · rw [R.ok_bind, es]
                          have hm' : kk ∉ ac := fun z => hm (hpm.mem_iff.mpr z)
                          simpa only [List.foldl_cons, nubT, if_neg hm'] using p2
      · have hi : i = ds.length := by omega
        subst hi
        rw [List.drop_length] at p2
        refine .inl ⟨itm.1 _ (Nat.le_refl _), Dl, L, rfl, hHD, fun p hp => hk ▸ (sp2.gh.sqU (hr p hp)).t, ?_⟩
        have p2 : PostE c .st G S σ H Q (.ok (.int ac.length)) := p2
        have hlen : L.length = ac.length := by rw [← List.length_map (f := fun (p : Addr × List Int) => p.2)]; exact hpm.length_eq
        rw [hlen]
        exact p2 _ G2 H2 (sp.trans sp2) (.int _)
    · rw [if_neg hz] at p; exact p.elim
/-- len({elt for target in iter if ..}) -/
theorem d_lenSc {X : Cx} {c : Cf} {t : FT} {tg elt iter : Expr} {ifs : List Expr} {scope : Scope} {p1 p2 pos : Pos} {x : Str} (own : List (Str × Nat)) {ki gs : List Nat} {fi : FI} {ga : FG} {fe : FE} (hk : c.k.K = X.K) (hu : X.A.units + 64 < cLine) (hm : X.mg x = none) (hc : X.calm = true) (hN : X.N.Nodup) (hi : PI' X c ki tg iter fi) (ok : BlkOk X.N X.env.scope scope own)
    (hg : ∀ (s : Shared) (H : Hp) (C : Addr) (cl : List (Str × Addr)) (fp : List Addr), PG' (X.blk s H scope (compEnvC scope cl C X.env) fp) c.nx gs tg ga) (ht : ∀ (s : Shared) (H : Hp) (C : Addr) (cl : List (Str × Addr)) (fp : List Addr), PTs' (X.blk s H scope (compEnvC scope cl C X.env) fp) c.nx ifs t)
    (he : ∀ (s : Shared) (H : Hp) (C : Addr) (cl : List (Str × Addr)) (fp : List Addr), PE' (X.blk s H scope (compEnvC scope cl C X.env) fp) c.nx .st elt fe) (hgs : ∀ i, i ∈ gs → i ∈ own.map (·.2) := by decide) (hs : ∀ x, foldedSetIterable iter X.env x = pure x := by intro _; rfl)
    (hv : bootBuiltins x = some (.builtin "len") := by decide +kernel) (hgl : Gl X x := by rfl) (hn : x ≠ "__name__" := by decide) (hdb : (x == ("__debug__" : Str)) = false := by decide) :
    PE' X c .st (.Call (.Name x p1) [.SetComp elt [⟨tg, iter, ifs, 0⟩] scope p2] [] pos) (lenSc fi ga t fe (own.map (·.2))) :=
  peI (pe_callB call_lenT hgl hm hv (pa_cons (pe_scG (famT X.prog X.w X.K) hu hc hN hi ok hg ht he hs) pa_nil rfl) hn hdb rfl rfl) fun σ H Q q => lenSc_go hk (fun _ _ _ _ z => z) (fun _ _ _ z => z) (fun _ _ _ z => z) hgs q
end
end M
set_option Elab.async false
set_option linter.all false
set_option maxRecDepth 100000
set_option maxHeartbeats 4000000
namespace M
open PySem L2
open AutoSeq1 (wpAny_loadPart')
/-! ### enumerate of a tuple -/
theorem enum_new1 {v : Value} {o : Obj} {H : Heap → Prop} (B : Begins v o H) :
    Meets (Builtin.«enumerate.__new__» ⟨[.type "enumerate", v], []⟩) (fun _ R s => H s.heap ∧
      R (.ok (.ret (.ref (s.heap.push o).objs.size))) { s with heap := (s.heap.push o).push { cls := .type "enumerate", data := .fields #[.none, .bool false, .ref s.heap.objs.size, rawInt 0, .none, .none] } }) :=
  .of_wp fun prog w A R s h => by
    obtain ⟨hp, g, d, tk, os⟩ := s; obtain ⟨h1, h⟩ := h
    have hsub := sub_enumerate
    have q1 : ∀ {A' : Around} {E : Value → Shared → Prop} {Q : Value → Shared → Prop}, Q (.ref hp.objs.size) ⟨hp.push o, g, d, tk, os⟩ → wpAny (model prog w) A' (pyIter v) Q E ⟨hp, g, d, tk, os⟩ :=
      fun q => B.iter prog w _ _ ⟨hp, g, d, tk, os⟩ _ h1 q
    wp_walk using q1
    refine wpAny_stack_any fun st => wpAny_pure ?_
    split
    · rename_i c _ _ _ _ _
      cases (c == Value.type "enumerate")
      · wp_walk using q1
        exact ⟨_, rfl, h⟩
      · wp_walk using q1
        exact ⟨_, rfl, h⟩
    · wp_walk using q1
      exact ⟨_, rfl, h⟩
theorem enum_begins1 {prog : Program} {w : World} {A : Around} {E : Value → Shared → Prop} {s : Shared} {v : Value} {o : Obj} {H : Heap → Prop} {Q : Value → Shared → Prop} (B : Begins v o H) (h1 : H s.heap)
    (h : ∀ h', IsEnum h' (s.heap.objs.size + 1) s.heap.objs.size 0 .none → h'.get? s.heap.objs.size = some o → (∀ b o, s.heap.get? b = some o → h'.get? b = some o) → Q (.ref (s.heap.objs.size + 1)) { s with heap := h' }) :
    wpAny (model prog w) A (call (.type "enumerate") [v]) Q E s := by
  refine callType_new F.called_enumerate (by decide) (F.typeCall_enumerate_1 _) (F.newCall_enumerate_1 _) (fun obj => F.args_object_init_2 obj _) F.entry_enumerate_new (enum_new1 B) ⟨h1, ?_⟩
  have hz : (s.heap.push o).objs.size = s.heap.objs.size + 1 := Heap.size_push ..
  show _ ∧ _
  rw [hz]
  have he : IsEnum ((s.heap.push o).push { cls := .type "enumerate", data := .fields #[.none, .bool false, .ref s.heap.objs.size, rawInt 0, .none, .none] }) (s.heap.objs.size + 1) s.heap.objs.size 0 .none := by
    have := Heap.get?_push_size (s.heap.push o) (o := { cls := .type "enumerate", data := .fields #[.none, .bool false, .ref s.heap.objs.size, rawInt 0, .none, .none] }) rfl
    rw [hz] at this; exact this
  exact ⟨⟨_, he, rfl⟩, h _ he (Heap.get?_push_of_some _ (Heap.get?_push_size _ B.free)) fun b o x => Heap.get?_push_of_some _ (Heap.get?_push_of_some _ x)⟩
/-- the tuple at a, its items in new pairs with their numbers -/
def ItU (K : PySem.W.Frag) (a : Addr) : It :=
  ⟨fun i H => ∃ (xs : List V) (x : V), SqT K H a xs ∧ xs[i]? = some x, fun i H v H' => ∃ T x, v = .ref T ∧ H T = none ∧ H' = upd H T (.tup [.int (i : Nat), x]) ∧ ∀ xs, SqT K H a xs → xs[i]? = some x, fun i H => ∃ xs : List V, SqT K H a xs ∧ xs.length ≤ i⟩
theorem turn_enumT {P : Program} {w : World} {K : PySem.W.Frag} {elts : List Expr} {kk : Nat} {tpos : Pos} (a e it : Addr) :
    Turn P w K (.Tuple elts kk tpos) (ItU K a) [e, it] e (fun i h => (∃ old, IsEnum h e it ((i : Nat) : Int) old) ∧ h.IsTupleIter it a i ∧ e ≠ it) := by
  refine ⟨by simp, fun i h st b hb => ?_, fun i h h' st k => ?_, ?_, ?_, fun A i s Q E st h => ?_⟩
  · obtain ⟨⟨old, he⟩, ⟨o, ho, hc, hd⟩, _⟩ := st
    rcases (by simpa using hb : b = e ∨ b = it) with z | z
    · rw [z]; exact ⟨_, he, fun v q => nomatch q⟩
    · rw [z]; exact ⟨o, ho, fun v q => by rw [hd] at q; cases q⟩
  · obtain ⟨⟨old, he⟩, hi, hne⟩ := st
    exact ⟨⟨old, k e (by simp) _ he⟩, hi.at fun o q => k it (by simp) o q, hne⟩
  · intro X hP hw hK hc i pins s σ H E I hf st hg
    subst hP hw hK
    obtain ⟨⟨old, he⟩, hit, hne⟩ := st
    obtain ⟨xs, x, hq, hx⟩ := hg
    obtain ⟨its, rv, p, hz⟩ := I.tuple hq
    obtain ⟨u, hu, ru⟩ := rv.get hx
    have pT : s.heap.IsTuple a its.toArray := p
    have hel : e < s.heap.objs.size := Heap.lt_size he
    have hil : it < s.heap.objs.size := by obtain ⟨_, q, _⟩ := hit; exact Heap.lt_size q
    have ai : a ≠ it := by
      rintro rfl
      obtain ⟨o1, q1, c1, _⟩ := hit
      obtain ⟨o2, q2, c2, _⟩ := pT
      rw [q1] at q2; cases q2; rw [c1] at c2; injection c2 with z; exact absurd z (by decide)
    have ea : e ≠ a := by
      rintro rfl
      obtain ⟨o2, q2, c2, _⟩ := pT
      rw [show s.heap.get? e = some _ from he] at q2; cases q2; injection c2 with z; exact absurd z (by decide)
    have hlt : i < its.toArray.size := by rw [List.size_toArray]; exact (List.getElem?_eq_some_iff.mp hu).1
    refine wpAny_pyNext_enum_itemD (Draws.tuple (A := X.A.in1) (I.ok.hd hc) it a ai its.toArray) he ⟨hit, pT⟩ hlt hne (by simp only [List.mem_cons, List.not_mem_nil, or_false, not_or]; exact ⟨hne, ea⟩) fun y h' tk hy ho st' hT hsz hk => ?_
    have hy' : y = u := by
      have z : its[i]? = some y := by simpa using hy
      rw [hu] at z; exact (Option.some.inj z).symm
    subst hy'
    refine ⟨_, rfl, wpAny_letOwnedTupleGo_enum (s := { s with heap := h', toks := tk + 1 }) ho fun h'' he' sb => ?_⟩
    have hT2 : h''.get? s.heap.objs.size = some { cls := .type "tuple", data := .seq #[.int i tk, y] } := (sb.2 _ (Nat.ne_of_gt hel)).trans hT
    have new : ObjOk X.prog X.w (upd H s.heap.objs.size (.tup [.int (i : Nat), x])) h'' s.heap.objs.size (.tup [.int (i : Nat), x]) :=
      ⟨by show 2 ≤ sizeLine; decide, [.int i tk, y], .cons ⟨_, rfl⟩ (.cons ru .nil), ⟨_, hT2, rfl, _, rfl⟩⟩
    have I1 : Inv X pins σ (upd H s.heap.objs.size (.tup [.int (i : Nat), x])) { s with heap := h'', toks := tk + 1 } :=
      I.turnedNew (ch := [e, it]) (fun b ob hb q => (sb.2 b (fun z => hb (by simp [z]))).trans (hk b ob (fun z => hb (by simp [z])) (fun z => hb (by simp [z])) q)) hf (Nat.le_refl _) new
    refine ⟨.ref s.heap.objs.size, _, I1, rfl, ⟨_, x, rfl, I.hok.fresh (Nat.le_refl _), rfl, fun ys hy => by rw [I.tuple_inj hy hq]; exact hx⟩, ⟨⟨y, ?_⟩, st'.1.at fun o q => (sb.2 it (Ne.symm hne)).trans q, hne⟩, fun b hb => ?_⟩
    · have e1 : ((i + 1 : Nat) : Int) = (i : Int) + 1 := by omega
      rw [e1]; exact he'
    · have hb' : b < s.heap.objs.size := by
        rcases (by simpa using hb : b = e ∨ b = it) with z | z
        · rw [z]; exact hel
        · rw [z]; exact hil
      rw [upd_ne (Nat.ne_of_lt hb')]
      exact (hf b hb).1
  · intro X hP hw hK hc i pins s σ H E I hf st hg
    subst hP hw hK
    obtain ⟨⟨old, he⟩, hit, hne⟩ := st
    obtain ⟨xs, hq, hx⟩ := hg
    obtain ⟨its, rv, p, hz⟩ := I.tuple hq
    obtain ⟨f0, f1, f2, f3, f4, f5⟩ := hf it (by simp)
    have pT : s.heap.IsTuple a its.toArray := p
    have ai : a ≠ it := by
      rintro rfl
      obtain ⟨o1, q1, c1, _⟩ := hit
      obtain ⟨o2, q2, c2, _⟩ := pT
      rw [q1] at q2; cases q2; rw [c1] at c2; injection c2 with z; exact absurd z (by decide)
    have hl := rv.length
    have hn : its.toArray[i]? = none := by simp; omega
    have hT : s.TypeIs (.ref e) "enumerate" := ⟨_, he, rfl⟩
    unfold pyNext
    refine wpAny_bind (wpAny_attempt (wpAny_callSpecial?_slot (name := Str.ofString "__next__") hT F.slot_enumerate_next (wpAny_call_entry F.slot_enumerate_next hT F.entry_enumerate_next ?_ (F.args_enumerate_next_1 _))))
    show wpAny _ _ (field (.ref e) 2 >>= _) _ _ _
    refine wpAny_bind (wpAny_field he rfl (x := .ref it) rfl ?_)
    refine wpAny_bind (wpAny_nextOf_tuple_end (A := X.A.in1) (I.ok.hd hc) hit pT hn fun h' x he' hx' => ?_)
    obtain ⟨o, ho, hcl⟩ := hx'
    refine wpAny_bind (wpAny_isInstance (T := "StopIteration") (b := true) ⟨o, ho, hcl⟩ isSubtype_stop ?_)
    exact wpAny_pure ⟨rfl, I.turned (t' := s.toks) (fun b o hb q => he' b o hb q) f0 f1 f3 f4 f5⟩
  · obtain ⟨⟨_, he⟩, _⟩ := st
    exact wpAny_pyIter_enum he h
theorem pi_enumT {X : Cx} {e : Expr} {ta : TA} {p pos tpos : Pos} {elts : List Expr} {kk : Nat} (hg : Gl X "enumerate") (hm : X.mg "enumerate" = none) (ha : PA X [e] ta) (hs : starEach [e] X.env = [(false, eval e X.env)] := by rfl) :
    PI X (.Tuple elts kk tpos) (.Call (.Name "enumerate" p) [e] [] pos) (fun σ H R => ta σ H fun vs H1 => ∃ a xs, vs = [.ref a] ∧ SqT X.K H1 a xs ∧ R (ItU X.K a) H1) := by
  constructor
  intro pins s σ H R I h
  refine PyProof.Rows.Call_ (ld_blt I hg hm PyProof.Rows.boot_enumerate (PyProof.Rows.callWith_type1 (thn (ha.run pos pins s σ H _ I h) fun us s1 ⟨vs, H1, I1, r1, q1⟩ => ?_) hs rfl))
  obtain ⟨a, xs, rfl, hq, q⟩ := q1
  rw [Vals.ref1 r1]
  obtain ⟨its, rv, p', hz⟩ := I1.tuple hq
  refine enum_begins1 (begins_tuple a its.toArray) p' fun h' he hit hk => wpAny_pyIter_enum he ?_
  have I2 : Inv X pins σ H1 { s1 with heap := h' } := I1.kept (t' := s1.toks) hk
  refine ⟨s1.heap.objs.size + 1, [s1.heap.objs.size + 1, s1.heap.objs.size], _, _, H1, rfl, I2, turn_enumT a (s1.heap.objs.size + 1) s1.heap.objs.size, ⟨⟨.none, he⟩, ⟨_, hit, rfl, rfl⟩, Nat.succ_ne_self _⟩, fun b hb => ?_, q⟩
  have hle : s1.heap.objs.size ≤ b := by
    rcases (by simpa using hb : b = s1.heap.objs.size + 1 ∨ b = s1.heap.objs.size) with z | z
    · rw [z]; exact Nat.le_add_right _ _
    · rw [z]; exact Nat.le_refl _
  exact I1.fpOk hle (I1.hok.fresh hle)
def enumAt (n : Nat) : List D → List D
  | [] => []
  | d :: ds => .tup [.int n, d] :: enumAt (n + 1) ds
theorem enumAt_get : ∀ (ds : List D) (n i : Nat), (enumAt n ds)[i]? = ds[i]?.map fun d => .tup [.int ((n + i : Nat) : Int), d]
  | [], n, i => by simp [enumAt]
  | d :: ds, n, 0 => by simp [enumAt]
  | d :: ds, n, i + 1 => by
    simp only [enumAt, List.getElem?_cons_succ]
    rw [enumAt_get ds (n + 1) i]
    congr 1
    funext d
    rw [show n + 1 + i = n + (i + 1) by omega]
theorem enumAt_length : ∀ (ds : List D) (n : Nat), (enumAt n ds).length = ds.length
  | [], n => rfl
  | d :: ds, n => by simp [enumAt, enumAt_length ds]
def enumerateF : List D → R (List D)
  | [.lst ds] => .ok (enumAt 0 ds)
  | [.tup ds] => .ok (enumAt 0 ds)
  | _ => .fail
theorem itm_enumL {k : Kn} {ki : List Nat} {G1 H1 : Hp} {S : Env} {σ : L2.St} {K : PySem.W.Frag} {ds : List D} {vs : List V} {p : Addr} (hr : RDs k G1 ds vs) (hs : G1 p = some (.lst vs)) : Itm k ki G1 S σ H1 (Ite K p) (enumAt 0 ds) := fun G H e1 e2 kp => by
  have q : SqL K H p vs := SqL.of (e2 _ _ (e1 _ _ hs))
  refine ⟨fun i hi => ⟨vs, q, by rw [enumAt_length] at hi; rw [← hr.length]; exact hi⟩, fun i d hd => ?_⟩
  rw [enumAt_get] at hd
  cases hd0 : ds[i]? with
  | none => rw [hd0] at hd; cases hd
  | some d0 =>
    rw [hd0] at hd
    have hd : D.tup [.int ((0 + i : Nat) : Int), d0] = d := Option.some.inj hd
    subst hd
    obtain ⟨v, hv, r⟩ := (hr.mono e1).get hd0
    refine ⟨⟨vs, v, q, hv⟩, fun x H' hx => ?_⟩
    obtain ⟨T, x', rfl, hT, rfl, hy⟩ := hx
    have := hy vs q
    rw [hv] at this; cases this
    refine ⟨_, Step.new e2 hT, .tup (SqU.of upd_same) (.cons ?_ (.cons (r.mono (Ex.new (e2.free hT))) .nil))⟩
    rw [Nat.zero_add]; exact .int _
theorem itm_enumT {k : Kn} {ki : List Nat} {G1 H1 : Hp} {S : Env} {σ : L2.St} {K : PySem.W.Frag} {ds : List D} {vs : List V} {p : Addr} (hr : RDs k G1 ds vs) (hs : SqT K G1 p vs) : Itm k ki G1 S σ H1 (ItU K p) (enumAt 0 ds) := fun G H e1 e2 kp => by
  have q : SqT K H p vs := e2.sqT (e1.sqT hs)
  refine ⟨fun i hi => ⟨vs, q, by rw [enumAt_length] at hi; rw [← hr.length]; exact hi⟩, fun i d hd => ?_⟩
  rw [enumAt_get] at hd
  cases hd0 : ds[i]? with
  | none => rw [hd0] at hd; cases hd
  | some d0 =>
    rw [hd0] at hd
    have hd : D.tup [.int ((0 + i : Nat) : Int), d0] = d := Option.some.inj hd
    subst hd
    obtain ⟨v, hv, r⟩ := (hr.mono e1).get hd0
    refine ⟨⟨vs, v, q, hv⟩, fun x H' hx => ?_⟩
    obtain ⟨T, x', rfl, hT, rfl, hy⟩ := hx
    have := hy vs q
    rw [hv] at this; cases this
    refine ⟨_, Step.new e2 hT, .tup (SqU.of upd_same) (.cons ?_ (.cons (r.mono (Ex.new (e2.free hT))) .nil))⟩
    rw [Nat.zero_add]; exact .int _
theorem i_enumerate {X : Cx} {c : Cf} {e : Expr} {fa : FA} {p pos tpos : Pos} {elts : List Expr} {kk : Nat} (hk : c.k.K = X.K) (hm : X.mg "enumerate" = none) (ha : PA' X c false [e] fa) (hg : Gl X "enumerate" := by rfl) (hs : starEach [e] X.env = [(false, eval e X.env)] := by rfl) :
    PI' X c [] (.Tuple elts kk tpos) (.Call (.Name "enumerate" p) [e] [] pos) (fun S => fa S >>= enumerateF) := by
  constructor
  intro pins st σ H Rq I q
  obtain ⟨G, S, rel, p⟩ := q
  have p : PostI c [] G S σ H Rq (fa S >>= enumerateF) := p
  cases e1 : fa S with
  | exc x => exact (pi_enum hg hm ha hs).run pins st σ H Rq I ⟨G, S, rel, by rw [e1] at p ⊢; exact p⟩
  | fail => rw [e1] at p; exact p.elim
  | ok ds =>
    rw [e1, R.ok_bind] at p
    unfold enumerateF at p
    split at p
    · rename_i ds0
      refine (pi_enum hg hm ha hs).run pins st σ H Rq I ⟨G, S, rel, ?_⟩
      rw [e1]
      intro vs G' H' sp q
      have q : RDs c.k G' [.lst ds0] vs := q
      cases q with
      | cons q1 q2 =>
        cases q2
        cases q1 with
        | lst h r => exact ⟨_, _, rfl, SqL.of (sp.gh _ _ h), p _ G' H' sp (itm_enumL r h)⟩
    · rename_i ds0
      refine (pi_enumT hg hm ha hs).run pins st σ H Rq I ⟨G, S, rel, ?_⟩
      rw [e1]
      intro vs G' H' sp q
      have q : RDs c.k G' [.tup ds0] vs := q
      cases q with
      | cons q1 q2 =>
        cases q2
        cases q1 with
        | tup h r => exact ⟨_, _, rfl, hk ▸ sp.gh.sqT h.t, p _ G' H' sp (itm_enumT r (hk ▸ h.t))⟩
    · exact p.elim
end M
set_option Elab.async false
set_option linter.all false
set_option maxRecDepth 100000
set_option maxHeartbeats 4000000
namespace M
open PySem L2
/-! ### methods -/
theorem zip_none : ∀ {nm : List Str} {vs : List V} {f : Str}, f ∉ nm → (nm.zip vs).lookup f = none
  | [], _, _, _ => by simp
  | _ :: _, [], _, _ => by simp
  | n :: nm, v :: vs, f, h => by
    simp only [List.mem_cons, not_or] at h
    rw [List.zip_cons_cons, List.lookup_cons, beq_eq_false_iff_ne.mpr h.1]
    exact zip_none h.2
def D.isObj (ci : Nat) : D → Bool
  | .obj c _ => c == ci
  | _ => false
/-- a method, wherever it is called -/
structure Method (P : Program) (w : World) (K : PySem.W.Frag) (mg : Str → Option Value) (base : Heap) (k : Kn) (lv : Nat) (ci : Nat) (m : Str) (n : Nat) (fr : Bool) (den : List D → R D) : Prop where
  ex : ∃ (C f : Addr) (fd : FuncData) (ps nm : List Str), ps.length = n ∧ k.cl ci = some (C, nm) ∧ m ∉ nm ∧ Cls K C ∧ Meth K C m f ∧ FnOk P w K mg base CX0 lv f fd ps (SpF k fr n den) ∧ Binds K fd ps []
/-- a class with keywords at the end of its parameters -/
structure MakeK (P : Program) (w : World) (K : PySem.W.Frag) (mg : Str → Option Value) (base : Heap) (k : Kn) (lv : Nat) (x : Str) (ci n : Nat) (ks : List Str) (den : List D → R D) : Prop where
  ex : ∃ (C f : Addr) (fd : FuncData) (ps nm : List Str) (g : List Value → List Value → List Value), k.cl ci = some (C, nm) ∧ Mk K C f ∧ FnOk P w K mg base CX0 lv f fd ps (SpN k ci (n + ks.length + 1) den) ∧ mg x = some (.ref C) ∧ KBn K fd ps (n + 1) ks g (fun vs zs => vs ++ zs)
/-- a class -/
structure Maker (P : Program) (w : World) (K : PySem.W.Frag) (mg : Str → Option Value) (base : Heap) (k : Kn) (lv : Nat) (x : Str) (ci n : Nat) (den : List D → R D) : Prop where
  ex : ∃ (C f : Addr) (fd : FuncData) (ps : List Str) (nm : List Str), ps.length = n + 1 ∧ k.cl ci = some (C, nm) ∧ Mk K C f ∧ FnOk P w K mg base CX0 lv f fd ps (SpN k ci (n + 1) den) ∧ mg x = some (.ref C) ∧ Binds K fd ps []
/-- a property -/
structure Prope (P : Program) (w : World) (K : PySem.W.Frag) (mg : Str → Option Value) (base : Heap) (k : Kn) (lv : Nat) (ci : Nat) (m : Str) (fr : Bool) (den : List D → R D) : Prop where
  ex : ∃ (C p f : Addr) (fd : FuncData) (ps nm : List Str), ps.length = 1 ∧ k.cl ci = some (C, nm) ∧ Cls K C ∧ PropOf K C m p f ∧ FnOk P w K mg base CX0 lv f fd ps (SpF k fr 1 den) ∧ Binds K fd ps []
section
variable {X : Cx} {c : Cf} {k : Kn} {kd k1 k2 k3 : Kd} {a b e o : Expr} {f g h : FE} {pos apos cpos p' : Pos} {fr : Bool} {x y : Str} {den : List D → R D}
theorem rdE_mono {σ : L2.St} {H : Hp} {Q Q' : VK} (q : RdE c kd f σ H Q) (h : ∀ v H, Q v H → Q' v H) : RdE c kd f σ H Q' := by
  obtain ⟨G, S, rel, p⟩ := q
  refine ⟨G, S, rel, ?_⟩
  cases e : f S with
  | ok d => rw [e] at p; exact fun v G' H' s r => h _ _ (p v G' H' s r)
  | exc x => rw [e] at p; exact p
  | fail => rw [e] at p; exact p
def eM (ci : Nat) (den : List D → R D) (f : FE) (fa : FA) : FE := fun S => f S >>= fun o => if o.isObj ci then fa S >>= fun ds => (den (o :: ds)).nox else .fail
theorem meth_go {ci n : Nat} {C : Addr} {nm : List Str} {m : Str} {fa : FA} {σ : L2.St} {H : Hp} {Q : VK} (hcl : c.k.cl ci = some (C, nm)) (hmn : m ∉ nm) (hl : Len n fa) (q : RdE c (kdOf fr) (eM ci den f fa) σ H Q) :
    RdE c .st f σ H fun x H1 => ∃ a dx fs, x = .ref a ∧ H1 a = some (.ins C dx fs) ∧ fs.lookup m = none ∧ RdA c false fa σ H1 fun vs H2 => SpF c.k fr (n + 1) den (x :: (vs ++ [])) H2 Q E0 := by
  obtain ⟨G, S, rel, p⟩ := q
  refine rdE_go (g := fun o => if o.isObj ci then fa S >>= fun ds => (den (o :: ds)).nox else .fail) (Post := PostE c (kdOf fr) G S σ H Q) rel p (fun _ z => z) (fun z => z) fun d v G1 H1 s1 q1 p1 => ?_
  by_cases ho : d.isObj ci = true
  · rw [if_pos ho] at p1
    cases d with
    | obj c' ds =>
      have hc : c' = ci := by simpa [D.isObj] using ho
      subst hc
      have q1 : RD c.k G1 (.obj c' ds) v := q1
      cases q1 with
      | @obj _ _ ad CA dx nm' vs' hcl' hG hr =>
        rw [hcl] at hcl'; cases hcl'
        refine ⟨ad, dx, _, rfl, s1.gh _ _ hG, zip_none hmn, G1, S, rel.grow s1, ?_⟩
        cases e0 : fa S with
        | exc x => rw [e0] at p1; exact p1
        | fail => rw [e0] at p1; exact p1
        | ok as =>
          rw [e0] at p1
          intro vs G2 H2 s2 q2
          have q2 : RDs c.k G2 as vs := q2
          rw [List.append_nil]
          refine ⟨by simp [← q2.length, hl S as e0], G2, .obj c' ds :: as, s2.gh, .cons (.obj hcl (s2.g _ _ hG) (hr.mono s2.g)) q2, ?_⟩
          have p1 : PostE c (kdOf fr) G S σ H Q (den (.obj c' ds :: as)).nox := p1
          cases e1 : den (.obj c' ds :: as) with
          | ok d => rw [e1] at p1; exact fun v G' H' s3 r3 => p1 v G' H' ((s1.trans s2).trans s3) (r3.mono (s1.h.trans s2.h))
          | exc x => rw [e1] at p1; exact p1.elim
          | fail => rw [e1] at p1; exact p1.elim
    | _ => simp [D.isObj] at ho
  · rw [if_neg ho] at p1; exact p1.elim
theorem d_meth {lv m' : Nat} (ci : Nat) {m : Str} {n : Nat} {es : List Expr} {fa : FA} {pl : Sem Bool} (F : Method X.prog X.w X.K X.mg X.base c.k lv ci m (n + 1) fr den) (hr : Room m' X.A) (hle : lv ≤ m') (ho : PE' X c .st o f) (ha : PA' X c false (e :: es) fa) (hl : Len n fa)
    (hst : starEach (e :: es) X.env = (false, eval e X.env) :: starEach es X.env := by rfl) (hpl : (backTo pos (starEach es X.env)).any (·.1) = false := by rfl)
    (ht : eval (.Call (.Attribute o m apos) (e :: es) [] pos) X.env = (do
      let ov ← eval o X.env
      standAt apos.atName
      let (f, first) ← holding [ov] (getMethod ov m pl)
      callWith pos f first (backTo pos (starEach (e :: es) X.env)) (backToKw pos (keywordEach [] X.env))) := by rfl) :
    PE' X c (kdOf fr) (.Call (.Attribute o m apos) (e :: es) [] pos) (eM ci den f fa) := by
  obtain ⟨C, fa', fd, ps, nm, hn, hcl, hmn, cl, mt, ok, bd⟩ := F.ex
  exact peI (pe_meth ho cl mt ok (hr.mono hle) bd .nil pass0 ha hst hpl ht) fun σ H Q q => meth_go hcl hmn hl q
theorem d_meth0 {lv m' : Nat} (ci : Nat) {m : Str} {pl : Sem Bool} (F : Method X.prog X.w X.K X.mg X.base c.k lv ci m 1 fr den) (hr : Room m' X.A) (hle : lv ≤ m') (ho : PE' X c .st o f)
    (ht : eval (.Call (.Attribute o m apos) [] [] pos) X.env = (do
      let ov ← eval o X.env
      standAt apos.atName
      let (f, first) ← holding [ov] (getMethod ov m pl)
      callWith pos f first (backTo pos (starEach [] X.env)) (backToKw pos (keywordEach [] X.env))) := by rfl) :
    PE' X c (kdOf fr) (.Call (.Attribute o m apos) [] [] pos) (eM ci den f fun _ => .ok []) := by
  obtain ⟨C, fa', fd, ps, nm, hn, hcl, hmn, cl, mt, ok, bd⟩ := F.ex
  refine peI (pe_meth0 ho cl mt ok (hr.mono hle) bd .nil pass0 ht) fun σ H Q q => ?_
  have z := meth_go (n := 0) (fa := fun _ => .ok []) hcl hmn (fun S ds h => by cases h; rfl) q
  refine rdE_mono z fun x H1 q1 => ?_
  obtain ⟨a, dx, fs, e1, e2, e3, q2⟩ := q1
  refine ⟨a, dx, fs, e1, e2, e3, ?_⟩
  obtain ⟨G, S, rel, p⟩ := q2
  exact p [] G H1 (Step.refl rel.st.gh) .nil
/-- a property, read -/
def eP (ci : Nat) (den : List D → R D) (f : FE) : FE := eM ci den f fun _ => .ok []
theorem d_prop {lv m' : Nat} (ci : Nat) {m : Str} (F : Prope X.prog X.w X.K X.mg X.base c.k lv ci m fr den) (hr : Room m' X.A) (hle : lv + 1 ≤ m') (ho : PE' X c .st o f)
    (hb : attributeBase o m X.env (eval o X.env) = eval o X.env := by rfl) : PE' X c (kdOf fr) (.Attribute o m pos) (eP ci den f) := by
  obtain ⟨C, p0, fa', fd, ps, nm, hn, hcl, cl, pr, ok, bd⟩ := F.ex
  refine peI (pe_prop ho cl pr ok (hr.mono hle) bd .nil pass0 hb) fun σ H Q q => ?_
  obtain ⟨G, S, rel, p⟩ := q
  refine rdE_go (g := fun o => if o.isObj ci then (R.ok [] >>= fun ds => (den (o :: ds)).nox) else .fail) (Post := PostE c (kdOf fr) G S σ H Q) rel p (fun _ z => z) (fun z => z) fun d v G1 H1 s1 q1 p1 => ?_
  by_cases ho : d.isObj ci = true
  · rw [if_pos ho] at p1
    cases d with
    | obj c' ds =>
      have hc : c' = ci := by simpa [D.isObj] using ho
      subst hc
      have q1 : RD c.k G1 (.obj c' ds) v := q1
      cases q1 with
      | @obj _ _ ad CA dx nm' vs' hcl' hG hr =>
        rw [hcl] at hcl'; cases hcl'
        refine ⟨ad, dx, _, rfl, s1.gh _ _ hG, rfl, G1, [.obj c' ds], s1.gh, .cons (.obj hcl hG hr) .nil, ?_⟩
        have p1 : PostE c (kdOf fr) G S σ H Q (den [.obj c' ds]).nox := p1
        cases e1 : den [.obj c' ds] with
        | ok d => rw [e1] at p1; exact fun v G' H' s3 r3 => p1 v G' H' (s1.trans s3) (r3.mono s1.h)
        | exc x => rw [e1] at p1; exact p1.elim
        | fail => rw [e1] at p1; exact p1.elim
    | _ => simp [D.isObj] at ho
  · rw [if_neg ho] at p1; exact p1.elim
/-! ### classes -/
theorem d_maker {lv m' : Nat} {ci n : Nat} {p : Pos} {es : List Expr} {fa : FA} (F : Maker X.prog X.w X.K X.mg X.base c.k lv x ci n den) (hr : Room m' X.A) (hle : lv + 1 ≤ m') (ha : PA' X c false (e :: es) fa) (hl : Len n fa) (hg : Gl X x := by rfl) (hdb : (x == ("__debug__" : Str)) = false := by decide)
    (hs : starEach (e :: es) X.env = (false, eval e X.env) :: starEach es X.env := by rfl) (hs2 : ((backTo pos (starEach es X.env)).any fun x => x.1) = false := by rfl) : PE' X c .fr (.Call (.Name x p) (e :: es) [] pos) (eC den fa) := by
  obtain ⟨C, f, fd, ps, nm, hn, hcl, mk, ok, hm, hb⟩ := F.ex
  exact d_make ⟨C, f, fd, lv, ps, nm, hn, hcl, mk, ok, hr.mono hle, hm, hb⟩ ha hl hg hdb hs hs2
/-- the arguments and then the keywords -/
def fApp (fa fk : FA) : FA := fun S => fa S >>= fun as => fk S >>= fun bs => .ok (as ++ bs)
abbrev PK' (X : Cx) (c : Cf) (ks : List Keyword) (f : FA) : Prop := PK X ks (RdA c false f)
theorem pkI {ks : List Keyword} {t t' : TA} (h : PK X ks t) (i : ∀ σ H Q, t' σ H Q → t σ H Q) : PK X ks t' := ⟨fun pos pins s σ H Q I q => h.run pos pins s σ H Q I (i σ H Q q)⟩
theorem d_kn : PK' X c [] aN := pkI pk_nil fun σ H Q ⟨G, S, rel, p⟩ => p [] G H (Step.refl rel.st.gh) .nil
theorem d_kc {nm : Option Str} {kp : Pos} {ks : List Keyword} {ga : FA} (ha : PE' X c .st e f) (hr : PK' X c ks ga) : PK' X c (⟨nm, e, kp⟩ :: ks) (aC f ga) :=
  pkI (pk_cons ha hr) fun σ H Q ⟨G, S, rel, p⟩ => by
    refine rdE_go (g := fun x => do let xs ← ga S; .ok (x :: xs)) (Post := PostA c false G S σ H Q) rel p (fun _ z => z) (fun z => z) fun d1 v1 G1 H1 s1 q1 p1 => ?_
    refine rdA_go (g := fun xs => .ok (d1 :: xs)) (Post := PostA c false G S σ H Q) (rel.grow s1) p1 (fun _ z => z) (fun z => z) fun d2 v2 G2 H2 s2 q2 p2 => ?_
    exact p2 _ G2 H2 (s1.trans s2) (.cons (RD.mono s2.g q1) q2)
theorem d_makeK {lv m' : Nat} {ci n : Nat} {ks : List Str} {p : Pos} {es : List Expr} {kws : List Keyword} {fa fk : FA} (F : MakeK X.prog X.w X.K X.mg X.base c.k lv x ci n ks den) (hr : Room m' X.A) (hle : lv + 1 ≤ m') (ha : PA' X c false (e :: es) fa) (hl : Len n fa) (hk : PK' X c kws fk) (hkl : Len ks.length fk) (hg : Gl X x := by rfl)
    (hall : (backToKw pos (keywordEach kws X.env)).all (·.1.isSome) = true := by rfl) (hks : (backToKw pos (keywordEach kws X.env)).filterMap (·.1) = ks := by rfl) (hdb : (x == ("__debug__" : Str)) = false := by decide)
    (he : starEach (e :: es) X.env = (false, eval e X.env) :: starEach es X.env := by rfl) (hpl : ((backTo pos (starEach (e :: es) X.env)).any (·.1) || (backToKw pos (keywordEach kws X.env)).any (·.1.isNone)) = false := by rfl) :
    PE' X c .fr (.Call (.Name x p) (e :: es) kws pos) (eC den (fApp fa fk)) := by
  obtain ⟨C, f, fd, ps, nm, g, hcl, mk, ok, hm, hb⟩ := F.ex
  refine peI (pe_makeK mk ok (hr.mono hle) hg hm hb pass0 ha hk hall hks hdb he hpl) fun σ H Q ⟨G, S, rel, p⟩ => ?_
  have p : PostE c .fr G S σ H Q ((fa S >>= fun as => fk S >>= fun bs => R.ok (as ++ bs)) >>= fun ds => (den ds).nox) := p
  refine ⟨G, S, rel, ?_⟩
  cases e1 : fa S with
  | exc x => rw [e1] at p; exact p
  | fail => rw [e1] at p; exact p
  | ok as =>
    rw [e1] at p
    intro vs G1 H1 s1 q1
    refine ⟨G1, S, rel.grow s1, ?_⟩
    cases e2 : fk S with
    | exc x => simp only [R.ok_bind] at p; rw [e2] at p; exact p
    | fail => simp only [R.ok_bind] at p; rw [e2] at p; exact p
    | ok bs =>
      simp only [R.ok_bind] at p
      rw [e2] at p
      simp only [R.ok_bind] at p
      intro zs G2 H2 s2 q2
      have q1 : RDs c.k G1 as vs := q1
      have q2 : RDs c.k G2 bs zs := q2
      have l1 := hl S as e1
      have l2 := hkl S bs e2
      refine ⟨by rw [← q1.length]; exact l1, by rw [← q2.length]; exact l2, fun x dx hx hdx hne => ?_⟩
      have sp := s1.trans s2
      have q3 : RDs c.k G2 (as ++ bs) (vs ++ zs) := (q1.mono s2.g).append q2
      have hgx : G2 x = none := s2.gh.free hx
      have ex1 : Ex H2 (upd (upd H2 dx (.own x)) x (.ins C dx [])) := (Ex.new hdx).upd hx
      refine ⟨by simp [← q1.length, ← q2.length, l1, l2], x, vs ++ zs, G2, as ++ bs, C, dx, nm, rfl, hcl, upd_same, hgx, s2.gh.trans ex1, q3, ?_⟩
      have p : PostE c .fr G S σ H Q (den (as ++ bs)).nox := p
      cases e1 : den (as ++ bs) with
      | ok d =>
        rw [e1] at p
        intro G' H' o ex hk gh hgx' gr ho ct
        refine ⟨rfl, p _ G' H' (sp.trans ⟨ex, fun b u q => hk b u (ne_of_none q hx) (ex1 b u q), gh, fun b u q => ?_⟩) ⟨x, o, rfl, hgx', sp.h.free hx, ho, ct⟩⟩
        rcases gr b u q with z | z
        · exact .inl z
        · exact .inr (ex1.free z)
      | exc x => rw [e1] at p; exact p.elim
      | fail => rw [e1] at p; exact p.elim
/-! ### isinstance against an own class -/
structure ClsT (K : PySem.W.Frag) (k : Kn) (ci : Nat) : Prop where
  ex : ∃ C nm, k.cl ci = some (C, nm) ∧ Cls K C ∧ PySem.W.findIn K (.ref C) "__class__" = some (some (.builtin "object.__class__")) ∧ PySem.W.specialIn K (.builtin "object.__class__") "__get__" = some (some (.builtin "getset_descriptor.__get__")) ∧
    PySem.W.takesIn K (.builtin "object.__class__") = some true ∧ PySem.W.mroIn K C (.type "object") = some true
def isiC (ci : Nat) : D → D → R D
  | .obj c _, .cls c' => if c = ci ∧ c' = ci then .ok (.bl true) else .fail
  | _, _ => .fail
theorem c_isiC {ci : Nat} (T : ClsT X.K k ci) : ClR X k (.builtin "isinstance") .st (f2 (isiC ci)) := cl2 call_isi fun G H x v y u d e n m hg Q p => by
  unfold isiC at hg
  split at hg
  · split at hg
    · rename_i hc
      obtain ⟨rfl, rfl⟩ := hc
      cases hg
      obtain ⟨C, nm, hcl, cl, t1, t2, t3, t4⟩ := T.ex
      obtain ⟨a, CA, dx, nm', vs, rfl, hcl', ha, r⟩ := n.obj e
      rw [hcl] at hcl'; cases hcl'
      have z : u = .ref C := by
        rcases m with m | ⟨_, _, _, _, ct⟩
        · cases m with
          | cls h1 => rw [hcl] at h1; cases h1; rfl
        · cases ct
      subst z
      exact ⟨_, _, _, _, true, rfl, .own C, .base (.ins ha cl t1 t2 t3 t4), by unfold PySem.W.kitOne; rw [if_pos (by simp)], p _ G H (Step.refl e) (.bl _)⟩
    · cases hg
  · cases hg
/-! ### the same with the kind written -/
theorem d_callS {n : Nat} {p : Pos} {es : List Expr} {fa : FA} (F : Fn0 X c.k x n false den) (ha : PA' X c false (e :: es) fa) (hl : Len n fa) (hg : Gl X x := by rfl) (hdb : (x == ("__debug__" : Str)) = false := by decide)
    (hs : starEach (e :: es) X.env = (false, eval e X.env) :: starEach es X.env := by rfl) (hs2 : ((backTo pos (starEach es X.env)).any fun x => x.1) = false := by rfl) : PE' X c .st (.Call (.Name x p) (e :: es) [] pos) (eC den fa) := d_call F ha hl hg hdb hs hs2
theorem d_methS {lv m' : Nat} (ci : Nat) {m : Str} {n : Nat} {es : List Expr} {fa : FA} {pl : Sem Bool} (F : Method X.prog X.w X.K X.mg X.base c.k lv ci m (n + 1) false den) (hr : Room m' X.A) (hle : lv ≤ m') (ho : PE' X c .st o f) (ha : PA' X c false (e :: es) fa) (hl : Len n fa)
    (hst : starEach (e :: es) X.env = (false, eval e X.env) :: starEach es X.env := by rfl) (hpl : (backTo pos (starEach es X.env)).any (·.1) = false := by rfl)
    (ht : eval (.Call (.Attribute o m apos) (e :: es) [] pos) X.env = (do
      let ov ← eval o X.env
      standAt apos.atName
      let (f, first) ← holding [ov] (getMethod ov m pl)
      callWith pos f first (backTo pos (starEach (e :: es) X.env)) (backToKw pos (keywordEach [] X.env))) := by rfl) :
    PE' X c .st (.Call (.Attribute o m apos) (e :: es) [] pos) (eM ci den f fa) := d_meth ci F hr hle ho ha hl hst hpl ht
theorem d_meth0S {lv m' : Nat} (ci : Nat) {m : Str} {pl : Sem Bool} (F : Method X.prog X.w X.K X.mg X.base c.k lv ci m 1 false den) (hr : Room m' X.A) (hle : lv ≤ m') (ho : PE' X c .st o f)
    (ht : eval (.Call (.Attribute o m apos) [] [] pos) X.env = (do
      let ov ← eval o X.env
      standAt apos.atName
      let (f, first) ← holding [ov] (getMethod ov m pl)
      callWith pos f first (backTo pos (starEach [] X.env)) (backToKw pos (keywordEach [] X.env))) := by rfl) :
    PE' X c .st (.Call (.Attribute o m apos) [] [] pos) (eM ci den f fun _ => .ok []) := d_meth0 ci F hr hle ho ht
theorem d_callF {n : Nat} {p : Pos} {es : List Expr} {fa : FA} (F : Fn0 X c.k x n true den) (ha : PA' X c false (e :: es) fa) (hl : Len n fa) (hg : Gl X x := by rfl) (hdb : (x == ("__debug__" : Str)) = false := by decide)
    (hs : starEach (e :: es) X.env = (false, eval e X.env) :: starEach es X.env := by rfl) (hs2 : ((backTo pos (starEach es X.env)).any fun x => x.1) = false := by rfl) : PE' X c .fr (.Call (.Name x p) (e :: es) [] pos) (eC den fa) := d_call F ha hl hg hdb hs hs2
theorem d_methF {lv m' : Nat} (ci : Nat) {m : Str} {n : Nat} {es : List Expr} {fa : FA} {pl : Sem Bool} (F : Method X.prog X.w X.K X.mg X.base c.k lv ci m (n + 1) true den) (hr : Room m' X.A) (hle : lv ≤ m') (ho : PE' X c .st o f) (ha : PA' X c false (e :: es) fa) (hl : Len n fa)
    (hst : starEach (e :: es) X.env = (false, eval e X.env) :: starEach es X.env := by rfl) (hpl : (backTo pos (starEach es X.env)).any (·.1) = false := by rfl)
    (ht : eval (.Call (.Attribute o m apos) (e :: es) [] pos) X.env = (do
      let ov ← eval o X.env
      standAt apos.atName
      let (f, first) ← holding [ov] (getMethod ov m pl)
      callWith pos f first (backTo pos (starEach (e :: es) X.env)) (backToKw pos (keywordEach [] X.env))) := by rfl) :
    PE' X c .fr (.Call (.Attribute o m apos) (e :: es) [] pos) (eM ci den f fa) := d_meth ci F hr hle ho ha hl hst hpl ht
theorem d_meth0F {lv m' : Nat} (ci : Nat) {m : Str} {pl : Sem Bool} (F : Method X.prog X.w X.K X.mg X.base c.k lv ci m 1 true den) (hr : Room m' X.A) (hle : lv ≤ m') (ho : PE' X c .st o f)
    (ht : eval (.Call (.Attribute o m apos) [] [] pos) X.env = (do
      let ov ← eval o X.env
      standAt apos.atName
      let (f, first) ← holding [ov] (getMethod ov m pl)
      callWith pos f first (backTo pos (starEach [] X.env)) (backToKw pos (keywordEach [] X.env))) := by rfl) :
    PE' X c .fr (.Call (.Attribute o m apos) [] [] pos) (eM ci den f fun _ => .ok []) := d_meth0 ci F hr hle ho ht
theorem d_propS {lv m' : Nat} (ci : Nat) {m : Str} (F : Prope X.prog X.w X.K X.mg X.base c.k lv ci m false den) (hr : Room m' X.A) (hle : lv + 1 ≤ m') (ho : PE' X c .st o f)
    (hb : attributeBase o m X.env (eval o X.env) = eval o X.env := by rfl) : PE' X c .st (.Attribute o m pos) (eP ci den f) := d_prop ci F hr hle ho hb
end
end M
set_option Elab.async false
set_option linter.all false
set_option maxRecDepth 100000
set_option maxHeartbeats 4000000
namespace M
open PySem L2
/-! ### plain evaluation: what an answer keeps -/
def Ok {α : Type} (r : R α) (Q : α → Prop) : Prop := ∃ a, r = .ok a ∧ Q a
section
variable {α β : Type} {Q : α → Prop} {S : Env}
theorem Ok.mono {r : R α} {P : α → Prop} (h : Ok r P) (k : ∀ a, P a → Q a) : Ok r Q := by obtain ⟨a, e, p⟩ := h; exact ⟨a, e, k a p⟩
theorem ok_ok {a : α} : Ok (.ok a) Q ↔ Q a := ⟨fun ⟨_, e, q⟩ => (by cases e; exact q), fun q => ⟨a, rfl, q⟩⟩
theorem ok_eq {r : R α} {a : α} (e : r = .ok a) : Ok r Q ↔ Q a := by rw [e]; exact ok_ok
theorem ok_bind {r : R β} {f : β → R α} : Ok (r >>= f) Q ↔ Ok r fun b => Ok (f b) Q := by
  cases r with
  | ok b => rw [ok_ok]; exact Iff.rfl
  | exc x => exact ⟨fun ⟨_, e, _⟩ => (nomatch e), fun ⟨_, e, _⟩ => (nomatch e)⟩
  | fail => exact ⟨fun ⟨_, e, _⟩ => (nomatch e), fun ⟨_, e, _⟩ => (nomatch e)⟩
theorem ok_nox {r : R α} : Ok r.nox Q ↔ Ok r Q := by
  cases r with
  | ok b => exact Iff.rfl
  | exc x => exact ⟨fun ⟨_, e, _⟩ => (nomatch e), fun ⟨_, e, _⟩ => (nomatch e)⟩
  | fail => exact Iff.rfl
theorem ok_if {c : Prop} [Decidable c] {a : R α} : Ok (if c then a else .fail) Q ↔ c ∧ Ok a Q := by
  by_cases h : c
  · rw [if_pos h]; exact ⟨fun z => ⟨h, z⟩, fun z => z.2⟩
  · rw [if_neg h]; exact ⟨fun ⟨_, e, _⟩ => (nomatch e), fun z => absurd z.1 h⟩
theorem ok_ite {c : Prop} [Decidable c] {a b : R α} : Ok (if c then a else b) Q ↔ (c → Ok a Q) ∧ (¬ c → Ok b Q) := by
  by_cases h : c
  · rw [if_pos h]; exact ⟨fun z => ⟨fun _ => z, fun q => absurd h q⟩, fun z => z.1 h⟩
  · rw [if_neg h]; exact ⟨fun z => ⟨fun q => absurd q h, fun _ => z⟩, fun z => z.2 h⟩
theorem Ok.eq {r : R α} {a : α} (h : Ok r fun x => x = a) : r = .ok a := by obtain ⟨x, e, rfl⟩ := h; exact e
end
section
variable {Q : D → Prop} {QB : Bool → Prop} {QL : List D → Prop} {QE : Env → Prop} {QS : Fl × Env → Prop} {QO : Option Int → Prop} {S : Env} {f g h : FE} {t u : FT} {fa : FA} {s r : FS} {i j : Nat} {d x y : D}
theorem k_I {i : Int} : Ok (eI i S) Q ↔ Q (.int i) := ok_ok
theorem k_S {i : Str} : Ok (eS i S) Q ↔ Q (.str i) := ok_ok
theorem k_B {i : Bool} : Ok (eB i S) Q ↔ Q (.bl i) := ok_ok
theorem k_N : Ok (eN S) Q ↔ Q .non := ok_ok
theorem k_G : Ok (eG d S) Q ↔ Q d := ok_ok
theorem k_Y {n : String} : Ok (eY n S) Q ↔ Q (.ty n) := ok_ok
def get0 (i : Nat) (S : Env) (Q : D → Prop) : Prop := match S[i]? with | some (some ⟨false, d⟩) => Q d | _ => False
def getA (i : Nat) (S : Env) (Q : D → Prop) : Prop := match S[i]? with | some (some ⟨_, d⟩) => Q d | _ => False
def get1 (i : Nat) (S : Env) (Q : D → Prop) : Prop := match S[i]? with | some (some ⟨true, d⟩) => Q d | _ => False
theorem ok_fail {α : Type} {Q : α → Prop} : Ok (.fail : R α) Q ↔ False := ⟨fun ⟨_, e, _⟩ => (nomatch e), False.elim⟩
theorem k_V : Ok (eV i S) Q ↔ get0 i S Q := by
  unfold eV get0
  cases S[i]? with
  | none => exact ok_fail
  | some o =>
    cases o with
    | none => exact ok_fail
    | some sl => obtain ⟨b, d⟩ := sl; cases b <;> first | exact ok_ok | exact ok_fail
theorem k_W : Ok (eW i S) Q ↔ getA i S Q := by
  unfold eW getA
  cases S[i]? with
  | none => exact ok_fail
  | some o =>
    cases o with
    | none => exact ok_fail
    | some sl => obtain ⟨b, d⟩ := sl; cases b <;> first | exact ok_ok | exact ok_fail
theorem k_O : Ok (eO i S) Q ↔ get1 i S Q := by
  unfold eO get1
  cases S[i]? with
  | none => exact ok_fail
  | some o =>
    cases o with
    | none => exact ok_fail
    | some sl => obtain ⟨b, d⟩ := sl; cases b <;> first | exact ok_ok | exact ok_fail
theorem g0_z {b : List (Option Sl)} {Q : D → Prop} : get0 0 (some ⟨false, d⟩ :: b) Q ↔ Q d := Iff.rfl
theorem g0_s {a : Option Sl} {b : List (Option Sl)} {Q : D → Prop} : get0 (i + 1) (a :: b) Q ↔ get0 i b Q := Iff.rfl
theorem gA_z {o : Bool} {b : List (Option Sl)} {Q : D → Prop} : getA 0 (some ⟨o, d⟩ :: b) Q ↔ Q d := Iff.rfl
theorem gA_s {a : Option Sl} {b : List (Option Sl)} {Q : D → Prop} : getA (i + 1) (a :: b) Q ↔ getA i b Q := Iff.rfl
theorem g1_z {b : List (Option Sl)} {Q : D → Prop} : get1 0 (some ⟨true, d⟩ :: b) Q ↔ Q d := Iff.rfl
theorem g1_s {a : Option Sl} {b : List (Option Sl)} {Q : D → Prop} : get1 (i + 1) (a :: b) Q ↔ get1 i b Q := Iff.rfl
theorem k_1 {o : D → R D} : Ok (e1 o f S) Q ↔ Ok (f S) fun x => Ok (o x) Q := by unfold e1; simp only [ok_bind, ok_nox]
theorem k_2 {o : D → D → R D} : Ok (e2 o f g S) Q ↔ Ok (f S) fun x => Ok (g S) fun y => Ok (o x y) Q := by unfold e2; simp only [ok_bind, ok_nox]
theorem k_n : Ok (aN S) QL ↔ QL [] := ok_ok
theorem k_c : Ok (aC f fa S) QL ↔ Ok (f S) fun x => Ok (fa S) fun xs => QL (x :: xs) := by unfold aC; simp only [ok_bind, ok_ok]
theorem k_T : Ok (eT fa S) Q ↔ Ok (fa S) fun xs => xs.length ≤ sizeLine ∧ Q (.tup xs) := by unfold eT mkT; simp only [ok_bind, ok_if, ok_ok]
theorem k_L : Ok (eL fa S) Q ↔ Ok (fa S) fun xs => xs.length ≤ sizeLine ∧ Q (.lst xs) := by unfold eL mkL; simp only [ok_bind, ok_if, ok_ok]
theorem k_C {o : List D → R D} : Ok (eC o fa S) Q ↔ Ok (fa S) fun xs => Ok (o xs) Q := by unfold eC; simp only [ok_bind, ok_nox]
theorem k_f1 {o : D → R D} : Ok (f1 o [x]) Q ↔ Ok (o x) Q := Iff.rfl
theorem k_f2 {o : D → D → R D} : Ok (f2 o [x, y]) Q ↔ Ok (o x y) Q := Iff.rfl
theorem k_App {fk : FA} : Ok (fApp fa fk S) QL ↔ Ok (fa S) fun xs => Ok (fk S) fun ys => QL (xs ++ ys) := by unfold fApp; simp only [ok_bind, ok_ok]
theorem k_M {ci : Nat} {den : List D → R D} : Ok (eM ci den f fa S) Q ↔ Ok (f S) fun o => o.isObj ci = true ∧ Ok (fa S) fun ds => Ok (den (o :: ds)) Q := by unfold eM; simp only [ok_bind, ok_if, ok_nox]
theorem k_P {ci : Nat} {den : List D → R D} : Ok (eP ci den f S) Q ↔ Ok (f S) fun o => o.isObj ci = true ∧ Ok (den [o]) Q := by unfold eP; rw [k_M]; simp only [ok_ok]
theorem ok_b {α : Type} {Q : α → Prop} {b : Bool} {a c : R α} : Ok (if b = true then a else c) Q ↔ (b = true → Ok a Q) ∧ (b = false → Ok c Q) := by cases b <;> simp
theorem k_3 {o o' : D → D → R D} : Ok (e3 o o' f g h S) Q ↔ Ok (f S) fun x => Ok (g S) fun y => Ok (o x y) fun b => Ok (toB b) fun b => (b = true → Ok (h S) fun z => Ok (o' y z) Q) ∧ (b = false → Q (.bl false)) := by
  unfold e3
  simp only [ok_bind, ok_nox, ok_b, ok_ok]
/-! tests -/
theorem k_tB : Ok (tB' f S) QB ↔ Ok (f S) fun x => Ok (toB x) QB := by unfold tB'; simp only [ok_bind]
theorem k_tT : Ok (tT' f S) QB ↔ Ok (f S) fun x => Ok (truD x) QB := by unfold tT'; simp only [ok_bind]
theorem k_toB {b : Bool} : Ok (toB (.bl b)) QB ↔ QB b := ok_ok
theorem k_tNo : Ok (tNo t S) QB ↔ Ok (t S) fun b => QB (!b) := by unfold tNo; simp only [ok_bind, ok_ok]
theorem k_tA : Ok (tA t u S) QB ↔ Ok (t S) fun b => (b = true → Ok (u S) QB) ∧ (b = false → QB false) := by unfold tA; simp only [ok_bind, ok_b, ok_ok]
theorem k_tO : Ok (tO t u S) QB ↔ Ok (t S) fun b => (b = true → QB true) ∧ (b = false → Ok (u S) QB) := by unfold tO; simp only [ok_bind, ok_b, ok_ok]
theorem k_tY : Ok (tY S) QB ↔ QB true := ok_ok
theorem k_And : Ok (eAnd f g S) Q ↔ Ok (f S) fun x => Ok (toB x) fun b => (b = true → Ok (g S) Q) ∧ (b = false → Q (.bl false)) := by unfold eAnd; simp only [ok_bind, ok_b, ok_ok]
theorem k_Or : Ok (eOr f g S) Q ↔ Ok (f S) fun x => Ok (toB x) fun b => (b = true → Q (.bl true)) ∧ (b = false → Ok (g S) Q) := by unfold eOr; simp only [ok_bind, ok_b, ok_ok]
theorem k_Not : Ok (eNot f S) Q ↔ Ok (f S) fun x => Ok (toB x) fun b => Q (.bl (!b)) := by unfold eNot; simp only [ok_bind, ok_ok]
theorem k_eIf : Ok (eIf t f g S) Q ↔ Ok (t S) fun b => (b = true → Ok (f S) Q) ∧ (b = false → Ok (g S) Q) := by unfold eIf; simp only [ok_bind, ok_b]
/-! statements -/
theorem k_nil : Ok (sNil S) QS ↔ QS (.nx, S) := ok_ok
theorem k_seq : Ok (sSeq s r S) QS ↔ Ok (s S) fun z => match z.1 with | .nx => Ok (r z.2) QS | _ => QS z := by
  unfold sSeq
  rw [ok_bind]
  apply iff_of_eq
  congr 1
  funext z
  obtain ⟨fl, S'⟩ := z
  cases fl <;> simp [ok_ok]
theorem k_set : Ok (sSet i f S) QS ↔ Ok (f S) fun d => QS (.nx, S.set i (some ⟨false, d⟩)) := by unfold sSet; simp only [ok_bind, ok_ok]
theorem k_own : Ok (sOwn i f S) QS ↔ Ok (f S) fun d => QS (.nx, S.set i (some ⟨true, d⟩)) := by unfold sOwn; simp only [ok_bind, ok_ok]
theorem k_drop : Ok (sDrop f S) QS ↔ Ok (f S) fun d => QS (.nx, S) := by unfold sDrop; simp only [ok_bind, ok_ok]
theorem k_ret : Ok (sRet f S) QS ↔ Ok (f S) fun d => QS (.rt d, S) := by unfold sRet; simp only [ok_bind, ok_ok]
theorem k_retN : Ok (sRetN S) QS ↔ QS (.rt .non, S) := ok_ok
theorem k_retO : Ok (sRetO i S) QS ↔ get1 i S fun d => QS (.rt d, S) := by unfold sRetO; simp only [ok_bind, ok_ok, k_O]
theorem k_if : Ok (sIf t s r S) QS ↔ Ok (t S) fun b => (b = true → Ok (s S) QS) ∧ (b = false → Ok (r S) QS) := by unfold sIf; simp only [ok_bind, ok_b]
theorem k_fz : Ok (sFz i s S) QS ↔ Ok (s (fzS S i)) QS := Iff.rfl
theorem fz_z {b : Bool} {l : List (Option Sl)} : fzS (some ⟨b, d⟩ :: l) 0 = some ⟨false, d⟩ :: l := by cases b <;> rfl
theorem fz_s {a : Option Sl} {l : List (Option Sl)} : fzS (a :: l) (i + 1) = a :: fzS l i := by
  unfold fzS
  rw [List.getElem?_cons_succ]
  split <;> simp [*]
theorem k_gN : Ok (gN i d S) QE ↔ QE (S.set i (some ⟨false, d⟩)) := ok_ok
theorem k_gsN : Ok (gsN [] S) QE ↔ QE S := ok_ok
theorem k_gsC {ga : FG} {gr : FGs} {ds : List D} : Ok (gsC ga gr (d :: ds) S) QE ↔ Ok (ga d S) fun S1 => Ok (gr ds S1) QE := ok_bind
theorem k_gT {n : Nat} {gr : FGs} {ds : List D} : Ok (gT n gr (.tup ds) S) QE ↔ ds.length = n ∧ Ok (gr ds S) QE := ok_if
theorem k_asg {ga : FG} : Ok (sAsg ga f S) QS ↔ Ok (f S) fun d => Ok (ga d S) fun S1 => QS (.nx, S1) := by unfold sAsg; simp only [ok_bind, ok_nox, ok_ok]
theorem k_for {fi : FI} {ga : FG} : Ok (sFor fi ga s S) QS ↔ Ok (fi S) fun ds => Ok (forF ga s ds S) QS := ok_bind
theorem k_fnil {ga : FG} : Ok (forF ga s [] S) QS ↔ QS (.nx, S) := ok_ok
theorem k_fcons {ga : FG} {ds : List D} : Ok (forF ga s (d :: ds) S) QS ↔ Ok (ga d S) fun S1 => Ok (s S1) fun z => match z.1 with
    | .nx => Ok (forF ga s ds z.2) QS
    | .ct => Ok (forF ga s ds z.2) QS
    | .bk => QS (.nx, z.2)
    | .rt d => QS (.rt d, z.2) := by
  show Ok ((ga d S).nox >>= _) QS ↔ _
  rw [ok_bind, ok_nox]
  apply iff_of_eq
  congr 1
  funext S1
  refine propext ?_
  rw [ok_bind]
  apply iff_of_eq
  congr 1
  funext z
  obtain ⟨fl, S'⟩ := z
  cases fl <;> simp [ok_ok]
theorem for_inv {ga : FG} (P : Nat → Env → Prop) : ∀ (ds : List D) (n : Nat) (S : Env), P n S → (∀ i d S, ds[i]? = some d → P (n + i) S → Ok (ga d S) fun S1 => Ok (s S1) fun z => match z.1 with
    | .nx => P (n + i + 1) z.2
    | .ct => P (n + i + 1) z.2
    | .bk => QS (.nx, z.2)
    | .rt d => QS (.rt d, z.2)) → (∀ S, P (n + ds.length) S → QS (.nx, S)) → Ok (forF ga s ds S) QS
  | [], n, S, h, _, q => ok_ok.mpr (q S h)
  | d :: ds, n, S, h, k, q => by
    rw [k_fcons]
    refine (k 0 d S rfl h).mono fun S1 h1 => h1.mono fun z hz => ?_
    have next : ∀ S', P (n + 0 + 1) S' → Ok (forF ga s ds S') QS := fun S' hp => for_inv P ds (n + 1) S' hp (fun i d' S'' hi hp => by
      have := k (i + 1) d' S'' (by simpa using hi) (by rwa [show n + (i + 1) = n + 1 + i by omega])
      rwa [show n + (i + 1) + 1 = n + 1 + i + 1 by omega] at this) fun S'' h => q S'' (by rwa [List.length_cons, show n + (ds.length + 1) = n + 1 + ds.length by omega])
    obtain ⟨fl, S'⟩ := z
    cases fl with
    | nx => exact next S' hz
    | ct => exact next S' hz
    | bk => exact hz
    | rt d => exact hz
theorem k_app : Ok (sApp i f S) QS ↔ Ok (ownL i S) fun ds => Ok (f S) fun d => ds.length < sizeLine ∧ QS (.nx, S.set i (some ⟨true, .lst (ds ++ [d])⟩)) := by unfold sApp; simp only [ok_bind, ok_if, ok_ok]
theorem oL_z {l : List (Option Sl)} {ds : List D} : Ok (ownL 0 (some ⟨true, .lst ds⟩ :: l)) QL ↔ QL ds := ok_ok
theorem oL_s {a : Option Sl} {l : List (Option Sl)} : Ok (ownL (i + 1) (a :: l)) QL ↔ Ok (ownL i l) QL := Iff.rfl
theorem k_par {is : List Nat} : Ok (sPar is fa S) QS ↔ Ok (fa S) fun ds => ds.length = is.length ∧ QS (.nx, putS S is ds) := by unfold sPar; simp only [ok_bind, ok_if, ok_ok]
theorem k_run {n : Nat} {ds : List D} : Ok (runF false n s ds) Q ↔ Ok (s (startS n ds)) fun z => match z.1 with | .rt d => Q d | .nx => Q .non | _ => False := by
  unfold runF
  cases e : s (startS n ds) with
  | ok z =>
    rw [ok_ok]
    obtain ⟨fl, S'⟩ := z
    cases fl <;> simp [endF, ok_ok, ok_fail]
  | exc x => exact ⟨fun ⟨_, e, _⟩ => (nomatch e), fun ⟨_, e, _⟩ => (nomatch e)⟩
  | fail => exact ⟨fun ⟨_, e, _⟩ => (nomatch e), fun ⟨_, e, _⟩ => (nomatch e)⟩
theorem k_runN {n ci : Nat} {ds : List D} : Ok (runN n ci s ds) Q ↔ Ok (s (startN n ci ds)) fun z => match z.1 with | .nx => get1 0 z.2 Q | _ => False := by
  unfold runN
  cases e : s (startN n ci ds) with
  | ok z =>
    rw [ok_ok]
    obtain ⟨fl, S'⟩ := z
    cases fl with
    | nx =>
      show Ok (endN (.ok (.nx, S'))) Q ↔ get1 0 S' Q
      unfold endN get1
      dsimp only
      cases S'[0]? with
      | none => exact ok_fail
      | some o =>
        cases o with
        | none => exact ok_fail
        | some sl => obtain ⟨b, d⟩ := sl; cases b <;> first | exact ok_ok | exact ok_fail
    | _ => exact ok_fail
  | exc x => exact ⟨fun ⟨_, e, _⟩ => (nomatch e), fun ⟨_, e, _⟩ => (nomatch e)⟩
  | fail => exact ⟨fun ⟨_, e, _⟩ => (nomatch e), fun ⟨_, e, _⟩ => (nomatch e)⟩
theorem k_fld {ci : Nat} : Ok (sFldN ci i j f S) QS ↔ Ok (ownO ci i S) fun ds => Ok (f S) fun d => ds.length = j ∧ QS (.nx, S.set i (some ⟨true, .obj ci (ds ++ [d])⟩)) := by unfold sFldN; simp only [ok_bind, ok_if, ok_ok]
theorem oO_z {ci : Nat} {l : List (Option Sl)} {ds : List D} : Ok (ownO ci 0 (some ⟨true, .obj ci ds⟩ :: l)) QL ↔ QL ds := by
  show Ok (if ci = ci then _ else _) QL ↔ _
  rw [if_pos rfl]; exact ok_ok
/-! operations -/
theorem k_add {a b : Int} : Ok (addD (.int a) (.int b)) Q ↔ Q (.int (a + b)) := ok_ok
theorem k_addL {a b : List D} : Ok (addD (.lst a) (.lst b)) Q ↔ a.length + b.length ≤ sizeLine ∧ Q (.lst (a ++ b)) := by show Ok (if _ then _ else _) Q ↔ _; rw [ok_if, ok_ok]
theorem k_sub {a b : Int} : Ok (subD (.int a) (.int b)) Q ↔ Q (.int (a - b)) := ok_ok
theorem k_mul {a b : Int} : Ok (mulD (.int a) (.int b)) Q ↔ (CMul a b ∨ CMulX a b) ∧ Q (.int (a * b)) := by show Ok (if _ then _ else _) Q ↔ _; rw [ok_if, ok_ok]
theorem k_div {a b : Int} : Ok (fdivD (.int a) (.int b)) Q ↔ CDiv a b ∧ Q (.int (a / b)) := by show Ok (if _ then _ else _) Q ↔ _; rw [ok_if, ok_ok]
theorem k_mod {a b : Int} : Ok (modD (.int a) (.int b)) Q ↔ 0 < b ∧ Q (.int (a % b)) := by show Ok (if _ then _ else _) Q ↔ _; rw [ok_if, ok_ok]
theorem k_pow {a b : Int} : Ok (powD (.int a) (.int b)) Q ↔ CPow a b ∧ Q (.int (a ^ b.toNat)) := by show Ok (if _ then _ else _) Q ↔ _; rw [ok_if, ok_ok]
theorem k_neg {a : Int} : Ok (negD (.int a)) Q ↔ Q (.int (-a)) := ok_ok
theorem k_lt {a b : Int} : Ok (ltD (.int a) (.int b)) Q ↔ Q (.bl (decide (a < b))) := ok_ok
theorem k_le {a b : Int} : Ok (leD (.int a) (.int b)) Q ↔ Q (.bl (decide (a ≤ b))) := ok_ok
theorem k_gt {a b : Int} : Ok (gtD (.int a) (.int b)) Q ↔ Q (.bl (decide (b < a))) := ok_ok
theorem k_ge {a b : Int} : Ok (geD (.int a) (.int b)) Q ↔ Q (.bl (decide (b ≤ a))) := ok_ok
theorem k_eqI {a b : Int} : Ok (eqD (.int a) (.int b)) Q ↔ Q (.bl (decide (a = b))) := by
  have e : eqD (.int a) (.int b) = .ok (.bl (decide (a = b))) := by
    unfold eqD; simp only [dok, deq, Bool.and_self, if_true]; rfl
  rw [e, ok_ok]
theorem k_neI {a b : Int} : Ok (neD (.int a) (.int b)) Q ↔ Q (.bl (!decide (a = b))) := by
  have e : neD (.int a) (.int b) = .ok (.bl (!decide (a = b))) := by
    unfold neD; simp only [dok, deq, Bool.and_self, if_true]; rfl
  rw [e, ok_ok]
theorem k_int {a : Int} : Ok (intD (.int a)) Q ↔ Q (.int a) := ok_ok
theorem k_intB {b : Bool} : Ok (intD (.bl b)) Q ↔ Q (.int (if b then 1 else 0)) := ok_ok
theorem k_abs {a : Int} : Ok (absD (.int a)) Q ↔ Q (.int (if a < 0 then -a else a)) := ok_ok
theorem k_lenL {a : List D} : Ok (lenD (.lst a)) Q ↔ Q (.int a.length) := ok_ok
theorem k_lenT {a : List D} : Ok (lenD (.tup a)) Q ↔ Q (.int a.length) := ok_ok
theorem k_lenC {a : List Int} : Ok (lenD (.scr a)) Q ↔ Q (.int a.length) := ok_ok
theorem k_tru {b : Bool} : Ok (truD (.bl b)) QB ↔ QB b := ok_ok
theorem k_tupL {a : List D} : Ok (tupD (.lst a)) Q ↔ Q (.tup a) := ok_ok
theorem k_tupT {a : List D} : Ok (tupD (.tup a)) Q ↔ Q (.tup a) := ok_ok
theorem k_fldD {ci j : Nat} {ds : List D} : Ok (fldD ci j (.obj ci ds)) Q ↔ ∃ d, ds[j]? = some d ∧ Q d := by
  show Ok (if ci = ci then _ else _) Q ↔ _
  rw [if_pos rfl]
  cases h : ds[j]? with
  | none => exact ⟨fun ⟨_, e, _⟩ => (nomatch e), fun ⟨_, e, _⟩ => (nomatch e)⟩
  | some d => exact ⟨fun q => ⟨d, rfl, ok_ok.mp q⟩, fun ⟨_, e, q⟩ => by cases e; exact ok_ok.mpr q⟩
theorem k_items_l {ds : List D} : Ok (itemsD (.lst ds)) QL ↔ QL ds := ok_ok
theorem k_items_t {ds : List D} : Ok (itemsD (.tup ds)) QL ↔ QL ds := ok_ok
theorem k_rng1 {j : Int} : Ok (rng1 [.int j]) QL ↔ (-(2 ^ 62) ≤ j ∧ j < 2 ^ 62) ∧ QL (rngL 0 j.toNat) := by show Ok (if _ then _ else _) QL ↔ _; rw [ok_if, ok_ok]
theorem k_ixL {xs : List D} {i : Int} : Ok (ixD (.lst xs) (.int i)) Q ↔ ∃ d, L2.atI xs i = some d ∧ Q d := by
  show Ok (match L2.atI xs i with | some d => .ok d | none => .fail) Q ↔ _
  cases L2.atI xs i with
  | none => exact ⟨fun ⟨_, e, _⟩ => (nomatch e), fun ⟨_, e, _⟩ => (nomatch e)⟩
  | some d => exact ⟨fun q => ⟨d, rfl, ok_ok.mp q⟩, fun ⟨_, e, q⟩ => by cases e; exact ok_ok.mpr q⟩
theorem k_ixT {xs : List D} {i : Int} : Ok (ixD (.tup xs) (.int i)) Q ↔ ∃ d, L2.atI xs i = some d ∧ Q d := by
  show Ok (match L2.atI xs i with | some d => .ok d | none => .fail) Q ↔ _
  cases L2.atI xs i with
  | none => exact ⟨fun ⟨_, e, _⟩ => (nomatch e), fun ⟨_, e, _⟩ => (nomatch e)⟩
  | some d => exact ⟨fun q => ⟨d, rfl, ok_ok.mp q⟩, fun ⟨_, e, q⟩ => by cases e; exact ok_ok.mpr q⟩
theorem k_ixC {xs : List Int} {i : Int} : Ok (ixD (.scr xs) (.int i)) Q ↔ ∃ d, L2.atI xs i = some d ∧ Q (.int d) := by
  show Ok (match L2.atI xs i with | some d => .ok (.int d) | none => .fail) Q ↔ _
  cases L2.atI xs i with
  | none => exact ⟨fun ⟨_, e, _⟩ => (nomatch e), fun ⟨_, e, _⟩ => (nomatch e)⟩
  | some d => exact ⟨fun q => ⟨d, rfl, ok_ok.mp q⟩, fun ⟨_, e, q⟩ => by cases e; exact ok_ok.mpr q⟩
theorem k_fun {β : Type} {r : R β} {f : β → R (List D)} : Ok (r >>= f) QL ↔ Ok r fun b => Ok (f b) QL := ok_bind
end
theorem k_no {QS : Fl × Env → Prop} {S : Env} : Ok (sNo S) QS ↔ False := ok_fail
theorem k_guard {QS : Fl × Env → Prop} {S : Env} {t : FT} : Ok (sIf t sNo sNil S) QS ↔ Ok (t S) fun b => b = false ∧ QS (.nx, S) := by
  rw [k_if]
  apply iff_of_eq
  congr 1
  funext b
  cases b <;> simp [k_no, k_nil]
theorem seq_cut {QS : Fl × Env → Prop} {S : Env} {s r : FS} (P : Env → Prop) (h : Ok (s S) fun z => z.1 = .nx ∧ P z.2) (k : ∀ S', P S' → Ok (r S') QS) : Ok (sSeq s r S) QS := by
  rw [k_seq]
  refine h.mono fun z hz => ?_
  obtain ⟨fl, S'⟩ := z
  obtain ⟨rfl, hp⟩ := hz
  exact k S' hp
theorem mul_r {i j : Int} (h1 : -(2 ^ 64) < j) (h2 : j < 2 ^ 64) : CMul i j ∨ CMulX i j := .inl (.inr ⟨h1, h2⟩)
theorem mul_l {i j : Int} (h1 : -(2 ^ 64) < i) (h2 : i < 2 ^ 64) : CMul i j ∨ CMulX i j := .inl (.inl ⟨h1, h2⟩)
theorem div_c {i j : Int} (h1 : 0 < j) (h2 : j < 1073741824) : CDiv i j := ⟨h1, h2⟩
theorem bits64 {i : Int} (h1 : -(2 ^ 64) < i) (h2 : i < 2 ^ 64) : Builtin.Int.intBits i ≤ 64 := intBits_le_64 h1 h2
theorem atI_mem {α : Type} {xs : List α} {i : Int} {a : α} (h : L2.atI xs i = some a) : a ∈ xs := by
  unfold L2.atI at h
  cases e : ixN xs.length i with
  | none => rw [e] at h; cases h
  | some n => rw [e] at h; exact List.mem_of_getElem? h
theorem atI_lt {α : Type} {xs : List α} {i : Int} (h0 : 0 ≤ i) (h : i < xs.length) : ∃ a, L2.atI xs i = some a := by
  have hi : i.toNat < xs.length := by omega
  refine ⟨xs[i.toNat], ?_⟩
  unfold L2.atI ixN
  rw [if_pos h0, if_pos h]
  exact List.getElem?_eq_getElem hi
theorem rngL_get {lo : Int} {n i : Nat} {d : D} (h : (rngL lo n)[i]? = some d) : i < n ∧ d = .int (lo + i) := by
  unfold rngL at h
  rw [List.getElem?_map] at h
  by_cases hi : i < n
  · rw [List.getElem?_range hi] at h
    cases h
    exact ⟨hi, rfl⟩
  · rw [List.getElem?_eq_none (by simp; omega)] at h
    cases h
theorem rngL_len {lo : Int} {n : Nat} : (rngL lo n).length = n := by unfold rngL; simp
theorem size_ge : (1048576 : Nat) ≤ sizeLine := by decide
end M
namespace M
open PySem L2
/-! ### typed lists -/
theorem lc_typed {α : Type} {ga : FG} {t : FT} {fe : FE} {S : Env} (f : α → D) (p : α → Bool) (g : α → D) : ∀ (xs : List α), (∀ x ∈ xs, Ok (ga (f x) S) fun S1 => Ok (t S1) fun b => b = p x ∧ (p x = true → Ok (fe S1) fun y => y = g x)) → lcF ga t fe S (xs.map f) = .ok ((xs.filter p).map g)
  | [], _ => rfl
  | x :: xs, h => by
    have ih := lc_typed f p g xs fun y hy => h y (List.mem_cons_of_mem _ hy)
    obtain ⟨S1, e1, b, e2, rfl, k⟩ := h x (List.mem_cons_self ..)
    show ((ga (f x) S).nox >>= fun S1 => (t S1).nox >>= fun b => if b then (fe S1).nox >>= fun y => lcF ga t fe S (xs.map f) >>= fun ys => .ok (y :: ys) else lcF ga t fe S (xs.map f)) = _
    rw [e1, R.nox_ok, R.ok_bind, e2, R.nox_ok, R.ok_bind, ih]
    by_cases hp : p x = true
    · obtain ⟨y, e3, rfl⟩ := k hp
      rw [if_pos hp, e3, R.nox_ok, R.ok_bind, R.ok_bind, List.filter_cons_of_pos hp, List.map_cons]
    · rw [if_neg hp, List.filter_cons_of_neg hp]
theorem k_lc {fi : FI} {ga : FG} {t : FT} {fe : FE} {vs : List Nat} {S : Env} {Q : D → Prop} : Ok (lcE fi ga t fe vs S) Q ↔ Ok (fi S) fun ds => ds.length ≤ sizeLine ∧ Ok (lcF ga t fe (wipeS S vs) ds) fun ys => Q (.lst ys) := by
  unfold lcE; simp only [ok_bind, ok_if, ok_ok]
theorem k_lcT {α : Type} {fi : FI} {ga : FG} {t : FT} {fe : FE} {vs : List Nat} {S : Env} {Q : D → Prop} (f : α → D) (p : α → Bool) (g : α → D) (xs : List α) (hi : Ok (fi S) fun ds => ds = xs.map f) (hl : xs.length ≤ sizeLine)
    (h : ∀ x ∈ xs, Ok (ga (f x) (wipeS S vs)) fun S1 => Ok (t S1) fun b => b = p x ∧ (p x = true → Ok (fe S1) fun y => y = g x)) (q : Q (.lst ((xs.filter p).map g))) : Ok (lcE fi ga t fe vs S) Q := by
  rw [k_lc]
  obtain ⟨ds, e, rfl⟩ := hi
  refine ⟨_, e, by rwa [List.length_map], ?_⟩
  rw [lc_typed f p g xs h, ok_ok]
  exact q
theorem filter_true {α : Type} {p : α → Bool} : ∀ {xs : List α}, (∀ x ∈ xs, p x = true) → xs.filter p = xs
  | [], _ => rfl
  | x :: xs, h => by rw [List.filter_cons_of_pos (h x (List.mem_cons_self ..)), filter_true fun y hy => h y (List.mem_cons_of_mem _ hy)]
/-- no test -/
theorem k_lcM {α : Type} {fi : FI} {ga : FG} {fe : FE} {vs : List Nat} {S : Env} {Q : D → Prop} (f : α → D) (g : α → D) (xs : List α) (hi : Ok (fi S) fun ds => ds = xs.map f) (hl : xs.length ≤ sizeLine)
    (h : ∀ x ∈ xs, Ok (ga (f x) (wipeS S vs)) fun S1 => Ok (fe S1) fun y => y = g x) (q : Q (.lst (xs.map g))) : Ok (lcE fi ga tY fe vs S) Q := by
  refine k_lcT f (fun _ => true) g xs hi hl (fun x hx => (h x hx).mono fun S1 h1 => ok_ok.mpr ⟨rfl, fun _ => h1⟩) ?_
  rw [filter_true fun _ _ => rfl]
  exact q
theorem asB_mapf {α : Type} (f : α → Bool) : ∀ xs : List α, asB (xs.map fun x => .bl (f x)) = some (xs.map f)
  | [] => rfl
  | x :: xs => by simp only [List.map_cons, asB, asB_mapf f xs, Option.map_some]
theorem asI_mapf {α : Type} (f : α → Int) : ∀ xs : List α, asI (xs.map fun x => .int (f x)) = some (xs.map f)
  | [] => rfl
  | x :: xs => by simp only [List.map_cons, asI, asI_mapf f xs, Option.map_some]
theorem k_any {α : Type} (f : α → Bool) (xs : List α) {Q : D → Prop} : Ok (anyD (.lst (xs.map fun x => .bl (f x)))) Q ↔ Q (.bl (xs.any f)) := by
  have e : anyD (.lst (xs.map fun x => .bl (f x))) = .ok (.bl (xs.any f)) := by
    simp only [anyD, asB_mapf]
    rw [List.any_map]; rfl
  rw [e, ok_ok]
theorem k_all {α : Type} (f : α → Bool) (xs : List α) {Q : D → Prop} : Ok (allD (.lst (xs.map fun x => .bl (f x)))) Q ↔ Q (.bl (xs.all f)) := by
  have e : allD (.lst (xs.map fun x => .bl (f x))) = .ok (.bl (xs.all f)) := by
    simp only [allD, asB_mapf]
    rw [List.all_map]; rfl
  rw [e, ok_ok]
theorem k_sum {α : Type} (f : α → Int) (xs : List α) {Q : D → Prop} : Ok (sumD (.lst (xs.map fun x => .int (f x)))) Q ↔ Q (.int (xs.map f).sum) := by
  have e : sumD (.lst (xs.map fun x => .int (f x))) = .ok (.int (xs.map f).sum) := by simp only [sumD, asI_mapf]
  rw [e, ok_ok]
theorem k_max {α : Type} (f : α → Int) (x : α) (xs : List α) {Q : D → Prop} : Ok (maxD (.lst ((x :: xs).map fun x => .int (f x)))) Q ↔ Q (.int (maxL ((x :: xs).map f))) := by
  have e : maxD (.lst ((x :: xs).map fun x => .int (f x))) = .ok (.int (maxL ((x :: xs).map f))) := by
    unfold maxD
    simp only [asI_mapf]
    rfl
  rw [e, ok_ok]
theorem k_maxc {α : Type} (f : α → Int) (n : Int) (xs : List α) {Q : D → Prop} : Ok (maxD (.lst (.int n :: xs.map fun x => .int (f x)))) Q ↔ Q (.int (maxL (n :: xs.map f))) := by
  have e : maxD (.lst (.int n :: xs.map fun x => .int (f x))) = .ok (.int (maxL (n :: xs.map f))) := by
    unfold maxD
    simp only [asI, asI_mapf, Option.map_some]
  rw [e, ok_ok]
/-- a for over a typed list -/
theorem for_typed {α : Type} {ga : FG} {s : FS} {QS : Fl × Env → Prop} (f : α → D) (P : List α → Env → Prop) (xs : List α) (S : Env) (h0 : P [] S)
    (h : ∀ (done : List α) (x : α) (rest : List α) (S : Env), xs = done ++ x :: rest → P done S → Ok (ga (f x) S) fun S1 => Ok (s S1) fun z => match z.1 with
      | .nx => P (done ++ [x]) z.2
      | .ct => P (done ++ [x]) z.2
      | .bk => QS (.nx, z.2)
      | .rt d => QS (.rt d, z.2)) (q : ∀ S, P xs S → QS (.nx, S)) : Ok (forF ga s (xs.map f) S) QS := by
  suffices H : ∀ (rest done : List α) (S : Env), xs = done ++ rest → P done S → Ok (forF ga s (rest.map f) S) QS from H xs [] S rfl h0
  intro rest
  induction rest with
  | nil => intro done S e hp; rw [List.append_nil] at e; subst e; exact ok_ok.mpr (q S hp)
  | cons x rest ih =>
    intro done S e hp
    rw [List.map_cons, k_fcons]
    refine (h done x rest S e hp).mono fun S1 h1 => h1.mono fun z hz => ?_
    obtain ⟨fl, S'⟩ := z
    have e' : xs = (done ++ [x]) ++ rest := by rw [e]; simp
    cases fl with
    | nx => exact ih (done ++ [x]) S' e' hz
    | ct => exact ih (done ++ [x]) S' e' hz
    | bk => exact hz
    | rt d => exact hz
end M
set_option Elab.async false
set_option linter.all false
set_option maxRecDepth 100000
set_option maxHeartbeats 4000000
namespace M
open PySem L2
/-! ### what the head's hook looks at -/
mutual
def dB (K : PySem.W.Frag) : D → Value → Bool
  | .non, .none => true
  | .bl b, .bool c => b == c
  | .int i, .int j _ => decide (i = j)
  | .str x, .str y _ => decide (x = y)
  | .tup ds, .ref a => (match K.lookup a with
    | some ⟨.type c, _, .seq its _, _⟩ => decide (c = "tuple") && (decide (its.size ≤ sizeLine) && dsB K ds its.toList)
    | _ => false)
  | _, _ => false
termination_by structural d => d
def dsB (K : PySem.W.Frag) : List D → List Value → Bool
  | [], [] => true
  | d :: ds, u :: us => dB K d u && dsB K ds us
  | _, _ => false
termination_by structural ds => ds
end
section
variable {K : PySem.W.Frag} {cl : Nat → Option (Addr × List Str)}
mutual
theorem dB_ok : ∀ {d : D} {u : Value}, dB K d u = true → ∃ v, RelV v u ∧ ∀ G, RD ⟨K, cl⟩ G d v
  | .non, .none, _ => ⟨.non, rfl, fun _ => .non⟩
  | .bl b, .bool c, h => by simp only [dB, beq_iff_eq] at h; subst h; exact ⟨.bl b, rfl, fun _ => .bl _⟩
  | .int i, .int j t, h => by simp only [dB, decide_eq_true_eq] at h; subst h; exact ⟨.int i, ⟨t, rfl⟩, fun _ => .int _⟩
  | .str x, .str y t, h => by simp only [dB, decide_eq_true_eq] at h; subst h; exact ⟨.str x, ⟨t, rfl⟩, fun _ => .str _⟩
  | .tup ds, .ref a, h => by
    simp only [dB] at h
    split at h
    · rename_i c od its n sl e
      simp only [Bool.and_eq_true, decide_eq_true_eq] at h
      obtain ⟨h1, h2, h3⟩ := h
      obtain ⟨vs, r1, r2⟩ := dsB_ok h3
      exact ⟨.ref a, rfl, fun G => .tup (.inr ⟨_, its, n, e, congrArg Value.type h1, rfl, h2, r1⟩) (r2 G)⟩
    · cases h
theorem dsB_ok : ∀ {ds : List D} {us : List Value}, dsB K ds us = true → ∃ vs, Vals vs us ∧ ∀ G, RDs ⟨K, cl⟩ G ds vs
  | [], [], _ => ⟨[], .nil, fun _ => .nil⟩
  | d :: ds, u :: us, h => by
    simp only [dsB, Bool.and_eq_true] at h
    obtain ⟨v, r1, r2⟩ := dB_ok h.1
    obtain ⟨vs, q1, q2⟩ := dsB_ok h.2
    exact ⟨v :: vs, .cons r1 q1, fun G => .cons (r2 G) (q2 G)⟩
end
end
def gB (K : PySem.W.Frag) (q : Str × D) : Bool := match PySem.W.nsIn K mainGlobals q.1 with
  | some (some u) => dB K q.2 u
  | _ => false
theorem gB_ok {K : PySem.W.Frag} {h : Heap} {mg : Str → Option Value} {cl : Nat → Option (Addr × List Str)} {x : Str} {d : D} (X : K.In h) (G : h.Ns mainGlobals mg) (c : gB K (x, d) = true) : Gc mg ⟨K, cl⟩ x d := by
  unfold gB at c
  split at c
  · rename_i u e
    obtain ⟨v, r1, r2⟩ := dB_ok (cl := cl) c
    exact ⟨v, u, PySem.W.mg_of X G e, r1, r2⟩
  · cases c
theorem gcls_ok {K : PySem.W.Frag} {mg : Str → Option Value} {cl : Nat → Option (Addr × List Str)} {x : Str} {ci : Nat} {C : Addr} {nm : List Str} (h : mg x = some (.ref C)) (hc : cl ci = some (C, nm)) : Gc mg ⟨K, cl⟩ x (.cls ci) :=
  ⟨.ref C, .ref C, h, rfl, fun _ => .cls hc⟩
/-- a class whose instances isinstance knows -/
def tyB (K : PySem.W.Frag) (x : Str) : Bool := He.eqO (PySem.W.findIn K (.ref (He.ga K x)) "__class__") (some (some (.builtin "object.__class__"))) && (He.eqO (PySem.W.specialIn K (.builtin "object.__class__") "__get__") (some (some (.builtin "getset_descriptor.__get__"))) &&
  (decide (PySem.W.takesIn K (.builtin "object.__class__") = some true) && decide (PySem.W.mroIn K (He.ga K x) (.type "object") = some true)))
theorem tyB_ok {K : PySem.W.Frag} {cl : Nat → Option (Addr × List Str)} {x : Str} {ci : Nat} {nm : List Str} (c : tyB K x = true) (h : Cls K (He.ga K x)) (hc : cl ci = some (He.ga K x, nm)) : ClsT K ⟨K, cl⟩ ci := by
  obtain ⟨h1, h2⟩ := He.ba c
  obtain ⟨h3, h4⟩ := He.ba h2
  obtain ⟨h5, h6⟩ := He.ba h4
  exact ⟨_, nm, hc, h, He.eqO_ok h1, He.eqO_ok h3, of_decide_eq_true h5, of_decide_eq_true h6⟩
/-! ### the hook -/
/-- facts: the kit's, constants of the top, classes of isinstance -/
structure Fx where
  fa : List He.Fa
  gs : List (Str × D)
  ts : List Str
def Fx.ok (x : Fx) (K : PySem.W.Frag) : Bool := (x.fa.all fun f => f.ok K) && ((x.gs.all fun g => gB K g) && x.ts.all fun t => tyB K t)
def obsX (x : Fx) (fn : List He.DefD) (K : PySem.W.Frag) : He.AlD := (x.ok K && fn.all fun d => d.ok K, fn.map fun d => He.fnW K d.at_)
def SaysX (x : Fx) (fn : List He.DefD) (K : PySem.W.Frag) : Prop := obsX x fn K = He.valD fn
def obsXG (n : Nat) (x : Fx) (fn : List He.DefD) (g : Addr → Option Obj) : He.AlD := obsX x fn (He.frG g (He.asD g n))
def hookX (n : Nat) (x : Fx) (fn : List He.DefD) : PySem.W.Hook where
  α := He.AlD
  obs := fun s => obsXG n x fn s.heap.get?
  val := fun _ => He.valD fn
  says := fun _ h => ∃ K : PySem.W.Frag, K.In h ∧ SaysX x fn K
  of := fun _ _ e => ⟨_, He.frG_in, e⟩
  keeps := fun _ _ _ ⟨K, hK, c⟩ k => ⟨K, PySem.W.Frag.In.keeps hK k, c⟩
theorem obsXG_eq {n : Nat} {x : Fx} {fn : List He.DefD} {g : Addr → Option Obj} {s : Shared} (h : ∀ a, g a = s.heap.get? a) : obsXG n x fn g = (hookX n x fn).obs s := by
  have e : g = s.heap.get? := funext h
  rw [e] <;> rfl
section
variable {x : Fx} {fn : List He.DefD} {K : PySem.W.Frag}
theorem SaysX.ok (c : SaysX x fn K) : x.ok K = true := (He.ba (show (x.ok K && fn.all fun d => d.ok K) = true from congrArg (fun z : He.AlD => z.1) c)).1
theorem SaysX.fact (c : SaysX x fn K) (i : Nat) {f : He.Fa} (h : x.fa[i]? = some f := by rfl) : f.ok K = true := List.all_eq_true.mp (He.ba c.ok).1 f (List.mem_of_getElem? h)
theorem SaysX.gc (c : SaysX x fn K) (i : Nat) {f : Str × D} (h : x.gs[i]? = some f := by rfl) : gB K f = true := List.all_eq_true.mp (He.ba (He.ba c.ok).2).1 f (List.mem_of_getElem? h)
theorem SaysX.ty (c : SaysX x fn K) (i : Nat) {f : Str} (h : x.ts[i]? = some f := by rfl) : tyB K f = true := List.all_eq_true.mp (He.ba (He.ba c.ok).2).2 f (List.mem_of_getElem? h)
theorem SaysX.def_ (c : SaysX x fn K) (i : Nat) {d : He.DefD} (h : fn[i]? = some d := by rfl) : ∃ fd, FunD K d.name d.qual d.params d.body d.scope (d.dvs K) (d.kws K) (He.fAd K d.at_) fd := by
  have c2 := (He.ba (show (x.ok K && fn.all fun d => d.ok K) = true from congrArg (fun z : He.AlD => z.1) c)).2
  have e : fn.map (fun d => He.fnW K d.at_) = fn.map He.DefD.val := congrArg (fun z : He.AlD => z.2) c
  have e2 : (fn.map fun d => He.fnW K d.at_)[i]? = (fn.map He.DefD.val)[i]? := by rw [e]
  rw [List.getElem?_map, List.getElem?_map, h] at e2
  exact He.DefD.funD (Option.some.inj e2) (List.all_eq_true.mp c2 d (List.mem_of_getElem? h))
end
/-! ### the end -/
theorem walk_ofX {l : PySem.W.OpenLaw} {n k : Nat} {q : Program} {loose : List Str} {XP : (Str → Option Value) → Heap → Prop} {YP : World → Heap → Prop} {d : DefRec} {x : Str} {den : List D → R D}
    (hn : l.most = some n) (hn2 : n ≤ sizeLine) (hdf : d.params.defaults = []) (hr : Room k callerA)
    (F : ∀ (w : World) (mg : Str → Option Value) (fa : Addr) (h : Heap), YP w h → h.Ns mainGlobals mg → mg d.name = some (.ref fa) →
      ∃ (K : PySem.W.Frag) (fd : FuncData) (cl : Nat → Option (Addr × List Str)), K.In h ∧ (∀ (s : Shared) (u : Value), BindsTo s fd ⟨[u], []⟩ [(x, u)]) ∧
        ∀ base : Heap, K.In base → base.Ns mainGlobals mg → FnOk l.prog w K mg base CX0 k fa fd [x] (SpF ⟨K, cl⟩ false 1 den))
    (pure_ : ∀ ns : List Int, ns.length ≤ n → (∀ z ∈ ns, Builtin.Int.intBits z ≤ 1048576) → den [.scr ns] = .ok (.bl true)) :
    PySem.W.WalkO q loose XP YP l.row.toRowW d [] (fun f vs => PySem.call f vs) := by
  refine Att.attach_callB hn hdf fun w s₀ s₁ mg mb fa o pm cd doc a vs ns G Y ho hd hcd hmg hobj hints hlen hbits hg => ?_
  obtain ⟨K, fd, cl, KX, hb, hF⟩ := F w mg fa _ Y G.T.g hmg
  refine law_call KX G.T.g G.T.b G.T.builtins G.T.nolimit hg hobj hints (Nat.le_trans hlen hn2) hr hF hb (fun H hO hS => ?_) fun H e s' z => z
  refine ⟨rfl, H, [.scr ns], Ex.refl H, .cons (.scr hS) .nil, ?_⟩
  rw [pure_ ns hlen hbits]
  intro v G' H' s r
  have r : RD ⟨K, cl⟩ G' (.bl true) v := r
  cases r
  rfl
end M
set_option Elab.async false
set_option linter.all false
set_option maxRecDepth 100000
set_option maxHeartbeats 4000000
namespace M
open PySem L2
/-! ### where a def stands: a global's, a class's method, a property's getter -/
inductive Wh where
  | glo (x : Str) | met (C m : Str) | pro (C m : Str)
def innA (K : PySem.W.Frag) (T : String) (p : Addr) : Addr := match PySem.W.recIn K p T with
  | some (.ref g :: _) => g
  | _ => 0
def Wh.ad (K : PySem.W.Frag) : Wh → Addr
  | .glo x => He.ga K x
  | .met C m => He.ma K (He.ga K C) m
  | .pro C m => innA K "property" (He.ma K (He.ga K C) m)
/-- a def and its place -/
structure Dx where
  w : Wh
  d : He.DefD
def seenF : FuncData → He.FnW := fun z => some (z.name, z.qualname, z.params, z.body, z.scope, z.globals, z.closure, z.builtins)
def Dx.look (K : PySem.W.Frag) (x : Dx) : Option FuncData := (K.lookup (x.w.ad K)).bind fun o => match o.data with
  | .func z => some z
  | _ => none
def Dx.seen (K : PySem.W.Frag) (x : Dx) : He.FnW := (x.look K).bind seenF
def Dx.good (K : PySem.W.Frag) (x : Dx) : Bool := PySem.W.keepIn K (.ref (x.w.ad K)) && ((x.look K).map fun z => PySem.W.codeIn K z.code x.d.qual && (He.dflB K z.defaults (x.d.dvs K) && He.kwdB K z.kwdefaults (x.d.kws K))).getD false
theorem Dx.fund {K : PySem.W.Frag} {x : Dx} (e : x.seen K = x.d.val) (c : x.good K = true) : ∃ z, FunD K x.d.name x.d.qual x.d.params x.d.body x.d.scope (x.d.dvs K) (x.d.kws K) (x.w.ad K) z := by
  obtain ⟨kp, c2⟩ := He.ba c
  cases hl : x.look K with
  | none => rw [hl] at c2; cases c2
  | some z =>
    rw [hl] at c2
    have c3 : (PySem.W.codeIn K z.code x.d.qual && (He.dflB K z.defaults (x.d.dvs K) && He.kwdB K z.kwdefaults (x.d.kws K))) = true := c2
    have e2 : seenF z = x.d.val := by
      unfold Dx.seen at e
      rw [hl] at e
      exact e
    obtain ⟨a1, a2⟩ := He.ba c3
    obtain ⟨a3, a4⟩ := He.ba a2
    have hk : ∃ oc od osl, K.lookup (x.w.ad K) = some ⟨oc, od, .func z, osl⟩ := by
      unfold Dx.look at hl
      cases q : K.lookup (x.w.ad K) with
      | none => rw [q] at hl; cases hl
      | some o =>
        rw [q] at hl
        obtain ⟨oc, od, dt, osl⟩ := o
        cases dt with
        | func y => cases hl; exact ⟨oc, od, osl, rfl⟩
        | _ => cases hl
    obtain ⟨oc, od, osl, hk⟩ := hk
    obtain ⟨y1, y2, y3, y4, y5, y6, y7, y8, y9, y10, y11, y12, y13, y14, y15⟩ := z
    simp only [seenF, He.DefD.val, Option.some.injEq, Prod.mk.injEq] at e2
    obtain ⟨b1, b2, b3, b4, b5, b6, b7, b8⟩ := e2
    subst b1 b2 b3 b4 b5 b6 b7 b8
    exact ⟨_, ⟨oc, od, y8, y9, y10, y11, y12, y13, y14, osl, rfl, hk, a1, He.dflB_ok a3, He.kwdB_ok a4⟩, kp⟩
/-- a property of a class -/
def proB (K : PySem.W.Frag) (q : Str × Str) : Bool :=
  He.eqO (PySem.W.findIn K (.ref (He.ga K q.1)) q.2) (some (some (.ref (He.ma K (He.ga K q.1) q.2)))) && (He.eqO (PySem.W.specialIn K (.ref (He.ma K (He.ga K q.1) q.2)) "__get__") (some (some (.builtin "property.__get__"))) &&
    (decide (PySem.W.takesIn K (.ref (He.ma K (He.ga K q.1) q.2)) = some true) && (match PySem.W.recIn K (He.ma K (He.ga K q.1) q.2) "property" with | some (.ref _ :: _) => true | _ => false)))
theorem proB_ok {K : PySem.W.Frag} {C m : Str} (c : proB K (C, m) = true) : PropOf K (He.ga K C) m (He.ma K (He.ga K C) m) ((Wh.pro C m).ad K) := by
  obtain ⟨h1, h2⟩ := He.ba c
  obtain ⟨h3, h4⟩ := He.ba h2
  obtain ⟨h5, h6⟩ := He.ba h4
  refine ⟨He.eqO_ok h1, He.eqO_ok h3, of_decide_eq_true h5, ?_⟩
  show ∃ rest, PySem.W.recIn K (He.ma K (He.ga K C) m) "property" = some (.ref (innA K "property" (He.ma K (He.ga K C) m)) :: rest)
  unfold innA
  dsimp only at h6
  split at h6
  · rename_i g rest e
    rw [e]
    exact ⟨rest, rfl⟩
  · cases h6
/-! ### the hook -/
structure Fy where
  fa : List He.Fa
  gs : List (Str × D)
  ts : List Str
  ps : List (Str × Str)
def Fy.ok (x : Fy) (K : PySem.W.Frag) : Bool := (x.fa.all fun f => f.ok K) && ((x.gs.all fun g => gB K g) && ((x.ts.all fun t => tyB K t) && x.ps.all fun p => proB K p))
def obsY (x : Fy) (fn : List Dx) (K : PySem.W.Frag) : He.AlD := (x.ok K && fn.all fun d => d.good K, fn.map fun d => d.seen K)
def valY (fn : List Dx) : He.AlD := (true, fn.map fun d => d.d.val)
def SaysY (x : Fy) (fn : List Dx) (K : PySem.W.Frag) : Prop := obsY x fn K = valY fn
def obsYG (n : Nat) (x : Fy) (fn : List Dx) (g : Addr → Option Obj) : He.AlD := obsY x fn (He.frG g (He.asD g n))
def hookY (n : Nat) (x : Fy) (fn : List Dx) : PySem.W.Hook where
  α := He.AlD
  obs := fun s => obsYG n x fn s.heap.get?
  val := fun _ => valY fn
  says := fun _ h => ∃ K : PySem.W.Frag, K.In h ∧ SaysY x fn K
  of := fun _ _ e => ⟨_, He.frG_in, e⟩
  keeps := fun _ _ _ ⟨K, hK, c⟩ k => ⟨K, PySem.W.Frag.In.keeps hK k, c⟩
theorem obsYG_eq {n : Nat} {x : Fy} {fn : List Dx} {g : Addr → Option Obj} {s : Shared} (h : ∀ a, g a = s.heap.get? a) : obsYG n x fn g = (hookY n x fn).obs s := by
  have q : g = s.heap.get? := funext h
  subst q; rfl
section
variable {x : Fy} {fn : List Dx} {K : PySem.W.Frag}
theorem SaysY.both (c : SaysY x fn K) : (x.ok K && fn.all fun d => d.good K) = true := congrArg Prod.fst c
theorem SaysY.ok (c : SaysY x fn K) : x.ok K = true := (He.ba c.both).1
theorem SaysY.fact (c : SaysY x fn K) (i : Nat) {f : He.Fa} (h : x.fa[i]? = some f := by rfl) : f.ok K = true := List.all_eq_true.mp (He.ba c.ok).1 f (List.mem_of_getElem? h)
theorem SaysY.gc (c : SaysY x fn K) (i : Nat) {f : Str × D} (h : x.gs[i]? = some f := by rfl) : gB K f = true := List.all_eq_true.mp (He.ba (He.ba c.ok).2).1 f (List.mem_of_getElem? h)
theorem SaysY.ty (c : SaysY x fn K) (i : Nat) {f : Str} (h : x.ts[i]? = some f := by rfl) : tyB K f = true := List.all_eq_true.mp (He.ba (He.ba (He.ba c.ok).2).2).1 f (List.mem_of_getElem? h)
theorem SaysY.pro (c : SaysY x fn K) (i : Nat) {f : Str × Str} (h : x.ps[i]? = some f := by rfl) : proB K f = true := List.all_eq_true.mp (He.ba (He.ba (He.ba c.ok).2).2).2 f (List.mem_of_getElem? h)
theorem SaysY.def_ (c : SaysY x fn K) (i : Nat) {d : Dx} (h : fn[i]? = some d := by rfl) : ∃ z, FunD K d.d.name d.d.qual d.d.params d.d.body d.d.scope (d.d.dvs K) (d.d.kws K) (d.w.ad K) z := by
  have e : fn.map (fun d => d.seen K) = fn.map fun d => d.d.val := congrArg Prod.snd c
  have e2 := congrArg (fun l : List He.FnW => l[i]?) e
  simp only [List.getElem?_map, h, Option.map_some, Option.some.injEq] at e2
  exact Dx.fund e2 (List.all_eq_true.mp (He.ba c.both).2 d (List.mem_of_getElem? h))
end
end M
set_option Elab.async false
set_option linter.all false
set_option maxRecDepth 100000
set_option maxHeartbeats 4000000
namespace M
open PySem L2 PySem.W PyProof.Rows
section
variable {prog : Program} {w : World} {A : Around} {E : Value → Shared → Prop} {s : Shared} {a kS : Addr} {b : Bool} {vs : List Value} {e1 : Nat} {P : PySem.Fin → Shared → Prop}
/-- the calls of the key, under any invariant -/
theorem kg_rest {f : Value} (J : Nat → Array Value → Nat → Shared → Prop) (h0 : J 0 #[] 0 s) (hZ : vs.length ≤ sizeLine)
    (at' : ∀ i ks e s', J i ks e s' → s'.heap.get? kS = some (seqObj "list" ks e) ∧ ks.size = i)
    (turn : ∀ i v ks e s', vs[i]? = some v → J i ks e s' → wpAny (model prog w) A (call f [v]) (fun u s2 => s2.heap.get? kS = some (seqObj "list" ks e) ∧ ∀ c, (s2.heap.update kS (Obj.mapSeq (·.push u))).get? kS = some (seqObj "list" (ks.push u) c) → J (i + 1) (ks.push u) c { s2 with heap := s2.heap.update kS (Obj.mapSeq (·.push u)) }) (fun _ _ => False) s')
    (done : ∀ ks e s', J vs.length ks e s' → wpAny (model prog w) A (ksk_end a b vs.toArray e1 (.ref kS) ks) P E s') :
    wpAny (model prog w) A (ksk_rest a f b vs.toArray e1 (.ref kS)) P E s := by
  unfold ksk_rest
  refine wpAny_bind (wpAny_rule (?_))
  first | rw [List.forIn_toArray] | (rw [← Array.forIn_toList]; simp only [List.toList_toArray])
  refine wpAny_bind (ksk_fold (fun i s' => ∃ ks e, J i ks e s') vs 0 s ⟨#[], 0, h0⟩ (fun j x s' hx hJ => ?_) fun s' hJ => ?_)
  · obtain ⟨ks, e, hJ⟩ := hJ
    rw [Nat.zero_add] at hJ
    rw [Nat.zero_add]
    have hj : j < vs.length := (List.getElem?_eq_some_iff.mp hx).1
    have hz := (at' _ _ _ _ hJ).2
    refine wpAny_bind (wpAny_attempt (wpAny_mono (turn j x ks e s' hx hJ) (fun u s2 he => ?_) fun _ _ hF => hF.elim))
    obtain ⟨n2, k2⟩ := he
    have z2 := get?_update_seq n2 (·.push u)
    refine wpAny_bind (listUpdate_at n2 rfl ?_ (by omega) (by rw [Array.size_push]; omega))
    exact wpAny_pure ⟨rfl, _, _, k2 _ z2⟩
  · obtain ⟨ks, e, hJ⟩ := hJ
    rw [Nat.zero_add] at hJ
    refine wpAny_bind (listItems_at (at' _ _ _ _ hJ).1 rfl ?_)
    exact done _ _ _ hJ
end
/-- a heap without one object -/
def dropAt (h : Heap) (x : Addr) : Heap := h.update x fun o => { o with data := .freed }
theorem dropAt_none {h : Heap} {x : Addr} {o : Obj} (ho : h.get? x = some o) : (dropAt h x).get? x = none := by
  cases e : (dropAt h x).get? x with
  | none => rfl
  | some o' =>
    obtain ⟨e1, e2⟩ := Heap.get?_some_iff.mp e
    obtain ⟨e3, _⟩ := Heap.get?_some_iff.mp ho
    unfold dropAt at e1
    obtain ⟨objs, l⟩ := h
    simp only [Heap.update, Array.getElem?_modify, if_true] at e1
    simp only at e3
    rw [e3] at e1
    cases e1
    cases e2
theorem dropAt_ne {h : Heap} {x b : Addr} (hb : b ≠ x) : (dropAt h x).get? b = h.get? b := Heap.get?_update_ne _ _ _ _ hb
section
variable {X : Cx} {k : Nat} {f : Addr} {fd : FuncData} {ps : List Str} {sp : Sp}
/-- what sorted(xs, key=f) asks and gives -/
def rSrtK (X : Cx) (f : Addr) (sp : Sp) : List V → List V → Hp → VK → Prop := fun vs zs H Q => ∃ a xs, vs = [V.ref a] ∧ zs = [V.ref f] ∧ SqL X.K H a xs ∧ ∃ T : Nat → Hp → List V → Prop, T 0 H [] ∧
  (∀ i x H1 kv, xs[i]? = some x → T i H1 kv → sp [x] H1 (fun v H2 => T (i + 1) H2 (kv ++ [v])) E0) ∧
  ∀ H1 kv, T xs.length H1 kv → kv.length = xs.length ∧ ∃ ds, DpAll X.K H1 kv ds ∧ PySem.W.AllAlike ds ∧ PySem.W.Sortable ds ∧ (∀ d, d ∈ ds → d.depth ≤ 60) ∧
    ∀ p, H1 p = none → Q (.ref p) (upd H1 p (.lst (((xs.zip ds).mergeSort (PySem.W.dataLe false (·.2))).map (·.1))))
theorem run_in2 {pins : List (Addr × Obj)} {σ : L2.St} {H : Hp} {s : Shared} {Q : VK} {us : List Value} {vs : List V} (F : FnOk X.prog X.w X.K X.mg X.base CX0 k f fd ps sp) (hr : Room k X.A.in1.in1) (hb : Binds X.K fd ps [])
    (I : Inv X pins σ H s) (r : Vals vs us) (h : sp vs H Q E0) : wpAny (model X.prog X.w) X.A.in1.in1 (call (.ref f) us) (EP X pins σ Q) (fun _ _ => False) s := by
  have hl : (us ++ []).length = ps.length := by rw [List.append_nil, ← r.length]; exact F.len _ _ _ _ h
  have hq := hb s us I.kIn hl
  rw [List.append_nil] at hq
  refine wpAny_call (codeAny_mono (F.run X.A.in1.in1 X.stack s H ⟨us, []⟩ us vs Q E0 hr I.env0.in1.in1 hq r h) fun r s' z => ?_)
  cases r with
  | error e => exact z
  | ok fl =>
    cases fl with
    | ret u => exact I.after z
    | next => exact False.elim z
    | brk => exact False.elim z
    | cont => exact False.elim z
theorem pin2 {pins : List (Addr × Obj)} {σ : L2.St} {H : Hp} {s : Shared} {x y : Addr} {ox oy : Obj} (I : Inv X pins σ H s) (fx : FpOk X pins H x) (fy : FpOk X pins H y) (nx : s.heap.get? x = some ox) (ny : s.heap.get? y = some oy)
    (dx : ∀ v, ox.data ≠ .cell v) (dy : ∀ v, oy.data ≠ .cell v) : Inv X ((x, ox) :: (y, oy) :: pins) σ H s :=
  I.pins_of fun p hp => by
    rcases List.mem_cons.mp hp with rfl | hp
    · exact ⟨nx, fx.1, fx.2.1, fx.2.2.1, dx⟩
    rcases List.mem_cons.mp hp with rfl | hp
    · exact ⟨ny, fy.1, fy.2.1, fy.2.2.1, dy⟩
    · exact I.pin p (List.mem_append_right _ hp)
theorem unpin2 {pins : List (Addr × Obj)} {σ : L2.St} {H : Hp} {s : Shared} {p q : Addr × Obj} (I : Inv X (p :: q :: pins) σ H s) : Inv X pins σ H s :=
  I.pins_of fun z hz => I.pin z (List.mem_append_right _ (.tail _ (.tail _ hz)))
theorem each_reads {pins : List (Addr × Obj)} {σ : L2.St} {H : Hp} {s : Shared} (I : Inv X pins σ H s) : ∀ {xs : List V} {ds : List PyData}, DpAll X.K H xs ds → ∀ {us : List Value}, Vals xs us → PySem.W.EachIs (fun u d => ∃ as, Reads s.heap u d as) us ds
  | _, _, .nil, _, .nil => .nil
  | _, _, .cons a b, _, .cons r t => .cons (Dp.reads I _ _ _ a r) (each_reads I b t)
theorem vals_at : ∀ {xs : List V} {us : List Value}, Vals xs us → ∀ {i : Nat} {u : Value}, us[i]? = some u → ∃ x, xs[i]? = some x ∧ RelV x u
  | _, _, .nil, _, _, h => by simp at h
  | _, _, .cons r t, 0, _, h => by
    simp at h; subst h; exact ⟨_, rfl, r⟩
  | _, _, .cons r t, i + 1, _, h => by
    rw [List.getElem?_cons_succ] at h ⊢; exact vals_at t h
theorem each_zip : ∀ {xs : List V} {ds : List PyData} {us : List Value}, Vals xs us → xs.length = ds.length → PySem.W.EachIs (fun (u : Value) (b : V × PyData) => RelV b.1 u) us (xs.zip ds)
  | _, [], _, .nil, _ => .nil
  | _, _ :: _, _, .nil, h => by cases h
  | _, [], _, .cons _ _, h => by cases h
  | _, _ :: _, _, .cons r t, h => .cons r (each_zip t (Nat.succ.inj h))
theorem cr_srtK (F : FnOk X.prog X.w X.K X.mg X.base CX0 k f fd ps sp) (hr : Room k X.A.in1.in1) (hb : Binds X.K fd ps []) (hu : X.A.units + 64 < cLine) : CallRK X (.builtin "sorted") [Str.ofString "key"] (rSrtK X f sp) := by
  intro pins s σ H vs zs us ws Q I r rz h
  obtain ⟨a0, xs, rfl, rfl, hs, T, t0, ts, te⟩ := h
  obtain rfl := Vals.ref1 r
  obtain rfl := Vals.ref1 rz
  obtain ⟨its, rv, pl, hz⟩ := I.list hs
  have hlen : its.length = xs.length := rv.length.symm
  have hZ : its.length ≤ sizeLine := by omega
  show wpAny _ _ (call (.builtin "sorted") [.ref a0] [(Str.ofString "key", .ref f)]) _ _ _
  refine sorted_of_sort pl.isList hZ (ksk_s1 _ _) (fun x => ksk_l1 _ _) fun E' => ?_
  rw [ksk_t1]
  have hoA := copyHeap_at s.heap its
  obtain ⟨a, ea⟩ : ∃ a, s.heap.objs.size + 1 = a := ⟨_, rfl⟩
  rw [ea] at hoA ⊢
  have oldA : ∀ b o, s.heap.get? b = some o → b ≠ a := fun b o q => Nat.ne_of_lt (by rw [← ea]; exact Nat.lt_succ_of_lt (Heap.lt_size q))
  have fpa : FpOk X pins H a := I.fpOk (by omega) (I.hok.fresh (by omega))
  have nA := get?_update_seq hoA fun _ => (#[] : Array Value)
  obtain ⟨e1, hE1⟩ : ∃ e1, ((copyHeap s.heap its).update a (Obj.mapSeq fun _ => (#[] : Array Value))).get? a = some (seqObj "list" #[] e1) := ⟨_, nA⟩
  have hszC : s.heap.objs.size + 1 < (copyHeap s.heap its).objs.size := by rw [ea]; exact Heap.lt_size hoA
  unfold ksk_tree
  refine wpAny_bind (listItems_at hoA rfl (?_))
  refine wpAny_bind (listUpdate_at hoA rfl ?_ (by rw [List.size_toArray]; omega) (Nat.zero_le _))
  refine wpAny_bind (seqEpoch_at hE1 rfl ?_)
  refine wpAny_bind (wpAny_newTuple ?_ (by show its.length ≤ _; omega))
  refine wpAny_bind (wpAny_newList ?_ (Nat.zero_le _))
  refine wpAny_holding ?_
  obtain ⟨kS, ek⟩ : ∃ kS, (((copyHeap s.heap its).update a (Obj.mapSeq fun _ => (#[] : Array Value))).push (seqObj "tuple" its.toArray 0)).objs.size = kS := ⟨_, rfl⟩
  have ekS : kS = (copyHeap s.heap its).objs.size + 1 := by rw [← ek, size_push', Heap.size_update]
  have hka : kS ≠ a := by omega
  have fpk : FpOk X pins H kS := I.fpOk (by omega) (I.hok.fresh (by omega))
  have keep1 : ∀ b o, s.heap.get? b = some o → (sortingHeap (copyHeap s.heap its) a its).get? b = some o := fun b o q => sortingHeap_old (oldA b o q) (copyHeap_old q)
  have I1 : Inv X pins σ H { s with heap := sortingHeap (copyHeap s.heap its) a its } := I.kept (t' := s.toks) keep1
  have nK : (sortingHeap (copyHeap s.heap its) a its).get? kS = some (seqObj "list" #[] 0) := by rw [← ek]; exact Heap.get?_push_size _ rfl
  have nA1 : (sortingHeap (copyHeap s.heap its) a its).get? a = some (seqObj "list" #[] e1) := Heap.get?_push_of_some _ (Heap.get?_push_of_some _ hE1)
  rw [ek]
  have nc : ∀ (q : Array Value) (n : Nat) (v : Option Value), (seqObj "list" q n).data ≠ .cell v := fun q n v z => by cases z
  refine kg_rest (kS := kS) (fun i ks e s' => ks.size = i ∧ ∃ H' kv, Inv X ((kS, seqObj "list" ks e) :: (a, seqObj "list" #[] e1) :: pins) σ H' s' ∧ Vals kv ks.toList ∧ T i H' kv)
    ⟨rfl, H, [], pin2 I1 fpk fpa nK nA1 (nc _ _) (nc _ _), .nil, t0⟩ hZ (fun i ks e s' hJ => ?_) (fun i v ks e s' hv hJ => ?_) fun ks e s' hJ => ?_
  · obtain ⟨h1, H', kv, I2, _⟩ := hJ
    exact ⟨(I2.pin (kS, seqObj "list" ks e) (List.mem_append_right _ List.mem_cons_self)).1, h1⟩
  · obtain ⟨h1, H', kv, I2, rk, tt⟩ := hJ
    obtain ⟨x, hx, rx⟩ := vals_at rv hv
    refine wpAny_mono (run_in2 F hr hb I2 (.cons rx .nil) (ts i x H' kv hx tt)) (fun u s2 hq => ?_) fun _ _ z => z
    obtain ⟨v', H2, I3, r3, t3⟩ := hq
    have p1 := I3.pin (kS, seqObj "list" ks e) (List.mem_append_right _ List.mem_cons_self)
    have p2 := I3.pin (a, seqObj "list" #[] e1) (List.mem_append_right _ (.tail _ List.mem_cons_self))
    refine ⟨p1.1, fun c hc => ⟨by rw [Array.size_push, h1], H2, kv ++ [v'], ?_, ?_, t3⟩⟩
    · have sb := Heap.SameBut.update s2.heap kS (Obj.mapSeq (·.push u))
      have fk : FpOk X pins H2 kS := ⟨p1.2.1, fpk.2⟩
      have I4 : Inv X pins σ H2 { s2 with heap := s2.heap.update kS (Obj.mapSeq (·.push u)) } := (unpin2 I3).turnedL (t' := s2.toks) (ch := [kS]) (fun b o hb' q => (sb.2 b (fun z => hb' (by simp [z]))).trans q) fun b hb' => by rw [List.mem_singleton.mp hb']; exact fk
      exact pin2 I4 fk ⟨p2.2.1, fpa.2⟩ hc ((sb.2 a hka.symm).trans p2.1) (nc _ _) (nc _ _)
    · rw [Array.toList_push]
      exact rk.append (.cons r3 .nil)
  · obtain ⟨h1, H', kv, I2, rk, tt⟩ := hJ
    rw [hlen] at tt
    obtain ⟨hkl, ds, hd, hal, hso, hdp, q⟩ := te H' kv tt
    have hdl := DpAll.length hd
    have p1 := I2.pin (kS, seqObj "list" ks e) (List.mem_append_right _ List.mem_cons_self)
    have p2 := I2.pin (a, seqObj "list" #[] e1) (List.mem_append_right _ (.tail _ List.mem_cons_self))
    have hk := each_reads I2 hd rk
    have hm : (xs.zip ds).map (·.2) = ds := by rw [List.map_snd_zip]; omega
    refine keyH_end (κ := dataKind s'.heap ds) (h₁ := dropAt s'.heap kS) (fun b o hb' q' => ?_) (dropAt_none p1.1) p1.1 p2.1 hka (SortsAt.data hk hal hso fun d hd' => ?_) h1 hZ fun h' tk c kp nA' => ⟨rfl, ?_⟩
    · by_cases z : b = kS
      · rw [z, dropAt_none p1.1] at q'; cases q'
      · rw [dropAt_ne z] at q'; exact q'
    · have := hdp d hd'
      show X.A.units + 2 + d.depth < cLine
      omega
    · have fk : FpOk X pins H' kS := ⟨p1.2.1, fpk.2⟩
      have fa : FpOk X pins H' a := ⟨p2.2.1, fpa.2⟩
      have I4 : Inv X pins σ H' { s' with heap := h', toks := tk } := (unpin2 I2).turnedL (ch := [kS, a]) (fun b o hb' q' => kp b o (fun z => hb' (by simp [z])) (by rw [dropAt_ne fun z => hb' (by simp [z])]; exact q')) fun b hb' => by
        rcases List.mem_cons.mp hb' with rfl | hb'
        · exact fk
        · rw [List.mem_singleton.mp hb']; exact fa
      have hko : KeyedOut false ((xs.zip ds).map (·.2)) its (sortVals (dataKind s'.heap ds) false ks.toList its) := by
        rw [hm]; exact ⟨s'.heap, ks.toList, hal, rfl, hk⟩
      have hv := each_vals (keyedOut_each (fun b : V × PyData => b.2) hko (each_zip rv (by omega)))
      refine ⟨.ref a, _, I4.take (t' := tk) (h' := h') (o := .lst _) (fun _ _ _ z => z) fa ⟨?_, _, c, hv, nA'⟩, rfl, q a fa.1⟩
      rw [List.length_map, List.length_mergeSort, List.length_zip]; omega
end
end M
set_option Elab.async false
set_option linter.all false
set_option maxRecDepth 100000
set_option maxHeartbeats 4000000
namespace M
open PySem L2
/-- the keys -/
def keysD (den : List D → R D) : List D → R (List D)
  | [] => .ok []
  | x :: xs => (den [x]).nox >>= fun y => keysD den xs >>= fun ys => .ok (y :: ys)
def srtBy (ds ks : List D) : List D := ((ds.zip ks).mergeSort fun p q => dle p.2 q.2).map (·.1)
def srtKD (den : List D → R D) : D → R D
  | .lst ds => keysD den ds >>= fun ks => if srtOk ks then .ok (.lst (srtBy ds ks)) else .fail
  | _ => .fail
theorem keysD_at {den : List D → R D} : ∀ {ds ks : List D}, keysD den ds = .ok ks → ds.length = ks.length ∧ ∀ (i : Nat) (d : D), ds[i]? = some d → ∃ y, ks[i]? = some y ∧ den [d] = .ok y
  | [], ks, h => by cases h; exact ⟨rfl, fun i d q => by simp at q⟩
  | x :: xs, ks, h => by
    unfold keysD at h
    cases e1 : den [x] with
    | exc x => rw [e1] at h; cases h
    | fail => rw [e1] at h; cases h
    | ok y =>
      rw [e1] at h
      have h : (keysD den xs >>= fun ys => R.ok (y :: ys)) = .ok ks := h
      cases e2 : keysD den xs with
      | exc x => rw [e2] at h; cases h
      | fail => rw [e2] at h; cases h
      | ok ys =>
        rw [e2] at h
        cases h
        obtain ⟨h1, h2⟩ := keysD_at e2
        refine ⟨by simp [h1], fun i d q => ?_⟩
        cases i with
        | zero => simp at q; subst q; exact ⟨y, by simp, e1⟩
        | succ i => rw [List.getElem?_cons_succ] at q ⊢; exact h2 i d q
section
variable {X : Cx} {k : Kn} {c : Cf} {e : Expr} {pos : Pos} {den : List D → R D}
theorem RDs.srtBy {G : Hp} {ds ks : List D} {vs : List V} (r : RDs k G ds vs) (hk : ds.length = ks.length) : RDs k G (M.srtBy ds ks) (((vs.zip (D.toPs ks)).mergeSort (PySem.W.dataLe false (·.2))).map (·.1)) := by
  have key : ∀ (bs : List (D × V × D)), (∀ b, b ∈ bs → RD k G b.1 b.2.1) → RDs k G (bs.map (·.1)) (bs.map (·.2.1)) := fun bs => by
    induction bs with
    | nil => intro _; exact .nil
    | cons b bs ih => intro h; exact .cons (h b (by simp)) (ih fun x hx => h x (by simp [hx]))
  have mem : ∀ b, b ∈ ds.zip (vs.zip ks) → RD k G b.1 b.2.1 := by
    clear key
    intro b hb
    obtain ⟨i, hi, rfl⟩ := List.mem_iff_getElem.mp hb
    have hi' := hi
    rw [List.length_zip, List.length_zip] at hi'
    obtain ⟨v, hv, rv⟩ := r.get (List.getElem?_eq_getElem (show i < ds.length by omega))
    rw [List.getElem?_eq_getElem (show i < vs.length by omega)] at hv; cases hv
    rw [List.getElem_zip, List.getElem_zip]
    exact rv
  have hl := r.length
  have z1 : ds.zip ks = (ds.zip (vs.zip ks)).map fun b => (b.1, b.2.2) := by
    clear r key mem
    induction ds generalizing vs ks with
    | nil => simp
    | cons d ds ih =>
      cases vs with
      | nil => simp at hl
      | cons v vs =>
        cases ks with
        | nil => simp at hk
        | cons y ks => simp only [List.zip_cons_cons, List.map_cons]; rw [ih (by simpa using hk) (by simpa using hl)]
  have z2 : vs.zip (D.toPs ks) = (ds.zip (vs.zip ks)).map fun b => (b.2.1, b.2.2.toP) := by
    clear r key mem z1
    induction ds generalizing vs ks with
    | nil => cases vs <;> simp at hl ⊢
    | cons d ds ih =>
      cases vs with
      | nil => simp at hl
      | cons v vs =>
        cases ks with
        | nil => simp at hk
        | cons y ks => simp only [D.toPs, List.zip_cons_cons, List.map_cons]; rw [ih (by simpa using hk) (by simpa using hl)]
  have e1 : M.srtBy ds ks = ((ds.zip (vs.zip ks)).mergeSort fun a b => dle a.2.2 b.2.2).map (·.1) := by
    unfold M.srtBy
    rw [z1, ← List.map_mergeSort (r := fun a b => dle a.2.2 b.2.2) (f := fun (b : D × V × D) => (b.1, b.2.2)) (fun a _ b _ => rfl), List.map_map]
    rfl
  have e2 : ((vs.zip (D.toPs ks)).mergeSort (PySem.W.dataLe false (·.2))).map (·.1) = ((ds.zip (vs.zip ks)).mergeSort fun a b => dle a.2.2 b.2.2).map (·.2.1) := by
    rw [z2, ← List.map_mergeSort (r := fun a b => dle a.2.2 b.2.2) (f := fun (b : D × V × D) => (b.2.1, b.2.2.toP)) (fun a _ b _ => by rw [PySem.W.dataLe_eq]; rfl), List.map_map]
    rfl
  rw [e1, e2]
  exact key _ fun b hb => mem b (List.mem_mergeSort.mp hb)
theorem d_srtK {x y : Str} {p q : Pos} {kp : Pos} {fa : FA} {lv m : Nat} (F : Callee X.prog X.w X.K X.mg X.base c.k lv y 1 false den) (hr : Room m X.A) (hle : lv + 1 ≤ m) (hkn : c.k.K = X.K) (hu : X.A.units + 64 < cLine) (hm : X.mg x = none) (ha : PA' X c true [e] fa) (hl : Len 1 fa)
    (hv : bootBuiltins x = some (.builtin "sorted") := by decide +kernel) (hg : Gl X x := by rfl) (hgy : Gl X y := by rfl) (hn : x ≠ "__name__" := by decide) (hdb : (x == ("__debug__" : Str)) = false := by decide) (hdy : (y == ("__debug__" : Str)) = false := by decide)
    (he : backTo pos (starEach [e] X.env) = (false, eval e X.env) :: backTo pos (starEach [] X.env) := by rfl) (hpl : (backTo pos (starEach [e] X.env)).any (·.1) = false := by rfl)
    (hall : (backToKw pos (keywordEach [⟨some (Str.ofString "key"), .Name y q, kp⟩] X.env)).all (·.1.isSome) = true := by rfl) (hnone : (backToKw pos (keywordEach [⟨some (Str.ofString "key"), .Name y q, kp⟩] X.env)).any (·.1.isNone) = false := by rfl) (hks : (backToKw pos (keywordEach [⟨some (Str.ofString "key"), .Name y q, kp⟩] X.env)).filterMap (·.1) = [Str.ofString "key"] := by rfl) :
    PE' X c .fr (.Call (.Name x p) [e] [⟨some (Str.ofString "key"), .Name y q, kp⟩] pos) (eC (f1 (srtKD den)) fa) := by
  obtain ⟨f, fd, ps, hn1, ok, hmy, hky, hb⟩ := F.ex
  have hr2 : Room lv X.A.in1.in1 := ⟨hr.hd, by have := hr.dp; show X.A.depth + 3 * lv + 5 < _; omega, by have := hr.un; show X.A.units + 1 + 1 + 16 * lv + 200 < _; omega⟩
  refine peI (pe_callBK (cr_srtK ok hr2 hb hu) hg hm hv ha (pk_cons (pe_glob (v := .ref f) hgy hmy rfl hdy) pk_nil) hn hdb he hpl hall hnone hks) fun σ H Q ⟨G, S, rel, p⟩ => ?_
  have p : PostE c .fr G S σ H Q (fa S >>= fun ds => (f1 (srtKD den) ds).nox) := p
  refine ⟨G, S, rel, ?_⟩
  cases e1 : fa S with
  | exc x => rw [e1] at p; exact p
  | fail => rw [e1] at p; exact p
  | ok as =>
    rw [e1] at p
    simp only [R.ok_bind] at p
    intro vs G1 H1 s1 q1
    have q1 : Nows c.k G1 H1 as vs := q1
    have l1 := hl S as e1
    obtain ⟨a0, rfl⟩ : ∃ a0, as = [a0] := by
      match as, l1 with
      | [a0], _ => exact ⟨a0, rfl⟩
    replace p : PostE c .fr G S σ H Q (srtKD den a0).nox := p
    cases q1 with
    | cons n0 n1 =>
    cases n1
    obtain ⟨ds, rfl⟩ : ∃ ds, a0 = .lst ds := by cases a0 <;> first | exact ⟨_, rfl⟩ | exact p.elim
    simp only [srtKD] at p
    cases e2 : keysD den ds with
    | exc x => rw [e2] at p; exact p.elim
    | fail => rw [e2] at p; exact p.elim
    | ok ks =>
      rw [e2] at p
      simp only [R.ok_bind] at p
      split at p
      · rename_i hok
        have p : ∀ v G' H', Step G H G' H' → Res c.k H G' H' (.lst (srtBy ds ks)) v .fr → Q v H' := p
        obtain ⟨hlk, hat⟩ := keysD_at e2
        obtain ⟨a, xs, rfl, haH, r⟩ := n0.lst s1.gh
        have hlx := r.length
        show rSrtK X f _ [V.ref a] [V.ref f] H1 Q
        refine ⟨a, xs, rfl, rfl, SqL.of haH, fun i H2 kv => ∃ G2, Step G1 H1 G2 H2 ∧ RDs c.k G2 (ks.take i) kv, ⟨G1, Step.refl s1.gh, by rw [List.take_zero]; exact .nil⟩, fun i x H2 kv hx ⟨G2, s2, r2⟩ => ?_, fun H2 kv ⟨G2, s2, r2⟩ => ?_⟩
        · have hi : i < ds.length := by rw [hlx]; exact (List.getElem?_eq_some_iff.mp hx).1
          obtain ⟨v, hv', rv⟩ := r.get (List.getElem?_eq_getElem hi)
          rw [hx] at hv'; cases hv'
          obtain ⟨y, hy, hd⟩ := hat i _ (List.getElem?_eq_getElem hi)
          refine ⟨rfl, G2, [ds[i]], s2.gh, .cons (rv.mono s2.g) .nil, ?_⟩
          rw [hd]
          intro v G' H' s3 r3
          have r3 : RD c.k G' y v := r3
          refine ⟨G', s2.trans s3, ?_⟩
          rw [List.take_add_one, hy]
          exact (r2.mono s3.g).append (.cons r3 .nil)
        · have et : ks.take xs.length = ks := List.take_of_length_le (by omega)
          rw [et] at r2
          have hd : doks 59 ks = true := (by unfold srtOk at hok; simp only [Bool.and_eq_true] at hok; exact hok.1.1)
          refine ⟨by rw [← r2.length]; omega, _, hkn ▸ (r2.mono s2.gh).dp 59 hd, fun p hp q hq => ?_, srt_sortable hok, fun q hq => ?_, fun pp hp => p _ _ _ ((s1.trans s2).trans (Step.new' s2.gh hp)) ⟨pp, _, rfl, s2.gh.free hp, (s1.trans s2).h.free hp, upd_same, .lst ((r.mono s2.g).srtBy hlk)⟩⟩
          · obtain ⟨d1, h1, rfl⟩ := toPs_mem hp
            obtain ⟨d2, h2, rfl⟩ := toPs_mem hq
            unfold srtOk at hok
            simp only [Bool.and_eq_true, List.all_eq_true] at hok
            exact alikeD_of _ _ (hok.1.2 d1 h1 d2 h2)
          · obtain ⟨d1, h1, rfl⟩ := toPs_mem hq
            have := (dok_lay 59 d1 (doks_mem hd h1)).2
            omega
      · exact p.elim
end
end M
set_option Elab.async false
set_option linter.all false
set_option maxRecDepth 100000
set_option maxHeartbeats 4000000
namespace M
open PySem L2 PySem.W PySem.Calls PyProof.Rows
section
variable {prog : Program} {w : World} {A : Around} {E : Value → Shared → Prop} {s : Shared}
theorem collect_tup {l : Addr} {vs : List Value} {Q : List Value → Shared → Prop} (hl : IsTup s.heap l vs.toArray)
    (h : Q vs { s with heap := (s.heap.push (seqObj "list" #[] 0)).update s.heap.objs.size (Obj.mapSeq (· ++ vs.toArray)) }) (hsz : vs.length ≤ sizeLine) :
    wpAny (model prog w) A (collect (.ref l)) Q E s := by
  obtain ⟨o, ho, hc, n, hd⟩ := id hl
  unfold collect
  refine wpAny_bind (wpAny_runValue (codeAny_builtin entry_proto_collect' ?_))
  show wpAny _ _ (do again (.builtin "list.__iadd__" ⟨[← newList [], .ref l], []⟩)) _ _ s
  refine wpAny_bind (wpAny_newList (wpAny_pure ⟨Code.quiet_builtin _ (by decide +kernel), codeAny_builtin entry_list_iadd' ?_⟩))
  show wpAny _ _ (Builtin.List.listExtendWith (.ref s.heap.objs.size) (.ref l) (.ref s.heap.objs.size)) _ _ { s with heap := s.heap.push (seqObj "list" #[] 0) }
  unfold Builtin.List.listExtendWith
  have ho' : (s.heap.push (seqObj "list" #[] 0)).get? l = some o := Heap.get?_push_of_some _ ho
  refine wpAny_bind (wpAny_typeOf (T := "tuple") ⟨o, ho', hc⟩ ?_)
  have ht : (Value.type "tuple" == Value.type "tuple") = true := by rfl
  rw [if_pos (by rw [ht]; simp)]
  refine wpAny_bind (listItems_at ho' hd ?_)
  refine wpAny_bind (listItems_at (xs := #[]) (n := 0) (Heap.get?_push_size _ rfl) rfl ?_)
  rw [if_neg (by simp)]
  refine wpAny_bind (listUpdate_at (xs := #[]) (n := 0) (Heap.get?_push_size _ rfl) rfl ?_ (Nat.zero_le _) (by show (#[] ++ vs.toArray).size ≤ sizeLine + 1; simp only [Array.size_append, List.size_toArray, List.length_nil]; omega))
  refine wpAny_pure ?_
  show wpAny (model prog w) A (do
      let o ← load s.heap.objs.size
      match o.data with
      | .seq xs _ => pure xs.toList
      | _ => unsupported "internal:collect") Q E { s with heap := (s.heap.push (seqObj "list" #[] 0)).update s.heap.objs.size (Obj.mapSeq (· ++ vs.toArray)) }
  refine wpAny_bind (wpAny_load (get?_update_seq (Heap.get?_push_size _ rfl) _) ?_)
  show wpAny _ _ (pure ((#[] : Array Value) ++ vs.toArray).toList) Q E _
  rw [show ((#[] : Array Value) ++ vs.toArray).toList = vs by simp]
  exact wpAny_pure h
/-- sorted(t, ..) is list.sort(..) on a new list of t's items -/
theorem sortedT_of_sort {l : Addr} {vs : List Value} {kw : List (Str × Value)} {Q : Value → Shared → Prop} (hl : IsTup s.heap l vs.toArray) (hL : vs.length ≤ sizeLine) (ha1 : argsOk "sorted" ⟨[.ref l], kw⟩) (ha2 : ∀ x, argsOk "list.sort" ⟨[.ref x], kw⟩)
    (body : ∀ E' : Value → Shared → Prop, wpAny (model prog w) A.in1.in1 (Builtin.«list.sort» ⟨[.ref (s.heap.objs.size + 1)], kw⟩) (fun f s' => f = .done (.ret .none) ∧ Q (.ref (s.heap.objs.size + 1)) s') E' { s with heap := copyHeap s.heap vs }) :
    wpAny (model prog w) A (call (.builtin "sorted") [.ref l] kw) Q E s := by
  refine call_function_entry_kw kind_sorted plain_sorted entry_sorted ha1 ?_
  unfold Builtin.«sorted»
  refine wpAny_bind (m := checkCount "sorted" 1 1 _) (wpAny_pure ?_)
  refine wpAny_bind (collect_tup hl ?_ hL)
  refine wpAny_bind (wpAny_newList ?_ hL)
  have hsz : ((s.heap.push (seqObj "list" #[] 0)).update s.heap.objs.size (Obj.mapSeq (· ++ vs.toArray))).objs.size = s.heap.objs.size + 1 := by
    rw [Heap.size_update, size_push']
  show wpAny _ _ _ _ _ { s with heap := copyHeap s.heap vs }
  rw [hsz]
  refine wpAny_bind (wpAny_holding (wpAny_call_entry_kw slot_list_sort ⟨_, copyHeap_at s.heap vs, rfl⟩ entry_list_sort ?body (ha2 _)))
  case body =>
    show wpAny (model prog w) A.in1.in1 (Builtin.«list.sort» ⟨[.ref (s.heap.objs.size + 1)], kw⟩) _ _ _
    refine wpAny_mono (body _) (fun f s' hf => ?_) fun _ _ e => e
    obtain ⟨rfl, hq⟩ := hf
    exact ⟨_, rfl, wpAny_pure ⟨_, rfl, hq⟩⟩
variable {κ : KeyKind}
theorem sortedT_vals {l : Addr} {vs : List Value} {Q : Value → Shared → Prop} (hl : IsTup s.heap l vs.toArray) (S : SortsAt prog w A.in1.in1 { s with heap := sortingHeap (copyHeap s.heap vs) (s.heap.objs.size + 1) vs } κ vs) (hL : vs.length ≤ sizeLine)
    (h : Q (.ref (s.heap.objs.size + 1)) { s with heap := sortedAll s.heap vs (sortVals κ false vs vs).toArray }) : wpAny (model prog w) A (call (.builtin "sorted") [.ref l]) Q E s :=
  sortedT_of_sort hl hL (args_sorted1 _) (fun _ => args_list_sort _) fun _ => list_sort_vals (s := { s with heap := copyHeap s.heap vs }) (copyHeap_at s.heap vs) S hL ⟨rfl, h⟩
variable {β : Type} {R : Value → β → Prop} {vs : List Value} {bs : List β} {enc : β → PyData}
theorem sortedT_data {l : Addr} {Q : Value → Shared → Prop} (hl : IsTup s.heap l vs.toArray) (e : EachIs R vs bs) (er : EachIs (fun v b => ∃ as, Reads s.heap v (enc b) as) vs bs) (hal : AllAlike (bs.map enc)) (hk : Sortable (bs.map enc)) (hL : bs.length ≤ sizeLine)
    (hu : ∀ b, b ∈ bs → A.units + 2 + (enc b).depth < cLine) (h : ∀ out, out.length = bs.length → EachIs R out (bs.mergeSort (dataLe false enc)) → Q (.ref (s.heap.objs.size + 1)) { s with heap := sortedAll s.heap vs (List.toArray out) }) :
    wpAny (model prog w) A (call (.builtin "sorted") [.ref l]) Q E s := by
  have er' : EachIs (fun v b => ∃ as, Reads (sortingHeap (copyHeap s.heap vs) (s.heap.objs.size + 1) vs) v (enc b) as) vs bs := er.mono fun _ _ ⟨as, r⟩ => ⟨as, PyProof.Rows.Reads.keeps (fun _ _ => sorting_copy_old) r⟩
  exact sortedT_vals hl (SortsAt.data (s := { s with heap := sortingHeap (copyHeap s.heap vs) (s.heap.objs.size + 1) vs }) (each_map (R := fun v d => ∃ as, Reads (sortingHeap (copyHeap s.heap vs) (s.heap.objs.size + 1) vs) v d as) enc er') hal hk (bound_map hu)) (by rw [e.length]; exact hL)
    (h _ (by rw [sortVals_length false rfl]; exact e.length) (sortVals_data false e er' hal))
end
section
variable {X : Cx} {k : Kn}
/-- the sort's own answer, by values and data -/
def rSrtT (X : Cx) : List V → Hp → VK → Prop := fun vs H Q => ∃ a xs ds, vs = [V.ref a] ∧ SqT X.K H a xs ∧ DpAll X.K H xs ds ∧ PySem.W.AllAlike ds ∧ PySem.W.Sortable ds ∧ (∀ d, d ∈ ds → d.depth ≤ 60) ∧
  ∀ p, H p = none → Q (.ref p) (upd H p (.lst (((xs.zip ds).mergeSort (PySem.W.dataLe false (·.2))).map (·.1))))
theorem cr_srtT (hu : X.A.units + 64 < cLine) : CallR X (.builtin "sorted") (rSrtT X) := by
  intro pins s σ H vs us Q I r h
  obtain ⟨a, xs, ds, rfl, hs, hd, hal, hso, hdp, q⟩ := h
  obtain ⟨u, rfl, ru⟩ := vals1 r
  cases ru
  obtain ⟨its, rv, pl, hz⟩ := I.tuple hs
  have hlen := DpAll.length hd
  have hm : (xs.zip ds).map (·.2) = ds := by rw [List.map_snd_zip]; omega
  have ea := DpAll.zip hd rv
  refine sortedT_data (enc := fun (b : V × PyData) => b.2) (R := fun u (b : V × PyData) => RelV b.1 u) (bs := xs.zip ds) pl (EachIs.imp (fun _ _ z => z.1) ea) (EachIs.imp (fun u b z => Dp.reads I b.2 b.1 u z.2 z.1) ea) (by rw [hm]; exact hal) (by rw [hm]; exact hso) (by rw [List.length_zip]; omega) ?_ ?_
  · intro b hb
    have : b.2 ∈ ds := by rw [← hm]; exact List.mem_map.mpr ⟨b, hb, rfl⟩
    have := hdp _ this
    omega
  · intro out ho eo
    obtain ⟨m, F⟩ := I.fr
    obtain ⟨cn, _, N, _, kp⟩ := PySem.W.sorted_news (news := []) F (fun p hp => nomatch hp) its out
    have hobj := (N _ List.mem_cons_self).1
    have hv := each_vals eo
    refine ⟨.ref (s.heap.objs.size + 1), _, I.laid (a := s.heap.objs.size + 1) (t' := s.toks) (o := .lst _) kp (Nat.le_succ _) ⟨?_, out, cn, hv, hobj⟩, rfl, q _ (I.hok.fresh (Nat.le_succ _))⟩
    rw [List.length_map, List.length_mergeSort, List.length_zip]; omega
/-- sorted of a list or of a tuple -/
def srtAD : D → R D
  | .lst ds => if srtOk ds then .ok (.lst (srt ds)) else .fail
  | .tup ds => if srtOk ds then .ok (.lst (srt ds)) else .fail
  | _ => .fail
theorem c_srtA (hk : k.K = X.K) (hu : X.A.units + 64 < cLine) : ClR X k (.builtin "sorted") .fr (f1 srtAD) := cl1 ((cr_srt hu).or (cr_srtT hu)) fun G H x v d e n hg Q p => by
  cases x <;> simp only [srtAD] at hg <;> first | (cases hg; done) | skip
  · split at hg
    · rename_i ho
      cases hg; obtain ⟨a, vs, rfl, ha, r⟩ := n.tup
      have hd : doks 59 _ = true := (by unfold srtOk at ho; simp only [Bool.and_eq_true] at ho; exact ho.1.1)
      refine .inr ⟨a, vs, _, rfl, hk ▸ e.sqT ha.t, hk ▸ (r.mono e).dp 59 hd, fun p hp q hq => ?_, srt_sortable ho, fun q hq => ?_, fun pp hp => p _ _ _ (Step.new' e hp) ⟨pp, _, rfl, e.free hp, hp, upd_same, .lst r.srt⟩⟩
      · obtain ⟨d1, h1, rfl⟩ := toPs_mem hp
        obtain ⟨d2, h2, rfl⟩ := toPs_mem hq
        unfold srtOk at ho
        simp only [Bool.and_eq_true, List.all_eq_true] at ho
        exact alikeD_of _ _ (ho.1.2 d1 h1 d2 h2)
      · obtain ⟨d1, h1, rfl⟩ := toPs_mem hq
        have := (dok_lay 59 d1 (doks_mem hd h1)).2
        omega
    · cases hg
  · split at hg
    · rename_i ho
      cases hg; obtain ⟨a, vs, rfl, ha, r⟩ := n.lst e
      have hd : doks 59 _ = true := (by unfold srtOk at ho; simp only [Bool.and_eq_true] at ho; exact ho.1.1)
      refine .inl ⟨a, vs, _, rfl, SqL.of ha, hk ▸ (r.mono e).dp 59 hd, fun p hp q hq => ?_, srt_sortable ho, fun q hq => ?_, fun pp hp => p _ _ _ (Step.new' e hp) ⟨pp, _, rfl, e.free hp, hp, upd_same, .lst r.srt⟩⟩
      · obtain ⟨d1, h1, rfl⟩ := toPs_mem hp
        obtain ⟨d2, h2, rfl⟩ := toPs_mem hq
        unfold srtOk at ho
        simp only [Bool.and_eq_true, List.all_eq_true] at ho
        exact alikeD_of _ _ (ho.1.2 d1 h1 d2 h2)
      · obtain ⟨d1, h1, rfl⟩ := toPs_mem hq
        have := (dok_lay 59 d1 (doks_mem hd h1)).2
        omega
    · cases hg
end
end M
set_option Elab.async false
set_option linter.all false
set_option maxRecDepth 100000
set_option maxHeartbeats 4000000
namespace M
open PySem L2
section
variable {X : Cx} {c : Cf} {k : Kn} {kd k1 k2 k3 : Kd} {a b e o : Expr} {f g h : FE} {pos apos cpos p' : Pos} {fr : Bool} {x y : Str} {den : List D → R D}
/-! ### a call with arguments that slots own: the answer is flat -/
theorem RD.flatG {k : Kn} {G G' : Hp} {d : D} {v : V} (r : RD k G d v) (h : flatD d = true) : RD k G' d v := by
  cases d <;> first | (simp [flatD] at h; done) | skip
  all_goals (cases r <;> constructor)
def eCB (den : List D → R D) (fa : FA) : FE := fun S => fa S >>= fun ds => (den ds).nox >>= fun d => if flatD d then .ok d else .fail
theorem callB_go {n : Nat} {fa : FA} {σ : L2.St} {H : Hp} {Q : VK} (hl : Len n fa) (q : RdE c .st (eCB den fa) σ H Q) : RdA c true fa σ H fun vs H1 => SpF c.k false n den (vs ++ []) H1 Q E0 := by
  obtain ⟨G, S, rel, p⟩ := q
  have p : PostE c .st G S σ H Q (fa S >>= fun ds => (den ds).nox >>= fun d => if flatD d then .ok d else .fail) := p
  refine ⟨G, S, rel, ?_⟩
  cases e0 : fa S with
  | exc x => rw [e0] at p; exact p
  | fail => rw [e0] at p; exact p
  | ok ds =>
    rw [e0] at p
    intro vs G1 H1 s1 q1
    have q1 : Nows c.k G1 H1 ds vs := q1
    have q2 := q1.rd s1.gh
    rw [List.append_nil]
    refine ⟨by rw [← q2.length]; exact hl S ds e0, H1, ds, Ex.refl _, q2, ?_⟩
    have p : PostE c .st G S σ H Q ((den ds).nox >>= fun d => if flatD d then .ok d else .fail) := p
    cases e1 : den ds with
    | ok d =>
      rw [e1] at p
      have p : PostE c .st G S σ H Q (if flatD d then .ok d else .fail) := p
      by_cases hf : flatD d = true
      · rw [if_pos hf] at p
        exact fun v G' H' s2 r2 => p v G1 H' (s1.trans ⟨Ex.refl _, s2.h, s1.gh.trans s2.h, fun b u q => .inl q⟩) (RD.flatG (show RD c.k G' d v from r2) hf)
      · rw [if_neg hf] at p; exact p.elim
    | exc x => rw [e1] at p; exact p.elim
    | fail => rw [e1] at p; exact p.elim
theorem d_callB {n : Nat} {p : Pos} {es : List Expr} {fa : FA} (F : Fn0 X c.k x n false den) (ha : PA' X c true (e :: es) fa) (hl : Len n fa) (hg : Gl X x := by rfl) (hdb : (x == ("__debug__" : Str)) = false := by decide)
    (hs : starEach (e :: es) X.env = (false, eval e X.env) :: starEach es X.env := by rfl) (hs2 : ((backTo pos (starEach es X.env)).any fun x => x.1) = false := by rfl) : PE' X c .st (.Call (.Name x p) (e :: es) [] pos) (eCB den fa) := by
  obtain ⟨f, fd, lv, ps, hn, ok, hr, hm, hk, hb⟩ := F.ex
  exact peI (pe_call ok hr hg hm hk hb .nil pass0 ha hdb hs hs2) fun σ H Q q => callB_go hl q
end
end M
set_option Elab.async false
set_option linter.all false
set_option maxRecDepth 100000
set_option maxHeartbeats 4000000
namespace M
open PySem L2
/-! ### texts: join, split; any over texts -/
def isS : D → Bool
  | .str _ => true
  | _ => false
/-- o.m(e) of a text o -/
def eM1 (o : D → D → R D) (f g : FE) : FE := fun S => do
  let x ← f S
  if isS x then do
    let y ← g S
    (o x y).nox
  else .fail
section
variable {X : Cx} {c : Cf} {kd k1 k2 : Kd} {a b e o : Expr} {f g : FE} {pos apos : Pos} {k : Kn}
theorem isS_of {G H : Hp} {d : D} {v : V} (h : isS d = true) (n : Now k G H d v) : ∃ x, d = .str x ∧ v = .str x := by
  cases d with
  | str x => exact ⟨x, rfl, n.str⟩
  | _ => simp [isS] at h
theorem eM1_go {op : D → D → R D} {r : V → List V → Hp → VK → Prop} {σ : St} {H : Hp} {Q : VK} (hr : ∀ G H x y v d, Ex G H → Now c.k G H y v → op (.str x) y = .ok d → ∀ Q : VK, (∀ w G' H', Step G H G' H' → Res c.k H G' H' d w kd → Q w H') → r (.str x) [v] H Q)
    (q : RdE c kd (eM1 op f g) σ H Q) : tM1 r (RdE c k1 f) (RdE c k2 g) σ H Q := by
  obtain ⟨G, S, rel, p⟩ := q
  refine rdE_go (g := fun x => if isS x then (g S >>= fun y => (op x y).nox) else .fail) (Post := PostE c kd G S σ H Q) rel p (fun _ z => z) (fun z => z) fun d1 v1 G1 H1 s1 q1 p1 => ?_
  by_cases hs : isS d1 = true
  · rw [if_pos hs] at p1
    obtain ⟨x, rfl, rfl⟩ := isS_of hs q1.now
    refine ⟨⟨x, rfl⟩, ?_⟩
    refine rdE_go (g := fun y => (op (.str x) y).nox) (Post := PostE c kd G S σ H Q) (rel.grow s1) p1 (fun _ z => z) (fun z => z) fun d2 v2 G2 H2 s2 q2 p2 => ?_
    cases e : op (.str x) d2 with
    | ok d =>
      rw [e] at p2
      exact hr G2 H2 x d2 v2 d s2.gh q2.now e Q fun w G3 H3 s3 q3 => p2 w G3 H3 ((s1.trans s2).trans s3) (q3.mono (s1.h.trans s2.h))
    | exc x => rw [e] at p2; exact p2.elim
    | fail => rw [e] at p2; exact p2.elim
  · rw [if_neg hs] at p1; exact p1.elim
def joinD : D → D → R D
  | .str a, .lst ds => (match asS ds with
    | some ys => if (ys.map (·.length)).sum + ys.length * a.length ≤ 16777216 then .ok (.str (Txt.join a ys)) else .fail
    | none => .fail)
  | .str a, .tup ds => (match asS ds with
    | some ys => if (ys.map (·.length)).sum + ys.length * a.length ≤ 16777216 then .ok (.str (Txt.join a ys)) else .fail
    | none => .fail)
  | _, _ => .fail
theorem d_join (hk : c.k.K = X.K) (ho : PE' X c k1 o f) (he : PE' X c k2 e g) (hs : starEach [e] X.env = [(false, eval e X.env)] := by rfl) (hbase : attributeBase o "join" X.env (eval o X.env) = eval o X.env := by rfl) (hline : (apos.endLine == pos.line) = true := by rfl) :
    PE' X c .st (.Call (.Attribute o "join" apos) [e] [] pos) (eM1 joinD f g) :=
  peI (pe_join ho he hs hbase hline) fun σ H Q q => eM1_go (fun G H x y v d ex n hg Q p => by
    cases y with
    | lst ds =>
      simp only [joinD] at hg
      split at hg
      · rename_i ys hy
        split at hg
        · rename_i hl
          cases hg
          obtain ⟨a, vs, rfl, ha, r⟩ := n.lst ex
          have := asS_of r hy; subst this
          exact ⟨x, a, ys, rfl, rfl, .inl (SqL.of ha), hl, p _ G H (Step.refl ex) (.str _)⟩
        · cases hg
      · cases hg
    | tup ds =>
      simp only [joinD] at hg
      split at hg
      · rename_i ys hy
        split at hg
        · rename_i hl
          cases hg
          obtain ⟨a, vs, rfl, ha, r⟩ := n.tup
          have := asS_of r hy; subst this
          exact ⟨x, a, ys, rfl, rfl, .inr (hk ▸ ex.sqT ha.t), hl, p _ G H (Step.refl ex) (.str _)⟩
        · cases hg
      · cases hg
    | _ => simp [joinD] at hg) q
def splitD : D → D → R D
  | .str a, .str b => if (b.length == 0) = false ∧ a.length + 2 ≤ sizeLine then .ok (.lst ((Txt.split a b).map .str)) else .fail
  | _, _ => .fail
theorem RDs.strs {G : Hp} : ∀ (ns : List Str), RDs k G (ns.map D.str) (ns.map V.str)
  | [] => .nil
  | n :: ns => .cons (.str n) (RDs.strs ns)
theorem d_split (ho : PE' X c k1 o f) (he : PE' X c k2 e g) (hs : starEach [e] X.env = [(false, eval e X.env)] := by rfl) (hbase : attributeBase o "split" X.env (eval o X.env) = eval o X.env := by rfl) (hline : (apos.endLine == pos.line) = true := by rfl) :
    PE' X c .fr (.Call (.Attribute o "split" apos) [e] [] pos) (eM1 splitD f g) :=
  peI (pe_split ho he hs hbase hline) fun σ H Q q => eM1_go (fun G H x y v d ex n hg Q p => by
    cases y with
    | str b =>
      simp only [splitD] at hg
      split at hg
      · rename_i hl
        cases hg
        obtain rfl := n.str
        refine ⟨x, b, rfl, rfl, hl.1, hl.2, ?_⟩
        intro q hq
        exact p _ G _ (Step.new' ex hq) ⟨q, _, rfl, ex.free hq, hq, upd_same, .lst (RDs.strs _)⟩
      · cases hg
    | _ => simp [splitD] at hg) q
/-! any(t), t a tuple of texts -/
theorem reads_strs {h : Heap} : ∀ {ss : List Str} {its : List Value}, Vals (ss.map V.str) its → ∃ as, ReadsAll h its (ss.map PyData.str) as
  | [], _, .nil => ⟨_, .nil⟩
  | s :: ss, _, .cons r rs => by
    obtain ⟨t, rfl⟩ := r
    obtain ⟨as, h⟩ := reads_strs rs
    exact ⟨_, .cons (.str s t) h⟩
theorem plain_strs : ∀ (ss : List Str), PyData.plainAll (ss.map PyData.str) = true
  | [] => rfl
  | s :: ss => by simp [PyData.plainAll, PyData.plain, plain_strs ss]
theorem any_strs (ss : List Str) : (ss.map PyData.str).any PyData.truthy = ss.any fun x => x.length != 0 := by
  rw [List.any_map]
  congr 1
  funext x
  show ((x.length : Int) != 0) = (x.length != 0)
  cases x.length <;> simp <;> first | rfl | omega
theorem cr_anyT (hc : X.calm = true) : CallR X (.builtin "any") (fun vs H Q => ∃ (a : Addr) (ss : List Str), vs = [V.ref a] ∧ SqT X.K H a (ss.map V.str) ∧ (∀ x ∈ ss, x.length ≤ sizeLine) ∧ Q (.bl (ss.any fun x => x.length != 0)) H) := by
  intro pins s σ H vs us Q I r h
  obtain ⟨a, ss, rfl, hs, hl, q⟩ := h
  obtain ⟨its, rv, ht, _⟩ := I.tuple hs
  rw [Vals.ref1 r]
  obtain ⟨as, hr⟩ := reads_strs (h := s.heap) rv
  have hz : (sizeLine : Int) < 2 ^ 63 := by decide
  refine PySem.W.any_tuple_data (I.ok.hd hc) (by obtain ⟨ob, h1, h2, n, h3⟩ := ht; exact ⟨ob, h1, h2, n, h3⟩) hr (plain_strs ss) (fun x hx => ?_) fun h' tk hk => ?_
  · obtain ⟨y, hy, rfl⟩ := List.mem_map.mp hx
    have := hl y hy
    show (y.length : Int) < 2 ^ 63
    omega
  · exact ⟨.bl _, H, I.kept fun b o eo => hk b o eo, by rw [any_strs]; rfl, q⟩
def anyTD : D → R D
  | .lst ds => match asB ds with | some ns => .ok (.bl (ns.any id)) | none => .fail
  | .tup ds => match asS ds with | some ss => if ss.all (fun x => decide (x.length ≤ sizeLine)) then .ok (.bl (ss.any fun x => x.length != 0)) else .fail | none => .fail
  | _ => .fail
theorem c_anyT (hk : k.K = X.K) (hc : X.calm = true) : ClR X k (.builtin "any") .st (f1 anyTD) := cl1 ((cr_any hc).or (cr_anyT hc)) fun G H x v d e n hg Q p => by
  cases x <;> simp only [anyTD] at hg <;> first | (cases hg; done) | skip
  · split at hg
    · rename_i ss hn
      split at hg
      · rename_i hl
        cases hg; obtain ⟨a, vs, rfl, ha, r⟩ := n.tup
        have := asS_of r hn; subst this
        exact .inr ⟨a, ss, rfl, hk ▸ e.sqT ha.t, fun x hx => of_decide_eq_true (List.all_eq_true.mp hl x hx), p _ G H (Step.refl e) (.bl _)⟩
      · cases hg
    · cases hg
  · split at hg
    · rename_i ns hn
      cases hg; obtain ⟨a, vs, rfl, ha, r⟩ := n.lst e
      have := asB_of r hn; subst this
      exact .inl ⟨a, ns, rfl, SqL.of ha, p _ G H (Step.refl e) (.bl _)⟩
    · cases hg
end
end M
namespace M
open PySem L2
/-! list(range(..)), tuple(range(..)) -/
section
variable {X : Cx} {c : Cf} {k1 k2 : Kd} {a b e : Expr} {f g : FE} {pos p p2 pos2 : Pos} {k : Kn}
instance (a b : Int) : Decidable (RgOk a b) := by unfold RgOk; infer_instance
/-- the ends of a range -/
abbrev FRg := Env → R (Int × Int)
def rg1 (f : FE) : FRg := fun S => f S >>= fun x => match x with | .int n => .ok (0, n) | _ => .fail
def rg2 (f g : FE) : FRg := fun S => f S >>= fun x => g S >>= fun y => match x, y with | .int i, .int j => .ok (i, j) | _, _ => .fail
def PostRg (c : Cf) (G : Hp) (S : Env) (σ : St) (H : Hp) (Q : Int → Int → Hp → Prop) : R (Int × Int) → Prop
  | .ok (i, j) => ∀ G' H', Step G H G' H' → Q i j H'
  | .exc x => PX c x
  | .fail => False
def RdRg (c : Cf) (r : FRg) : St → Hp → (Int → Int → Hp → Prop) → Prop := fun σ H Q => ∃ G S, Rel c G S σ H ∧ PostRg c G S σ H Q (r S)
theorem prgI {t t' : St → Hp → (Int → Int → Hp → Prop) → Prop} (h : PRg X e t) (i : ∀ σ H Q, t' σ H Q → t σ H Q) : PRg X e t' := fun pins s σ H Q I q => h pins s σ H Q I (i σ H Q q)
theorem d_rg1 (hm : X.mg "range" = none) (ha : PE' X c k1 a f) (hg : Gl X "range" := by rfl) (na : starEach [a] X.env = (false, eval a X.env) :: starEach [] X.env := by rfl) : PRg X (.Call (.Name "range" p) [a] [] pos) (RdRg c (rg1 f)) :=
  prgI (prg_1 hg hm ha na) fun σ H Q ⟨G, S, rel, q⟩ => by
    refine rdE_go (g := fun x => match x with | .int n => .ok ((0 : Int), n) | _ => .fail) (Post := PostRg c G S σ H Q) rel q (fun _ z => z) (fun z => z) fun d v G' H' s r p1 => ?_
    cases d with
    | int n => exact ⟨n, r.now.int, p1 G' H' s⟩
    | _ => exact p1.elim
theorem d_rg2 (hm : X.mg "range" = none) (ha : PE' X c k1 a f) (hb : PE' X c k2 b g) (hg : Gl X "range" := by rfl) (na : starEach [a, b] X.env = (false, eval a X.env) :: starEach [b] X.env := by rfl)
    (nb : starEach [b] X.env = (false, eval b X.env) :: starEach [] X.env := by rfl) (hp : (backTo pos (starEach [b] X.env)).any (·.1) = false := by rfl) : PRg X (.Call (.Name "range" p) [a, b] [] pos) (RdRg c (rg2 f g)) :=
  prgI (prg_2 hg hm ha hb na nb hp) fun σ H Q ⟨G, S, rel, q⟩ => by
    refine rdE_go (g := fun x => g S >>= fun y => match x, y with | .int i, .int j => .ok (i, j) | _, _ => .fail) (Post := PostRg c G S σ H Q) rel q (fun _ z => z) (fun z => z) fun d v G' H' s r p1 => ?_
    refine rdE_go (g := fun y => match d, y with | .int i, .int j => .ok (i, j) | _, _ => .fail) (Post := PostRg c G S σ H Q) (rel.grow s) p1 (fun _ z => z) (fun z => z) fun d2 v2 G2 H2 s2 r2 p2 => ?_
    cases d with
    | int n =>
      cases d2 with
      | int m => exact ⟨n, m, (r.now.grow s2).int, r2.now.int, p2 G2 H2 (s.trans s2)⟩
      | _ => exact p2.elim
    | _ => cases d2 <;> exact p2.elim
def rgD (a b : Int) : List D := (List.range (b - a).toNat).map fun (i : Nat) => .int (a + i)
theorem RDs.rg {G : Hp} (a b : Int) : RDs k G (rgD a b) (rgV a b) := by
  unfold rgD rgV
  induction (List.range (b - a).toNat) with
  | nil => exact .nil
  | cons x xs ih => exact .cons (.int _) ih
def eLstRg (r : FRg) : FE := fun S => r S >>= fun z => if RgOk z.1 z.2 then .ok (.lst (rgD z.1 z.2)) else .fail
def eTupRg (r : FRg) : FE := fun S => r S >>= fun z => if RgOk z.1 z.2 then .ok (.tup (rgD z.1 z.2)) else .fail
theorem d_lstRg {r : FRg} (hc : X.calm = true) (hm : X.mg "list" = none) (he : PRg X e (RdRg c r)) (hg : Gl X "list" := by rfl) (na : starEach [e] X.env = (false, eval e X.env) :: starEach [] X.env := by rfl) : PE' X c .fr (.Call (.Name "list" p) [e] [] pos) (eLstRg r) :=
  peI (pe_listRg hc hg hm he na) fun σ H Q ⟨G, S, rel, q⟩ => by
    refine ⟨G, S, rel, ?_⟩
    have q : PostE c .fr G S σ H Q (r S >>= fun z => if RgOk z.1 z.2 then .ok (.lst (rgD z.1 z.2)) else .fail) := q
    cases e1 : r S with
    | exc x => rw [e1] at q; exact q
    | fail => rw [e1] at q; exact q
    | ok z =>
      rw [e1, R.ok_bind] at q
      intro G' H' s
      by_cases hl : RgOk z.1 z.2
      · rw [if_pos hl] at q
        exact ⟨hl, fun w hw => q _ G' _ (s.trans (Step.new' s.gh hw)) ⟨w, _, rfl, s.gh.free hw, s.h.free hw, upd_same, .lst (RDs.rg _ _)⟩⟩
      · rw [if_neg hl] at q; exact q.elim
theorem d_tupRg {r : FRg} (hc : X.calm = true) (hm : X.mg "tuple" = none) (he : PRg X e (RdRg c r)) (hg : Gl X "tuple" := by rfl) (na : starEach [e] X.env = (false, eval e X.env) :: starEach [] X.env := by rfl) : PE' X c .st (.Call (.Name "tuple" p) [e] [] pos) (eTupRg r) :=
  peI (pe_tupRg hc hg hm he na) fun σ H Q ⟨G, S, rel, q⟩ => by
    refine ⟨G, S, rel, ?_⟩
    have q : PostE c .st G S σ H Q (r S >>= fun z => if RgOk z.1 z.2 then .ok (.tup (rgD z.1 z.2)) else .fail) := q
    cases e1 : r S with
    | exc x => rw [e1] at q; exact q
    | fail => rw [e1] at q; exact q
    | ok z =>
      rw [e1, R.ok_bind] at q
      intro G' H' s
      by_cases hl : RgOk z.1 z.2
      · rw [if_pos hl] at q
        exact ⟨hl, fun w hw => q _ _ _ (s.trans (Step.new s.gh hw)) (.tup (SqU.of upd_same) (RDs.rg _ _))⟩
      · rw [if_neg hl] at q; exact q.elim
end
end M
set_option Elab.async false
set_option linter.all false
set_option maxRecDepth 100000
set_option maxHeartbeats 4000000
namespace M
open PySem L2
/-! ### a written dict of the module: texts to ints -/
def tabGet (tab : List (Str × Int)) (z : Str) : Option Int := (tab.find? fun p => p.1 == z).map (·.2)
/-- the name x is such a dict -/
structure KTab (K : PySem.W.Frag) (w : World) (mg : Str → Option Value) (x : Str) (tab : List (Str × Int)) : Prop where
  ex : ∃ d es n, mg x = some (.ref d) ∧ KDict K w d es n ∧ ∀ z, ∃ r, PySem.W.nsIn K d z = some r ∧ match tabGet tab z with
    | some i => ∃ t, r = some (.int i t)
    | none => r = none
section
variable {X : Cx} {c : Cf} {kd k1 k2 : Kd} {a b e o : Expr} {f g : FE} {pos apos cpos p : Pos} {k : Kn} {x : Str} {tab : List (Str × Int)}
/-- the name itself -/
theorem pe_ktab {d : Addr} (hm : X.mg x = some (.ref d)) (hg : Gl X x := by rfl) (hd : (x == ("__debug__" : Str)) = false := by decide) : PE X (.Name x p) (tC (.ref d)) := pe_glob (v := .ref d) hg hm rfl hd
def kgetD (tab : List (Str × Int)) : D → R D
  | .str z => match tabGet tab z with | some i => .ok (.int i) | none => .ok .non
  | _ => .fail
def kixD (tab : List (Str × Int)) : D → R D
  | .str z => match tabGet tab z with | some i => .ok (.int i) | none => .fail
  | _ => .fail
def kinD (neg : Bool) (tab : List (Str × Int)) : D → R D
  | .str z => .ok (.bl (if neg then !(tabGet tab z).isSome else (tabGet tab z).isSome))
  | _ => .fail
theorem d_kget (T : KTab X.K X.w X.mg x tab) (he : PE' X c k1 e f) (hg : Gl X x := by rfl) (hd : (x == ("__debug__" : Str)) = false := by decide) (m : M1 X (.Name x p) "get" apos e cpos := by first | exact ⟨rfl, rfl, rfl, rfl⟩ | exact ⟨rfl, rfl, rfl⟩) :
    PE' X c .st (.Call (.Attribute (.Name x p) "get" apos) [e] [] cpos) (e1 (kgetD tab) f) := by
  obtain ⟨d, es, n, hm, KD, hv⟩ := T.ex
  refine ⟨fun pins s σ H Q I h => ?_⟩
  refine wpAny_Call_method m.base m.few m.line PySem.F.plainAttrs_dict PySem.F.slot_dict_get PySem.F.type_dict_get (thn ((pe_ktab (p := p) hm hg hd).run pins s σ H (fun v H1 => v = .ref d ∧ H1 = H) I ⟨rfl, rfl⟩) fun u s1 ⟨y, H1, I1, ry, ey, eH⟩ => ?_)
  subst ey; subst eH
  obtain rfl : u = Value.ref d := ry
  refine ⟨kd_type KD I1, fun b q => ?_, ?_⟩
  · cases q
    exact ⟨_, I1.kIn _ _ KD.at_, rfl⟩
  rw [m.trees]
  refine Calls.callWith_builtin rfl (Calls.evalArgs_plain (Calls.spliced_cons (thn (he.run pins s1 σ _ (fun v H2 => ∃ z r, v = .str z ∧ PySem.W.nsIn X.K d z = some r ∧ ∃ v0, RelV v0 (r.getD .none) ∧ Q v0 H2) I1 ?_) fun iv s2 ⟨y, H2, I2, ry, q2⟩ => Calls.spliced_nil ?_)))
  · obtain ⟨G, S, rel, p⟩ := h
    refine rdE_go (g := fun x => (kgetD tab x).nox) (Post := PostE c .st G S σ _ Q) rel p (fun _ z => z) (fun z => z) fun d1 v1 G1 H1 s1 q1 p1 => ?_
    cases d1 with
    | str z =>
      obtain rfl := q1.now.str
      obtain ⟨r, hr, hz⟩ := hv z
      refine ⟨z, r, rfl, hr, ?_⟩
      simp only [kgetD] at p1
      cases ht : tabGet tab z with
      | some i =>
        rw [ht] at p1 hz
        obtain ⟨t, rfl⟩ := hz
        exact ⟨.int i, ⟨t, rfl⟩, p1 _ G1 H1 s1 (.int i)⟩
      | none =>
        rw [ht] at p1 hz
        subst hz
        exact ⟨.non, rfl, p1 _ G1 H1 s1 .non⟩
    | _ => exact p1.elim
  · obtain ⟨z, r, rfl, hr, v0, rv, qv⟩ := q2
    obtain ⟨t, rfl⟩ := ry
    refine call_meetsIn PySem.F.slot_dict_get (kd_type KD I2) PySem.F.entry_dict_get (PySem.F.args_dict_get_2 _ _) (meets_dict_get (PySem.strKind X.prog X.w) d (PySem.strKind_is X.prog X.w z t) KD.low) ⟨_, PySem.W.mapOf_K (prog := X.prog) I2.kIn KD.at_ KD.lit, ?_⟩
    rw [PySem.W.find_K KD.at_ hr]
    exact ⟨v0, H2, I2.tok _, rv, qv⟩
theorem kin_go {neg : Bool} {σ : St} {H : Hp} {Q : VK} {r : R2} {d : Addr} (hv : ∀ z, ∃ r, PySem.W.nsIn X.K d z = some r ∧ match tabGet tab z with | some i => ∃ t, r = some (.int i t) | none => r = none)
    (hr : ∀ z r' H Q, PySem.W.nsIn X.K d z = some r' → Q (.bl (if neg then !r'.isSome else r'.isSome)) H → r (.str z) (.ref d) H Q) (q : RdE c .st (e1 (kinD neg tab) f) σ H Q) : RdE c k1 f σ H fun x H1 => tC (.ref d) σ H1 fun y H2 => r x y H2 Q := by
  obtain ⟨G, S, rel, p⟩ := q
  refine rdE_go (g := fun x => (kinD neg tab x).nox) (Post := PostE c .st G S σ H Q) rel p (fun _ z => z) (fun z => z) fun d1 v1 G1 H1 s1 q1 p1 => ?_
  cases d1 with
  | str z =>
    obtain rfl := q1.now.str
    obtain ⟨r', hr', hz⟩ := hv z
    refine hr z r' H1 Q hr' ?_
    have e : r'.isSome = (tabGet tab z).isSome := by
      cases ht : tabGet tab z with
      | some i => rw [ht] at hz; obtain ⟨t, rfl⟩ := hz; rfl
      | none => rw [ht] at hz; subst hz; rfl
    rw [e]
    exact p1 _ G1 H1 s1 (.bl _)
  | _ => exact p1.elim
theorem d_kin (T : KTab X.K X.w X.mg x tab) (he : PE' X c k1 e f) (hg : Gl X x := by rfl) (hd : (x == ("__debug__" : Str)) = false := by decide) (hm2 : behindInMarks .In (.Name x p) = false := by rfl) : PE' X c .st (.Compare e [.In] [.Name x p] pos) (e1 (kinD false tab) f) := by
  obtain ⟨d, es, n, hm, KD, hv⟩ := T.ex
  exact peI (pe_cmpR (op_in_kd KD) he (pe_ktab hm hg hd) hm2) fun σ H Q q => kin_go (neg := false) (r := fun x y H Q => ∃ (z : Str) (r : Option Value), x = .str z ∧ y = .ref d ∧ PySem.W.nsIn X.K d z = some r ∧ Q (.bl r.isSome) H) hv (fun z r' H Q h1 h2 => ⟨z, r', rfl, rfl, h1, h2⟩) q
theorem d_knotin (T : KTab X.K X.w X.mg x tab) (he : PE' X c k1 e f) (hg : Gl X x := by rfl) (hd : (x == ("__debug__" : Str)) = false := by decide) (hm2 : behindInMarks .NotIn (.Name x p) = false := by rfl) : PE' X c .st (.Compare e [.NotIn] [.Name x p] pos) (e1 (kinD true tab) f) := by
  obtain ⟨d, es, n, hm, KD, hv⟩ := T.ex
  exact peI (pe_cmpR (op_notIn_kd KD) he (pe_ktab hm hg hd) hm2) fun σ H Q q => kin_go (neg := true) (r := fun x y H Q => ∃ (z : Str) (r : Option Value), x = .str z ∧ y = .ref d ∧ PySem.W.nsIn X.K d z = some r ∧ Q (.bl (!r.isSome)) H) hv (fun z r' H Q h1 h2 => ⟨z, r', rfl, rfl, h1, h2⟩) q
theorem d_kix (T : KTab X.K X.w X.mg x tab) (he : PE' X c k1 e f) (hg : Gl X x := by rfl) (hd : (x == ("__debug__" : Str)) = false := by decide) (hi : PlainIx e := by exact fun _ _ => rfl) : PE' X c .st (.Subscript (.Name x p) e pos) (e1 (kixD tab) f) := by
  obtain ⟨d, es, n, hm, KD, hv⟩ := T.ex
  refine peI (pe_ix ix_kdict (pe_ktab hm hg hd) he hi) fun σ H Q ⟨G, S, rel, p⟩ => ?_
  show RdE c k1 f σ H fun y H2 => _
  refine rdE_go (g := fun x => (kixD tab x).nox) (Post := PostE c .st G S σ H Q) rel p (fun _ z => z) (fun z => z) fun d1 v1 G1 H1 s1 q1 p1 => ?_
  cases d1 with
  | str z =>
    obtain rfl := q1.now.str
    obtain ⟨r, hr, hz⟩ := hv z
    simp only [kixD] at p1
    cases ht : tabGet tab z with
    | some i =>
      rw [ht] at p1 hz
      obtain ⟨t, rfl⟩ := hz
      exact ⟨d, z, .int i, rfl, rfl, ⟨es, n, _, KD.at_, KD.lit, hr, ⟨t, rfl⟩⟩, p1 _ G1 H1 s1 (.int i)⟩
    | none => rw [ht] at p1; exact p1.elim
  | _ => exact p1.elim
/-! ### match of an int by written ints -/
structure PMc (X : Cx) (cs : List MatchCase) (t : Int → TS) : Prop where
  run : ∀ (pins : List (Addr × Obj)) (s : Shared) (σ : St) (H : Hp) (D : Ends) (n : Int) (tk : Tok) (first : Bool), L2.Inv X pins σ H s → t n D σ H → wpAny (model X.prog X.w) X.A (matchCases cs X.env (.int n tk) first) (SP X pins D) X.xe s
theorem pmc_nil : PMc X [] (fun _ D σ H => D.nx σ H) := ⟨fun pins s σ H D n tk first I h => wpAny_matchCases_nil ⟨σ, H, I, h⟩⟩
theorem pmc_any {body : List Stmt} {rest : List MatchCase} {t : TS} (hb : PSs X body t) : PMc X (⟨.MatchAs none none p, none, body⟩ :: rest) (fun _ => t) :=
  ⟨fun pins s σ H D n tk first I h => wpAny_matchCases_cons (wpAny_matchPattern_Capture (wpAny_assignInOrder_none (hb.run pins s σ H D I h)))⟩
theorem pmc_val {i : Int} {j} {vp : Pos} {body : List Stmt} {rest : List MatchCase} {t : TS} {u : Int → TS} (hb : PSs X body t) (hr : PMc X rest u) : PMc X (⟨.MatchValue (.Constant (.int i) j vp) p, none, body⟩ :: rest) (fun n D σ H => if n = i then t D σ H else u n D σ H) :=
  ⟨fun pins s σ H D n tk first I h => by
    refine wpAny_matchCases_cons (wpAny_matchPattern_Value (thn (pe_int.run pins s σ H (fun v H1 => v = .int i ∧ H1 = H) I ⟨rfl, rfl⟩) fun v s1 ⟨y, H1, I1, ry, ey, eH⟩ => ?_))
    subst ey; subst eH
    refine thn (op_eq pins s1 σ _ (.int n) (.int i) _ v (fun z H2 => z = .bl (decide (n = i)) ∧ H2 = H1) I1 ⟨tk, rfl⟩ ry ?_) fun cv s2 ⟨z, H2, I2, rz, ez, eH2⟩ => ?_
    · refine ⟨rfl, ?_, rfl⟩
      simp [V.int.injEq]
    · subst ez; subst eH2
      obtain rfl : cv = .bool (decide (n = i)) := rz
      refine wpAny_truthy_bool ?_
      by_cases hn : n = i
      · rw [if_pos (decide_eq_true hn)]
        rw [if_pos hn] at h
        exact wpAny_assignInOrder_none (hb.run pins s2 σ H2 D I2 h)
      · rw [if_neg (by simpa using hn)]
        rw [if_neg hn] at h
        exact hr.run pins s2 σ H2 D n tk false I2 h⟩
def mcF : List (Option Int × FS) → Int → FS
  | [], _ => sNil
  | (none, s) :: _, _ => s
  | (some i, s) :: r, n => if n = i then s else mcF r n
def PMc' (X : Cx) (c : Cf) (fr : Bool) (as : List Nat) (cs : List MatchCase) (l : List (Option Int × FS)) : Prop := PMc X cs (fun n => RdS c fr as (mcF l n))
theorem m_nil {fr : Bool} : PMc' X c fr [] [] [] := ⟨fun pins s σ H D n tk first I ⟨G, S, rel, q⟩ => pmc_nil.run pins s σ H D n tk first I (q G σ H (Ex.refl _) rel (Frm.refl _ _ _ _))⟩
theorem m_any {fr : Bool} {as : List Nat} {body : List Stmt} {s : FS} (hb : PB' X c fr as body s) : PMc' X c fr as [⟨.MatchAs none none p, none, body⟩] [(none, s)] := pmc_any hb
theorem PostS.up {fr : Bool} {as bs : List Nat} {G H : Hp} {S : Env} {σ : St} {Dn : Ends} {r : R (Fl × Env)} (h : ∀ i, i ∈ as → i ∈ bs) (p : PostS c fr bs G S σ H Dn r) : PostS c fr as G S σ H Dn r := by
  cases r with
  | ok z =>
    obtain ⟨fl, S'⟩ := z
    cases fl with
    | nx => exact fun G' σ' H' e rel fm => p G' σ' H' e rel (fm.mono h)
    | bk => exact fun G' σ' H' e rel fm => p G' σ' H' e rel (fm.mono h)
    | ct => exact fun G' σ' H' e rel fm => p G' σ' H' e rel (fm.mono h)
    | rt d => exact p
  | exc x => exact p
  | fail => exact p
theorem m_val {fr : Bool} {as bs : List Nat} {i : Int} {j} {vp : Pos} {body : List Stmt} {rest : List MatchCase} {s : FS} {l : List (Option Int × FS)} (hb : PB' X c fr as body s) (hr : PMc' X c fr bs rest l) : PMc' X c fr (as ++ bs) (⟨.MatchValue (.Constant (.int i) j vp) p, none, body⟩ :: rest) ((some i, s) :: l) :=
  ⟨fun pins s' σ H D n tk first I ⟨G, S, rel, q⟩ => (pmc_val hb hr).run pins s' σ H D n tk first I (by
    have q : PostS c fr (as ++ bs) G S σ H D ((if n = i then s else mcF l n) S) := q
    by_cases hn : n = i
    · rw [if_pos hn] at q ⊢
      exact ⟨G, S, rel, PostS.up (fun z hz => List.mem_append_left _ hz) q⟩
    · rw [if_neg hn] at q ⊢
      exact ⟨G, S, rel, PostS.up (fun z hz => List.mem_append_right _ hz) q⟩)⟩
def sMatch (f : FE) (l : List (Option Int × FS)) : FS := fun S => f S >>= fun d => match d with
  | .int n => mcF l n S
  | _ => .fail
theorem s_match {fr : Bool} {as : List Nat} {cs : List MatchCase} {l : List (Option Int × FS)} (he : PE' X c k1 e f) (hc : PMc' X c fr as cs l) : PS' X c fr as (.Match e cs pos) (sMatch f l) :=
  ⟨fun pins s σ H D I ⟨G, S, rel, p⟩ => by
    refine wpAny_Match (thn (he.run pins s σ H (fun v H1 => ∃ n, v = .int n ∧ RdS c fr as (mcF l n) D σ H1) I ?_) fun v s1 ⟨y, H1, I1, ry, n, ey, q⟩ => ?_)
    · refine rdE_go (g := fun d => match d with | .int n => mcF l n S | _ => .fail) (Post := PostS c fr as G S σ H D) rel p (fun _ z => z) (fun z => z) fun d v G1 H1 s1 q1 p1 => ?_
      cases d with
      | int n =>
        refine ⟨n, q1.now.int, G1, S, rel.grow s1, ?_⟩
        have p1 : PostS c fr as G S σ H D (mcF l n S) := p1
        cases hm : mcF l n S with
        | ok z =>
          rw [hm] at p1
          obtain ⟨fl, S'⟩ := z
          have fmx : ∀ {S' σ' H'}, Frm as S σ H1 S' σ' H' → Frm as S σ H S' σ' H' := fun fm => ((Frm.step (as := []) rel s1).trans fm).mono fun z hz => by simpa using hz
          cases fl with
          | nx => exact fun G' σ' H' e r fm => p1 G' σ' H' (s1.g.trans e) r (fmx fm)
          | bk => exact fun G' σ' H' e r fm => p1 G' σ' H' (s1.g.trans e) r (fmx fm)
          | ct => exact fun G' σ' H' e r fm => p1 G' σ' H' (s1.g.trans e) r (fmx fm)
          | rt d => exact p1
        | exc x => rw [hm] at p1; exact p1
        | fail => rw [hm] at p1; exact p1
      | _ => exact p1.elim
    · subst ey
      obtain ⟨tk, rfl⟩ := ry
      exact hc.run pins s1 σ H1 D n tk true I1 q⟩
end
end M
namespace M
open PySem L2
section
variable {X : Cx} {c : Cf} {k1 : Kd} {e : Expr} {f : FE} {pos p tp q1 q2 : Pos} {k : Kn} {x y z : Str}
/-- isinstance(e, (T1, T2)) -/
def isi2D (b1 b2 : String) (d : D) : R D := match tyN d with
  | some a => match kitB a b1, kitB a b2 with
    | some r1, some r2 => .ok (.bl (r1 || r2))
    | _, _ => .fail
  | none => .fail
theorem d_isi2 {kk} (b1 b2 : String) (hk : c.k.K = X.K) (hm : X.mg x = none) (hm1 : X.mg y = none) (hm2 : X.mg z = none) (he : PE' X c k1 e f) (hv : bootBuiltins x = some (.builtin "isinstance") := by decide +kernel) (hv1 : bootBuiltins y = some (.type b1) := by decide +kernel) (hv2 : bootBuiltins z = some (.type b2) := by decide +kernel) (hg : Gl X x := by rfl) (hg1 : Gl X y := by rfl) (hg2 : Gl X z := by rfl)
    (hn : x ≠ "__name__" := by decide) (hdb : (x == ("__debug__" : Str)) = false := by decide) (hn1 : y ≠ "__name__" := by decide) (hdb1 : (y == ("__debug__" : Str)) = false := by decide) (hn2 : z ≠ "__name__" := by decide) (hdb2 : (z == ("__debug__" : Str)) = false := by decide)
    (hs : starEach [e, .Tuple [.Name y q1, .Name z q2] kk tp] X.env = (false, eval e X.env) :: starEach [.Tuple [.Name y q1, .Name z q2] kk tp] X.env := by rfl) (hs2 : ((backTo pos (starEach [.Tuple [.Name y q1, .Name z q2] kk tp] X.env)).any fun x => x.1) = false := by rfl) :
    PE' X c .st (.Call (.Name x p) [e, .Tuple [.Name y q1, .Name z q2] kk tp] [] pos) (e1 (isi2D b1 b2) f) := by
  have ht : PE X (.Tuple [.Name y q1, .Name z q2] kk tp) _ := pe_tup (pa_cons (pe_bltn (v := .ty b1) hg1 hm1 hv1 rfl hn1 hdb1) (pa_cons (pe_bltn (v := .ty b2) hg2 hm2 hv2 rfl hn2 hdb2) pa_nil rfl) rfl)
  refine peI (pe_callB call_isiT hg hm hv (pa_cons he (pa_cons ht pa_nil rfl) hs) hn hdb hs hs2) fun σ H Q ⟨G, S, rel, p⟩ => ?_
  refine rdE_go (g := fun x => (isi2D b1 b2 x).nox) (Post := PostE c .st G S σ H Q) rel p (fun _ z => z) (fun z => z) fun d v G1 H1 s1 r1 p1 => ?_
  refine ⟨by show 2 ≤ sizeLine; have := sizeLine_eq; omega, fun t ht => ?_⟩
  have s2 : Step G1 H1 G1 (upd H1 t (.tup [.ty b1, .ty b2])) := Step.new' s1.gh ht
  have nn := r1.now.grow s2
  unfold isi2D at p1
  cases hty : tyN d with
  | none => rw [hty] at p1; exact p1.elim
  | some a =>
    rw [hty] at p1
    dsimp only at p1
    cases h1 : kitB a b1 with
    | none => rw [h1] at p1; exact p1.elim
    | some r1' =>
      cases h2 : kitB a b2 with
      | none => rw [h1, h2] at p1; exact p1.elim
      | some r2' =>
        rw [h1, h2] at p1
        refine ⟨v, t, [.ty b1, .ty b2], .type a, [.type b1, .type b2], r1' || r2', rfl, upd_same, .cons (.ty _) (.cons (.ty _) .nil), nn.tyX hk s2.gh hty, ?_, p1 _ G1 _ (s1.trans s2) (.bl _)⟩
        have e1 := kit_ty (K := X.K) h1
        have e2 := kit_ty (K := X.K) h2
        simp only [PySem.W.kitAny, e1, e2]
        cases r1' <;> cases r2' <;> rfl
end
end M
namespace M
open PySem L2
theorem b_fail {X : Cx} {c : Cf} {fr : Bool} {as : List Nat} {body : List Stmt} : PB' X c fr as body (fun _ => .fail) := pssI pss_never fun Dn σ H ⟨G, S, rel, p⟩ => p.elim
end M
namespace M
open PySem L2
theorem d_tv {X : Cx} {c : Cf} {a : Expr} {f : FE} (h : PE' X c .st a f) (he : ∀ whole, isTrue a X.env whole = (do let v ← whole; standAt a.pos; holding [v] (truthy v)) := by intro _; rfl) : PT' X c a (tB' f) := ptI (pt_val h he) fun σ H Q q => tB_go (t := RdE c .st f) (fun _ _ _ z => z) q
end M
set_option Elab.async false
set_option linter.all false
set_option maxRecDepth 100000
set_option maxHeartbeats 4000000
namespace M
open PySem L2
/-! ### tables in the hook -/
abbrev TabI := Str × List (Str × Int)
def valI (K : PySem.W.Frag) (t : TabI) : Bool := t.2.all fun q => match PySem.W.nsIn K (He.ga K t.1) q.1 with
  | some (some (.int i _)) => decide (i = q.2)
  | _ => false
theorem keys_none {P : Params} {z : Str} : ∀ {l : List DictEntry} {ks : List Str}, l.map He.keyOf = He.keysIn P ks → z ∉ ks → l.find? (·.key.isStr z) = none ∧ l.any (·.refKey) = false
  | [], _, _, _ => ⟨rfl, rfl⟩
  | e :: l, [], h, _ => by simp [He.keysIn] at h
  | e :: l, k :: ks, h, hz => by
    have h1 : He.keyOf e = some (k, PyData.keyHash P k) := by
      have := congrArg List.head? h; simpa [He.keysIn] using this
    have h2 : l.map He.keyOf = He.keysIn P ks := by
      have := congrArg List.tail h; simpa [He.keysIn] using this
    obtain ⟨i1, i2⟩ := keys_none h2 (fun w => hz (List.mem_cons_of_mem _ w))
    have hk : ∃ t, e.key = .str k t := by
      unfold He.keyOf at h1
      split at h1
      · rename_i x t hx
        simp only [Option.some.injEq, Prod.mk.injEq] at h1
        exact ⟨t, by rw [hx, h1.1]⟩
      · cases h1
    obtain ⟨t, hk⟩ := hk
    constructor
    · rw [List.find?_cons, hk]
      have : (Value.str k t).isStr z = false := by
        show (k == z) = false
        simpa using fun w : k = z => hz (by rw [w]; exact List.mem_cons_self)
      rw [this]; exact i1
    · rw [List.any_cons, i2]
      simp [DictEntry.refKey, hk]
theorem ktab_ok {K : PySem.W.Frag} {w : World} {mg : Str → Option Value} {t : TabI} (hg : mg t.1 = some (.ref (He.ga K t.1))) (hd : He.dicW K (He.ga K t.1) = some (He.keysIn w.params (t.2.map (·.1)))) (hv : valI K t = true) : KTab K w mg t.1 t.2 := by
  obtain ⟨es, n, KD⟩ := He.dicW_ok hd
  refine ⟨_, es, n, hg, KD, fun z => ?_⟩
  unfold tabGet
  cases hf : t.2.find? fun p => p.1 == z with
  | some q =>
    have hq := List.mem_of_find?_eq_some hf
    have he : q.1 = z := by have := List.find?_some hf; simpa using this
    have h2 := List.all_eq_true.mp hv q hq
    rw [he] at h2
    split at h2
    · rename_i i tk hn
      refine ⟨_, hn, ?_⟩
      have := of_decide_eq_true h2
      subst this
      exact ⟨tk, rfl⟩
    · cases h2
  | none =>
    refine ⟨none, ?_, rfl⟩
    have hz : z ∉ t.2.map (·.1) := fun hm => by
      obtain ⟨q, hq, e⟩ := List.mem_map.mp hm
      have := List.find?_eq_none.mp hf q hq
      simp [e] at this
    unfold He.dicW at hd
    rw [KD.at_] at hd
    dsimp only at hd
    split at hd
    · simp only [Option.some.injEq] at hd
      obtain ⟨h1, h2⟩ := keys_none hd hz
      unfold PySem.W.nsIn
      rw [KD.at_]
      dsimp only
      rw [h1, h2]; rfl
    · cases hd
abbrev AlZ : Type := He.AlD × List (Option (List (Option (Str × Int))))
def obsZ (x : Fy) (ts : List TabI) (fn : List Dx) (K : PySem.W.Frag) : AlZ := (((x.ok K && ts.all fun t => valI K t) && fn.all fun d => d.good K, fn.map fun d => d.seen K), ts.map fun t => He.dicW K (He.ga K t.1))
def valZ (ts : List TabI) (fn : List Dx) (w : World) : AlZ := ((true, fn.map fun d => d.d.val), ts.map fun t => some (He.keysIn w.params (t.2.map (·.1))))
def SaysZ (x : Fy) (ts : List TabI) (fn : List Dx) (w : World) (K : PySem.W.Frag) : Prop := obsZ x ts fn K = valZ ts fn w
def obsZG (n : Nat) (x : Fy) (ts : List TabI) (fn : List Dx) (g : Addr → Option Obj) : AlZ := obsZ x ts fn (He.frG g (He.asD g n))
def hookZ (n : Nat) (x : Fy) (ts : List TabI) (fn : List Dx) : PySem.W.Hook where
  α := AlZ
  obs := fun s => obsZG n x ts fn s.heap.get?
  val := fun w => valZ ts fn w
  says := fun w h => ∃ K : PySem.W.Frag, K.In h ∧ SaysZ x ts fn w K
  of := fun _ _ e => ⟨_, He.frG_in, e⟩
  keeps := fun _ _ _ ⟨K, hK, c⟩ k => ⟨K, PySem.W.Frag.In.keeps hK k, c⟩
theorem obsZG_eq {n : Nat} {x : Fy} {ts : List TabI} {fn : List Dx} {g : Addr → Option Obj} {s : Shared} (h : ∀ a, g a = s.heap.get? a) : obsZG n x ts fn g = (hookZ n x ts fn).obs s := by
  have q : g = s.heap.get? := funext h
  subst q; rfl
section
variable {x : Fy} {ts : List TabI} {fn : List Dx} {K : PySem.W.Frag} {w : World}
theorem SaysZ.all (c : SaysZ x ts fn w K) : ((x.ok K && ts.all fun t => valI K t) && fn.all fun d => d.good K) = true := congrArg (fun z : AlZ => z.1.1) c
theorem SaysZ.y (c : SaysZ x ts fn w K) : SaysY x fn K := by
  have h1 := He.ba c.all
  have e : fn.map (fun d => d.seen K) = fn.map fun d => d.d.val := congrArg (fun z : AlZ => z.1.2) c
  show (x.ok K && fn.all fun d => d.good K, fn.map fun d => d.seen K) = (true, _)
  rw [e, (He.ba h1.1).1, h1.2]; rfl
theorem SaysZ.tab (c : SaysZ x ts fn w K) (i : Nat) {t : TabI} (h : ts[i]? = some t := by rfl) : He.dicW K (He.ga K t.1) = some (He.keysIn w.params (t.2.map (·.1))) ∧ valI K t = true := by
  have e : ts.map (fun t => He.dicW K (He.ga K t.1)) = ts.map fun t => some (He.keysIn w.params (t.2.map (·.1))) := congrArg (fun z : AlZ => z.2) c
  have e2 := congrArg (fun l : List (Option (List (Option (Str × Int)))) => l[i]?) e
  simp only [List.getElem?_map, h, Option.map_some, Option.some.injEq] at e2
  exact ⟨e2, List.all_eq_true.mp (He.ba (He.ba c.all).1).2 t (List.mem_of_getElem? h)⟩
end
end M
set_option Elab.async false
set_option linter.all false
set_option maxRecDepth 100000
set_option maxHeartbeats 4000000
namespace Pf
open PySem L2 M
def topS (i : Nat) : Stmt := PySem.Challenge.pw_firstbreach_k41_crossing.main.body.getD i (.Pass ⟨0, 0, 0, 0⟩)
def clsB : Stmt → List Stmt
  | .ClassDef _ _ _ b .. => b
  | _ => []
def clsS (i j : Nat) : Stmt := (clsB (topS i)).getD j (.Pass ⟨0, 0, 0, 0⟩)
structure Bt (mg : Str → Option Value) : Prop where
  abs : mg "abs" = none
  all : mg "all" = none
  any : mg "any" = none
  int : mg "int" = none
  isinstance : mg "isinstance" = none
  len : mg "len" = none
  list : mg "list" = none
  range : mg "range" = none
  sorted : mg "sorted" = none
  str : mg "str" = none
  tuple : mg "tuple" = none
section
variable {P : Program} {w : World} {K : PySem.W.Frag} {mg : Str → Option Value} {base : Heap} {cl : Nat → Option (Addr × List Str)}
abbrev st_by_size : Stmt := topS 1
def m_by_size : FS :=
    (sRet (eT (aC (eC (f1 lenD) (aC (eW 0) aN)) (aC (eV 0) aN))))
def d_by_size : List D → R D := fun ds => (runF false 1 m_by_size ds).nox
theorem sc_by_size : FnScope ["chosen"] ["chosen"] (defScope st_by_size) := ⟨rfl, rfl, rfl, by decide +kernel, rfl, by decide +kernel, by decide +kernel⟩
theorem ok_by_size {f : Addr} {fd : FuncData} (F : FunD K "by_size" "by_size" (defArgs st_by_size) (defBody st_by_size) (defScope st_by_size) [] [] f fd) (mgf : mg "by_size" = some (.ref f)) (B : Bt mg)  : Callee P w K mg base ⟨K, cl⟩ 1 "by_size" 1 false d_by_size := by
  have nd : (["chosen"] : List Str).Nodup := sc_by_size.nd
  have z := fn_ok (P := P) (w := w) (mg := mg) (base := base) (k := ⟨K, cl⟩) (fr := false) (lv := 0) (as := []) (s := m_by_size) F sc_by_size fun cdv A outer sh H G0 hr => by
    have hu := hr.units
    have hu5 := hr.units5
    exact (b_one (s_ret (d_tup (d_ac (d_bltn (c_len rfl) B.len (d_ab (d_w 0) d_an)) (d_ac (d_v 0) d_an)))))
  exact ⟨f, fd, ["chosen"], rfl, z, mgf, F.kp, F.bindsN fun _ _ _ _ _ _ us hl => match us, hl with | [_], _ => rfl⟩
abbrev st_includes : Stmt := topS 2
def m_includes : FS :=
    (sRet (eC (f1 allD) (aC (lcE (fun S => (eV 1) S >>= itemsD) (gN 2) tY (e2 inD (eW 2) (eW 0)) [2]) aN)))
def d_includes : List D → R D := fun ds => (runF false 3 m_includes ds).nox
theorem sc_includes : FnScope ["larger", "smaller", "member"] ["larger", "smaller"] (defScope st_includes) := ⟨rfl, rfl, rfl, by decide +kernel, rfl, by decide +kernel, by decide +kernel⟩
theorem ok_includes {f : Addr} {fd : FuncData} (F : FunD K "includes" "includes" (defArgs st_includes) (defBody st_includes) (defScope st_includes) [] [] f fd) (mgf : mg "includes" = some (.ref f)) (B : Bt mg)  : Callee P w K mg base ⟨K, cl⟩ 1 "includes" 2 false d_includes := by
  have nd : (["larger", "smaller", "member"] : List Str).Nodup := sc_includes.nd
  have z := fn_ok (P := P) (w := w) (mg := mg) (base := base) (k := ⟨K, cl⟩) (fr := false) (lv := 0) (as := []) (s := m_includes) F sc_includes fun cdv A outer sh H G0 hr => by
    have hu := hr.units
    have hu5 := hr.units5
    exact (b_one (s_ret (d_bltn (c_all rfl) B.all (d_ab (d_lc [("member", 2)] rfl nd (i_seq rfl (d_v 1)) (blkOk_by (N := ["larger", "smaller", "member"]) (sc := (defScope st_includes)) (by decide +kernel)) (fun _ _ _ _ _ => (g_n 2 nd)) (fun _ _ _ _ _ => ts_n) (fun _ _ _ _ _ => (d_cmp (o_in rfl hu5) (d_w 2) (d_w 0)))) d_an))))
  exact ⟨f, fd, ["larger", "smaller"], rfl, z, mgf, F.kp, F.bindsN fun _ _ _ _ _ _ us hl => match us, hl with | [_, _], _ => rfl⟩
abbrev st_least_of : Stmt := topS 4
def m_least_of : FS :=
    (sSeq (sOwn 1 (eL aN))
    (sSeq (sFor (fun S => (eC (f1 (srtKD d_by_size)) (aC (eW 0) aN)) S >>= itemsD) (gN 2) (sIf (tNo (tT' (eC (f1 anyD) (aC (lcE (fun S => eO 1 S >>= itemsD) (gN 3) tY (eC d_includes (aC (eV 2) (aC (eV 3) aN))) [3]) aN)))) (sApp 1 (eV 2)) sNil))
    (sRetO 1)))
def d_least_of : List D → R D := fun ds => (runF true 4 m_least_of ds).nox
theorem sc_least_of : FnScope ["sets", "found", "chosen", "least"] ["sets"] (defScope st_least_of) := ⟨rfl, rfl, rfl, by decide +kernel, rfl, by decide +kernel, by decide +kernel⟩
theorem ok_least_of {f : Addr} {fd : FuncData} (F : FunD K "least_of" "least_of" (defArgs st_least_of) (defBody st_least_of) (defScope st_least_of) [] [] f fd) (mgf : mg "least_of" = some (.ref f)) (B : Bt mg) (h_by_size : Callee P w K mg base ⟨K, cl⟩ 1 "by_size" 1 false d_by_size) (h_includes : Callee P w K mg base ⟨K, cl⟩ 1 "includes" 2 false d_includes) : Callee P w K mg base ⟨K, cl⟩ 3 "least_of" 1 true d_least_of := by
  have nd : (["sets", "found", "chosen", "least"] : List Str).Nodup := sc_least_of.nd
  have z := fn_ok (P := P) (w := w) (mg := mg) (base := base) (k := ⟨K, cl⟩) (fr := true) (lv := 2) (as := [1, 2, 1001]) (s := m_least_of) F sc_least_of fun cdv A outer sh H G0 hr => by
    have hu := hr.units
    have hu5 := hr.units5
    exact (b_cons (s_own 1 nd (d_lst d_an))
    (b_cons (s_for PassesOwn.never rfl (i_seq rfl (d_z (d_srtK h_by_size hr (by decide) rfl hu B.sorted (d_ab (d_w 0) d_an) (len_c len_n)))) (g_n 2 nd) (b_one (s_if (d_not (d_tt rfl (d_bltn (c_any rfl) B.any (d_ab (d_lc [("least", 3)] rfl nd (i_own 1) (blkOk_by (N := ["sets", "found", "chosen", "least"]) (sc := (defScope st_least_of)) (by decide +kernel)) (fun _ _ _ _ _ => (g_n 3 nd)) (fun _ _ _ _ _ => ts_n) (fun _ _ _ _ _ => (d_callS (h_includes.at hr (by decide)) (d_ac (d_v 2) (d_ac (d_v 3) d_an)) (len_c (len_c len_n))))) d_an)))) (b_one (s_app 1 (d_v 2))) b_nil)))
    (b_one (s_retO 1))))
  exact ⟨f, fd, ["sets"], rfl, z, mgf, F.kp, F.bindsN fun _ _ _ _ _ _ us hl => match us, hl with | [_], _ => rfl⟩
abbrev st_crossing : Stmt := topS 5
def m_crossing : FS :=
    (sSeq (sOwn 1 (eL (aC (eT aN) aN)))
    (sSeq (sFor (fun S => (eV 0) S >>= itemsD) (gN 2) (sSeq (sOwn 3 (eL aN))
    (sSeq (sFor (fun S => eO 1 S >>= itemsD) (gN 4) (sIf (tT' (eC (f1 anyD) (aC (lcE (fun S => (eV 4) S >>= itemsD) (gN 5) tY (e2 inD (eW 5) (eW 2)) [5]) aN))) (sApp 3 (eV 4)) (sExt 3 (lcE (fun S => (eV 2) S >>= itemsD) (gN 5) tY (eC (f1 tupD) (aC (eC (f1 srtAD) (aC (e2 addD (eW 4) (eT (aC (eV 5) aN))) aN)) aN)) [5]))))
    (sFz 3 (sOwn 1 (eC d_least_of (aC (eV 3) aN)))))))
    (sRetO 1)))
def d_crossing : List D → R D := fun ds => (runF true 6 m_crossing ds).nox
theorem sc_crossing : FnScope ["sets", "found", "members", "longer", "chosen", "member"] ["sets"] (defScope st_crossing) := ⟨rfl, rfl, rfl, by decide +kernel, rfl, by decide +kernel, by decide +kernel⟩
theorem ok_crossing {f : Addr} {fd : FuncData} (F : FunD K "crossing" "crossing" (defArgs st_crossing) (defBody st_crossing) (defScope st_crossing) [] [] f fd) (mgf : mg "crossing" = some (.ref f)) (B : Bt mg) (h_least_of : Callee P w K mg base ⟨K, cl⟩ 3 "least_of" 1 true d_least_of) : Callee P w K mg base ⟨K, cl⟩ 4 "crossing" 1 true d_crossing := by
  have nd : (["sets", "found", "members", "longer", "chosen", "member"] : List Str).Nodup := sc_crossing.nd
  have z := fn_ok (P := P) (w := w) (mg := mg) (base := base) (k := ⟨K, cl⟩) (fr := true) (lv := 3) (as := [1, 2, 3, 4, 1003, 1003, 3, 1]) (s := m_crossing) F sc_crossing fun cdv A outer sh H G0 hr => by
    have hu := hr.units
    have hu5 := hr.units5
    exact (b_cons (s_own 1 nd (d_lst (d_ac (d_tup d_an) d_an)))
    (b_cons (s_for PassesOwn.never rfl (i_seq rfl (d_v 0)) (g_n 2 nd) (b_cons (s_own 3 nd (d_lst d_an))
    (b_cons (s_for PassesOwn.never rfl (i_own 1) (g_n 4 nd) (b_one (s_if (d_tt rfl (d_bltn (c_any rfl) B.any (d_ab (d_lc [("member", 5)] rfl nd (i_seq rfl (d_v 4)) (blkOk_by (N := ["sets", "found", "members", "longer", "chosen", "member"]) (sc := (defScope st_crossing)) (by decide +kernel)) (fun _ _ _ _ _ => (g_n 5 nd)) (fun _ _ _ _ _ => ts_n) (fun _ _ _ _ _ => (d_cmp (o_in rfl hu5) (d_w 5) (d_w 2)))) d_an))) (b_one (s_app 3 (d_v 4))) (b_one (s_ext 3 (d_lc [("member", 5)] rfl nd (i_seq rfl (d_v 2)) (blkOk_by (N := ["sets", "found", "members", "longer", "chosen", "member"]) (sc := (defScope st_crossing)) (by decide +kernel)) (fun _ _ _ _ _ => (g_n 5 nd)) (fun _ _ _ _ _ => ts_n) (fun _ _ _ _ _ => (d_btyp (c_tup rfl) B.tuple (d_ab (d_bltn (c_srtA rfl hu) B.sorted (d_ab (d_op (o_add rfl) (d_w 4) (d_tup (d_ac (d_v 5) d_an))) d_an)) d_an)))))))))
    (b_one (s_fz 3 (s_own 1 nd (d_callF (h_least_of.at hr (by decide)) (d_ac (d_v 3) d_an) (len_c len_n))))))))
    (b_one (s_retO 1))))
  exact ⟨f, fd, ["sets"], rfl, z, mgf, F.kp, F.bindsN fun _ _ _ _ _ _ us hl => match us, hl with | [_], _ => rfl⟩
abbrev st__law_cell : Stmt := topS 7
def m__law_cell : FS :=
    (sSeq (sIf (tB' (e2 ltD (eW 1) (eC (f1 lenD) (aC (eW 0) aN)))) (sRet (e2 ixD (eW 0) (eW 1))) sNil)
    (sSeq (sIf (tB' (e2 gtD (eC (f1 lenD) (aC (eW 0) aN)) (eI (0)))) (sRet (e2 addD (e2 modD (eC (f1 intD) (aC (e2 ixD (eW 0) (eI (0))) aN)) (e2 powD (eI (10)) (eI (15)))) (eW 1))) sNil)
    (sRet (eI (0)))))
def d__law_cell : List D → R D := fun ds => (runF false 2 m__law_cell ds).nox
theorem sc__law_cell : FnScope ["_law_script", "_law_at"] ["_law_script", "_law_at"] (defScope st__law_cell) := ⟨rfl, rfl, rfl, by decide +kernel, rfl, by decide +kernel, by decide +kernel⟩
theorem ok__law_cell {f : Addr} {fd : FuncData} (F : FunD K "_law_cell" "_law_cell" (defArgs st__law_cell) (defBody st__law_cell) (defScope st__law_cell) [] [] f fd) (mgf : mg "_law_cell" = some (.ref f)) (B : Bt mg)  : Callee P w K mg base ⟨K, cl⟩ 1 "_law_cell" 2 false d__law_cell := by
  have nd : (["_law_script", "_law_at"] : List Str).Nodup := sc__law_cell.nd
  have z := fn_ok (P := P) (w := w) (mg := mg) (base := base) (k := ⟨K, cl⟩) (fr := false) (lv := 0) (as := []) (s := m__law_cell) F sc__law_cell fun cdv A outer sh H G0 hr => by
    have hu := hr.units
    have hu5 := hr.units5
    exact (b_cons (s_if (d_tc (o_lt) (d_w 1) (d_bltn (c_len rfl) B.len (d_ab (d_w 0) d_an))) (b_one (s_ret (d_ix (o_ix rfl) (d_w 0) (d_w 1)))) b_nil)
    (b_cons (s_if (d_tc (o_gt) (d_bltn (c_len rfl) B.len (d_ab (d_w 0) d_an)) d_int) (b_one (s_ret (d_op (o_add rfl) (d_op (o_mod) (d_btyp (c_int) B.int (d_ab (d_ix (o_ix rfl) (d_w 0) d_int) d_an)) (d_op (o_pow) d_int d_int)) (d_w 1)))) b_nil)
    (b_one (s_ret d_int))))
  exact ⟨f, fd, ["_law_script", "_law_at"], rfl, z, mgf, F.kp, F.bindsN fun _ _ _ _ _ _ us hl => match us, hl with | [_, _], _ => rfl⟩
abbrev st__law_draws : Stmt := topS 8
def m__law_draws : FS :=
    (sSeq (sSet 3 (eC (f1 absD) (aC (eC d__law_cell (aC (eV 0) (aC (eV 1) aN))) aN)))
    (sSeq (sSet 4 (eI (0)))
    (sSeq (sIf (tB' (e2 geD (eW 3) (e2 powD (eI (10)) (eI (18))))) (sSet 4 (e2 subD (eW 3) (e2 powD (eI (10)) (eI (18))))) sNil)
    (sSeq (sOwn 5 (eL aN))
    (sSeq (sFor (fun S => (aC (eW 2) aN) S >>= rng1) (gN 6) (sIf (tB' (e2 gtD (eW 4) (eI (0)))) (sSeq (sApp 5 (e2 modD (eC (f1 intD) (aC (eW 4) aN)) (eI (60))))
    (sSet 4 (e2 fdivD (eW 4) (eI (60))))) (sSeq (sSet 7 (e2 modD (eC (f1 intD) (aC (e2 mulD (eW 3) (e2 addD (e2 addD (eI (48271)) (e2 mulD (eW 6) (eI (69621)))) (e2 mulD (eW 1) (eI (7919))))) aN)) (eI (2147483647))))
    (sSeq (sSet 7 (e2 modD (eC (f1 intD) (aC (e2 addD (e2 mulD (eW 7) (eW 7)) (e2 fdivD (eW 7) (eI (127)))) aN)) (eI (2147483399))))
    (sSeq (sSet 7 (e2 modD (eC (f1 intD) (aC (e2 addD (e2 mulD (eW 7) (eW 7)) (e2 fdivD (eW 7) (eI (31)))) aN)) (eI (998244353))))
    (sApp 5 (e2 modD (eC (f1 intD) (aC (e2 fdivD (eW 7) (eI (11))) aN)) (eI (60)))))))))
    (sFz 5 (sRet (eV 5))))))))
def d__law_draws : List D → R D := fun ds => (runF false 8 m__law_draws ds).nox
theorem sc__law_draws : FnScope ["_law_script", "_law_at", "_law_count", "_law_cell_here", "_law_rest", "_law_found", "_law_k", "_law_mixed"] ["_law_script", "_law_at", "_law_count"] (defScope st__law_draws) := ⟨rfl, rfl, rfl, by decide +kernel, rfl, by decide +kernel, by decide +kernel⟩
theorem ok__law_draws {f : Addr} {fd : FuncData} (F : FunD K "_law_draws" "_law_draws" (defArgs st__law_draws) (defBody st__law_draws) (defScope st__law_draws) [] [] f fd) (mgf : mg "_law_draws" = some (.ref f)) (B : Bt mg) (h__law_cell : Callee P w K mg base ⟨K, cl⟩ 1 "_law_cell" 2 false d__law_cell) : Callee P w K mg base ⟨K, cl⟩ 2 "_law_draws" 3 false d__law_draws := by
  have nd : (["_law_script", "_law_at", "_law_count", "_law_cell_here", "_law_rest", "_law_found", "_law_k", "_law_mixed"] : List Str).Nodup := sc__law_draws.nd
  have z := fn_ok (P := P) (w := w) (mg := mg) (base := base) (k := ⟨K, cl⟩) (fr := false) (lv := 1) (as := [3, 4, 4, 5, 6, 1005, 4, 7, 7, 7, 1005, 5]) (s := m__law_draws) F sc__law_draws fun cdv A outer sh H G0 hr => by
    have hu := hr.units
    have hu5 := hr.units5
    exact (b_cons (s_set 3 nd (d_bltn (c_abs) B.abs (d_ab (d_callS (h__law_cell.at hr (by decide)) (d_ac (d_v 0) (d_ac (d_v 1) d_an)) (len_c (len_c len_n))) d_an)))
    (b_cons (s_set 4 nd d_int)
    (b_cons (s_if (d_tc (o_ge) (d_w 3) (d_op (o_pow) d_int d_int)) (b_one (s_set 4 nd (d_op (o_sub) (d_w 3) (d_op (o_pow) d_int d_int)))) b_nil)
    (b_cons (s_own 5 nd (d_lst d_an))
    (b_cons (s_for PassesOwn.never rfl (i_rng1 B.range (d_ab (d_w 2) d_an)) (g_n 6 nd) (b_one (s_if (d_tc (o_gt) (d_w 4) d_int) (b_cons (s_app 5 (d_op (o_mod) (d_btyp (c_int) B.int (d_ab (d_w 4) d_an)) d_int))
    (b_one (s_set 4 nd (d_op (o_fdiv) (d_w 4) d_int)))) (b_cons (s_set 7 nd (d_op (o_mod) (d_btyp (c_int) B.int (d_ab (d_op (o_mul rfl) (d_w 3) (d_op (o_add rfl) (d_op (o_add rfl) d_int (d_op (o_mul rfl) (d_w 6) d_int)) (d_op (o_mul rfl) (d_w 1) d_int))) d_an)) d_int))
    (b_cons (s_set 7 nd (d_op (o_mod) (d_btyp (c_int) B.int (d_ab (d_op (o_add rfl) (d_op (o_mul rfl) (d_w 7) (d_w 7)) (d_op (o_fdiv) (d_w 7) d_int)) d_an)) d_int))
    (b_cons (s_set 7 nd (d_op (o_mod) (d_btyp (c_int) B.int (d_ab (d_op (o_add rfl) (d_op (o_mul rfl) (d_w 7) (d_w 7)) (d_op (o_fdiv) (d_w 7) d_int)) d_an)) d_int))
    (b_one (s_app 5 (d_op (o_mod) (d_btyp (c_int) B.int (d_ab (d_op (o_fdiv) (d_w 7) d_int) d_an)) d_int)))))))))
    (b_one (s_fz 5 (s_ret (d_v 5)))))))))
  exact ⟨f, fd, ["_law_script", "_law_at", "_law_count"], rfl, z, mgf, F.kp, F.bindsN fun _ _ _ _ _ _ us hl => match us, hl with | [_, _, _], _ => rfl⟩
abbrev st__law_hits : Stmt := topS 9
def m__law_hits : FS :=
    (sRet (e2 eqD (eC (f1 lenD) (aC (lcE (fun S => (eV 1) S >>= itemsD) (gN 2) (tB' (e2 eqD (eC (f1 lenD) (aC (lcE (fun S => (eV 2) S >>= itemsD) (gN 3) (tB' (e2 inD (eW 3) (eW 0))) (eV 3) [3]) aN)) (eI (0)))) (eV 2) [2]) aN)) (eI (0))))
def d__law_hits : List D → R D := fun ds => (runF false 4 m__law_hits ds).nox
theorem sc__law_hits : FnScope ["_law_chosen", "_law_rows", "_law_row", "_law_name"] ["_law_chosen", "_law_rows"] (defScope st__law_hits) := ⟨rfl, rfl, rfl, by decide +kernel, rfl, by decide +kernel, by decide +kernel⟩
theorem ok__law_hits {f : Addr} {fd : FuncData} (F : FunD K "_law_hits" "_law_hits" (defArgs st__law_hits) (defBody st__law_hits) (defScope st__law_hits) [] [] f fd) (mgf : mg "_law_hits" = some (.ref f)) (B : Bt mg)  : Callee P w K mg base ⟨K, cl⟩ 1 "_law_hits" 2 false d__law_hits := by
  have nd : (["_law_chosen", "_law_rows", "_law_row", "_law_name"] : List Str).Nodup := sc__law_hits.nd
  have z := fn_ok (P := P) (w := w) (mg := mg) (base := base) (k := ⟨K, cl⟩) (fr := false) (lv := 0) (as := []) (s := m__law_hits) F sc__law_hits fun cdv A outer sh H G0 hr => by
    have hu := hr.units
    have hu5 := hr.units5
    exact (b_one (s_ret (d_cmp (o_eq rfl hu) (d_bltn (c_len rfl) B.len (d_ab (d_lc [("_law_row", 2)] rfl nd (i_seq rfl (d_v 1)) (blkOk_by (N := ["_law_chosen", "_law_rows", "_law_row", "_law_name"]) (sc := (defScope st__law_hits)) (by decide +kernel)) (fun _ _ _ _ _ => (g_n 2 nd)) (fun _ _ _ _ _ => (ts_1 (d_tc (o_eq rfl hu) (d_bltn (c_len rfl) B.len (d_ab (d_lc [("_law_name", 3)] rfl nd (i_seq rfl (d_v 2)) (blkOk_by (N := ["_law_chosen", "_law_rows", "_law_row", "_law_name"]) (sc := (relS ({ kind := .function, names := [(".0", .local), ("_law_row", .local), ("len", .globalImplicit), ("_law_chosen", .free)], isGenerator := false, isCoroutine := false, more := [] } : Scope) (defScope st__law_hits))) (by decide +kernel)) (fun _ _ _ _ _ => (g_n 3 nd)) (fun _ _ _ _ _ => (ts_1 (d_tc (o_in rfl hu5) (d_w 3) (d_w 0)))) (fun _ _ _ _ _ => (d_v 3))) d_an)) d_int))) (fun _ _ _ _ _ => (d_v 2))) d_an)) d_int)))
  exact ⟨f, fd, ["_law_chosen", "_law_rows"], rfl, z, mgf, F.kp, F.bindsN fun _ _ _ _ _ _ us hl => match us, hl with | [_, _], _ => rfl⟩
abbrev st__law_crossing : Stmt := topS 10
def m__law_crossing : FS :=
    (sSeq (sSet 2 (eL (aC (eT aN) aN)))
    (sSeq (sFor (fun S => (eC (f1 srtAD) (aC (eW 0) aN)) S >>= itemsD) (gN 3) (sSet 2 (e2 addD (eW 2) (lcE (fun S => (eV 2) S >>= itemsD) (gN 4) tY (e2 addD (eW 4) (eT (aC (eV 3) aN))) [4]))))
    (sSeq (sOwn 5 (eL aN))
    (sSeq (sFor (fun S => (eV 2) S >>= itemsD) (gN 4) (sIf (tT' (eC d__law_hits (aC (eV 4) (aC (eV 1) aN)))) (sSeq (sSet 6 (lcE (fun S => (eV 4) S >>= itemsD) (gN 3) (tT' (eC d__law_hits (aC (lcE (fun S => (eV 4) S >>= itemsD) (gN 7) (tB' (e2 neD (eW 7) (eW 3))) (eV 7) [7]) (aC (eV 1) aN)))) (eV 3) [3]))
    (sIf (tB' (e2 eqD (eC (f1 lenD) (aC (eW 6) aN)) (eI (0)))) (sApp 5 (eT (aC (eC (f1 lenD) (aC (eW 4) aN)) (aC (eV 4) aN)))) sNil)) sNil))
    (sRet (lcE (fun S => (eC (f1 srtAD) (aC (eW 5) aN)) S >>= itemsD) (gN 8) tY (e2 ixD (eW 8) (eI (1))) [8]))))))
def d__law_crossing : List D → R D := fun ds => (runF false 9 m__law_crossing ds).nox
theorem sc__law_crossing : FnScope ["_law_names", "_law_rows", "_law_sets", "_law_name", "_law_chosen", "_law_found", "_law_less", "_law_other", "_law_row"] ["_law_names", "_law_rows"] (defScope st__law_crossing) := ⟨rfl, rfl, rfl, by decide +kernel, rfl, by decide +kernel, by decide +kernel⟩
theorem ok__law_crossing {f : Addr} {fd : FuncData} (F : FunD K "_law_crossing" "_law_crossing" (defArgs st__law_crossing) (defBody st__law_crossing) (defScope st__law_crossing) [] [] f fd) (mgf : mg "_law_crossing" = some (.ref f)) (B : Bt mg) (h__law_hits : Callee P w K mg base ⟨K, cl⟩ 1 "_law_hits" 2 false d__law_hits) : Callee P w K mg base ⟨K, cl⟩ 2 "_law_crossing" 2 false d__law_crossing := by
  have nd : (["_law_names", "_law_rows", "_law_sets", "_law_name", "_law_chosen", "_law_found", "_law_less", "_law_other", "_law_row"] : List Str).Nodup := sc__law_crossing.nd
  have z := fn_ok (P := P) (w := w) (mg := mg) (base := base) (k := ⟨K, cl⟩) (fr := false) (lv := 1) (as := [2, 3, 2, 5, 4, 6, 1005]) (s := m__law_crossing) F sc__law_crossing fun cdv A outer sh H G0 hr => by
    have hu := hr.units
    have hu5 := hr.units5
    exact (b_cons (s_set 2 nd (d_z (d_lst (d_ac (d_tup d_an) d_an))))
    (b_cons (s_for PassesOwn.never rfl (i_seq rfl (d_z (d_bltn (c_srtA rfl hu) B.sorted (d_ab (d_w 0) d_an)))) (g_n 3 nd) (b_one (s_set 2 nd (d_op (o_add rfl) (d_w 2) (d_lc [("_law_chosen", 4)] rfl nd (i_seq rfl (d_v 2)) (blkOk_by (N := ["_law_names", "_law_rows", "_law_sets", "_law_name", "_law_chosen", "_law_found", "_law_less", "_law_other", "_law_row"]) (sc := (defScope st__law_crossing)) (by decide +kernel)) (fun _ _ _ _ _ => (g_n 4 nd)) (fun _ _ _ _ _ => ts_n) (fun _ _ _ _ _ => (d_op (o_add rfl) (d_w 4) (d_tup (d_ac (d_v 3) d_an)))))))))
    (b_cons (s_own 5 nd (d_lst d_an))
    (b_cons (s_for PassesOwn.never rfl (i_seq rfl (d_v 2)) (g_n 4 nd) (b_one (s_if (d_tt rfl (d_callS (h__law_hits.at hr (by decide)) (d_ac (d_v 4) (d_ac (d_v 1) d_an)) (len_c (len_c len_n)))) (b_cons (s_lcZ 6 [("_law_name", 3)] rfl nd (i_seq rfl (d_v 4)) (blkOk_by (N := ["_law_names", "_law_rows", "_law_sets", "_law_name", "_law_chosen", "_law_found", "_law_less", "_law_other", "_law_row"]) (sc := (defScope st__law_crossing)) (by decide +kernel)) (fun _ _ _ _ _ => (g_n 3 nd)) (fun _ _ _ _ _ => (ts_1 (d_tt rfl (d_callS (h__law_hits.at hr (by decide)) (d_ac (d_z (d_lc [("_law_other", 7)] rfl nd (i_seq rfl (d_v 4)) (blkOk_by (N := ["_law_names", "_law_rows", "_law_sets", "_law_name", "_law_chosen", "_law_found", "_law_less", "_law_other", "_law_row"]) (sc := (relS ({ kind := .function, names := [(".0", .local), ("_law_name", .cell), ("_law_hits", .globalImplicit), ("_law_chosen", .free), ("_law_rows", .free)], isGenerator := false, isCoroutine := false, more := [] } : Scope) (defScope st__law_crossing))) (by decide +kernel)) (fun _ _ _ _ _ => (g_n 7 nd)) (fun _ _ _ _ _ => (ts_1 (d_tc (o_ne rfl hu) (d_w 7) (d_w 3)))) (fun _ _ _ _ _ => (d_v 7)))) (d_ac (d_v 1) d_an)) (len_c (len_c len_n)))))) (fun _ _ _ _ _ => (d_v 3)))
    (b_one (s_if (d_tc (o_eq rfl hu) (d_bltn (c_len rfl) B.len (d_ab (d_w 6) d_an)) d_int) (b_one (s_app 5 (d_tup (d_ac (d_bltn (c_len rfl) B.len (d_ab (d_w 4) d_an)) (d_ac (d_v 4) d_an))))) b_nil))) b_nil)))
    (b_one (s_ret (d_z (d_lc [("_law_row", 8)] rfl nd (i_seq rfl (d_z (d_bltn (c_srtA rfl hu) B.sorted (d_ab (d_w 5) d_an)))) (blkOk_by (N := ["_law_names", "_law_rows", "_law_sets", "_law_name", "_law_chosen", "_law_found", "_law_less", "_law_other", "_law_row"]) (sc := (defScope st__law_crossing)) (by decide +kernel)) (fun _ _ _ _ _ => (g_n 8 nd)) (fun _ _ _ _ _ => ts_n) (fun _ _ _ _ _ => (d_ix (o_ix rfl) (d_w 8) d_int))))))))))
  exact ⟨f, fd, ["_law_names", "_law_rows"], rfl, z, mgf, F.kp, F.bindsN fun _ _ _ _ _ _ us hl => match us, hl with | [_, _], _ => rfl⟩
abbrev st__law_members : Stmt := topS 11
def m__law_members : FS :=
    (sSeq (sSet 3 (e2 modD (eC (f1 intD) (aC (e2 addD (e2 mulD (eW 1) (eI (60))) (eW 2)) aN)) (eI (256))))
    (sSeq (sOwn 4 (eL aN))
    (sSeq (sFor (fun S => (eV 0) S >>= itemsD) (gN 5) (sSeq (sIf (tB' (e2 eqD (e2 modD (eC (f1 intD) (aC (eW 3) aN)) (eI (2))) (eI (1)))) (sApp 4 (eV 5)) sNil)
    (sSet 3 (e2 fdivD (eW 3) (eI (2))))))
    (sSeq (sIf (tA (tB' (e2 eqD (eC (f1 lenD) (aC (eW 4) aN)) (eI (0)))) (tB' (e2 neD (e2 modD (eC (f1 intD) (aC (eW 1) aN)) (eI (10))) (eI (3))))) (sOwn 4 (eL (aC (e2 ixD (eW 0) (e2 modD (eC (f1 intD) (aC (eW 1) aN)) (eC (f1 lenD) (aC (eW 0) aN)))) aN))) sNil)
    (sSeq (sIf (tB' (e2 eqD (e2 modD (eC (f1 intD) (aC (eW 2) aN)) (eI (2))) (eI (1)))) (sOwn 4 (e1 revD (eW 4))) sNil)
    (sSeq (sIf (tB' (e2 eqD (e2 modD (eC (f1 intD) (aC (eW 2) aN)) (eI (15))) (eI (7)))) (sOwn 4 (e2 addL (eW 4) (eSl (eW 4) oN (oS (eI (1)))))) sNil)
    (sRet (eC (f1 tupD) (aC (eW 4) aN)))))))))
def d__law_members : List D → R D := fun ds => (runF false 6 m__law_members ds).nox
theorem sc__law_members : FnScope ["_law_names", "_law_a", "_law_b", "_law_mask", "_law_found", "_law_name"] ["_law_names", "_law_a", "_law_b"] (defScope st__law_members) := ⟨rfl, rfl, rfl, by decide +kernel, rfl, by decide +kernel, by decide +kernel⟩
theorem ok__law_members {f : Addr} {fd : FuncData} (F : FunD K "_law_members" "_law_members" (defArgs st__law_members) (defBody st__law_members) (defScope st__law_members) [] [] f fd) (mgf : mg "_law_members" = some (.ref f)) (B : Bt mg)  : Callee P w K mg base ⟨K, cl⟩ 1 "_law_members" 3 false d__law_members := by
  have nd : (["_law_names", "_law_a", "_law_b", "_law_mask", "_law_found", "_law_name"] : List Str).Nodup := sc__law_members.nd
  have z := fn_ok (P := P) (w := w) (mg := mg) (base := base) (k := ⟨K, cl⟩) (fr := false) (lv := 0) (as := [3, 4, 5, 1004, 3, 4, 4, 4]) (s := m__law_members) F sc__law_members fun cdv A outer sh H G0 hr => by
    have hu := hr.units
    have hu5 := hr.units5
    exact (b_cons (s_set 3 nd (d_op (o_mod) (d_btyp (c_int) B.int (d_ab (d_op (o_add rfl) (d_op (o_mul rfl) (d_w 1) d_int) (d_w 2)) d_an)) d_int))
    (b_cons (s_own 4 nd (d_lst d_an))
    (b_cons (s_for PassesOwn.never rfl (i_seq rfl (d_v 0)) (g_n 5 nd) (b_cons (s_if (d_tc (o_eq rfl hu) (d_op (o_mod) (d_btyp (c_int) B.int (d_ab (d_w 3) d_an)) d_int) d_int) (b_one (s_app 4 (d_v 5))) b_nil)
    (b_one (s_set 3 nd (d_op (o_fdiv) (d_w 3) d_int)))))
    (b_cons (s_if (d_pw (d_and (d_tc (o_eq rfl hu) (d_bltn (c_len rfl) B.len (d_ab (d_w 4) d_an)) d_int) (d_and1 (d_tc (o_ne rfl hu) (d_op (o_mod) (d_btyp (c_int) B.int (d_ab (d_w 1) d_an)) d_int) d_int)))) (b_one (s_own 4 nd (d_lst (d_ac (d_ix (o_ix rfl) (d_w 0) (d_op (o_mod) (d_btyp (c_int) B.int (d_ab (d_w 1) d_an)) (d_bltn (c_len rfl) B.len (d_ab (d_w 0) d_an)))) d_an)))) b_nil)
    (b_cons (s_if (d_tc (o_eq rfl hu) (d_op (o_mod) (d_btyp (c_int) B.int (d_ab (d_w 2) d_an)) d_int) d_int) (b_one (s_own 4 nd (d_rev (d_w 4)))) b_nil)
    (b_cons (s_if (d_tc (o_eq rfl hu) (d_op (o_mod) (d_btyp (c_int) B.int (d_ab (d_w 2) d_an)) d_int) d_int) (b_one (s_own 4 nd (d_op (o_addL) (d_w 4) (d_sl rfl (d_w 4) d_on (d_os d_int))))) b_nil)
    (b_one (s_ret (d_btyp (c_tup rfl) B.tuple (d_ab (d_w 4) d_an))))))))))
  exact ⟨f, fd, ["_law_names", "_law_a", "_law_b"], rfl, z, mgf, F.kp, F.bindsN fun _ _ _ _ _ _ us hl => match us, hl with | [_, _, _], _ => rfl⟩
abbrev st__law_same : Stmt := topS 12
def m__law_same : FS :=
    (sSeq (sIf (tO (tNo (tT' (eC (f2 isiD) (aC (eW 0) (aC (eY "list") aN))))) (tB' (e2 neD (eW 0) (eW 1)))) (sRet (eB false)) sNil)
    (sSeq (sFor (fun S => (eV 0) S >>= itemsD) (gN 2) (sIf (tO (tNo (tT' (eC (f2 isiD) (aC (eW 2) (aC (eY "tuple") aN))))) (tB' (e2 gtD (eC (f1 lenD) (aC (lcE (fun S => (eV 2) S >>= itemsD) (gN 3) (tNo (tT' (eC (f2 isiD) (aC (eW 3) (aC (eY "str") aN))))) (eV 3) [3]) aN)) (eI (0))))) (sRet (eB false)) sNil))
    (sRet (eB true))))
def d__law_same : List D → R D := fun ds => (runF false 4 m__law_same ds).nox
theorem sc__law_same : FnScope ["_law_told", "_law_expected", "_law_chosen", "_law_name"] ["_law_told", "_law_expected"] (defScope st__law_same) := ⟨rfl, rfl, rfl, by decide +kernel, rfl, by decide +kernel, by decide +kernel⟩
theorem ok__law_same {f : Addr} {fd : FuncData} (F : FunD K "_law_same" "_law_same" (defArgs st__law_same) (defBody st__law_same) (defScope st__law_same) [] [] f fd) (mgf : mg "_law_same" = some (.ref f)) (B : Bt mg)  : Callee P w K mg base ⟨K, cl⟩ 1 "_law_same" 2 false d__law_same := by
  have nd : (["_law_told", "_law_expected", "_law_chosen", "_law_name"] : List Str).Nodup := sc__law_same.nd
  have z := fn_ok (P := P) (w := w) (mg := mg) (base := base) (k := ⟨K, cl⟩) (fr := false) (lv := 0) (as := [2]) (s := m__law_same) F sc__law_same fun cdv A outer sh H G0 hr => by
    have hu := hr.units
    have hu5 := hr.units5
    exact (b_cons (s_if (d_pw (d_or (d_not (d_tt rfl (d_bltn (c_isi rfl) B.isinstance (d_ab (d_w 0) (d_ab (d_ty "list" B.list) d_an))))) (d_or1 (d_tc (o_ne rfl hu) (d_w 0) (d_w 1))))) (b_one (s_ret d_bl)) b_nil)
    (b_cons (s_for PassesOwn.never rfl (i_seq rfl (d_v 0)) (g_n 2 nd) (b_one (s_if (d_pw (d_or (d_not (d_tt rfl (d_bltn (c_isi rfl) B.isinstance (d_ab (d_w 2) (d_ab (d_ty "tuple" B.tuple) d_an))))) (d_or1 (d_tc (o_gt) (d_bltn (c_len rfl) B.len (d_ab (d_lc [("_law_name", 3)] rfl nd (i_seq rfl (d_v 2)) (blkOk_by (N := ["_law_told", "_law_expected", "_law_chosen", "_law_name"]) (sc := (defScope st__law_same)) (by decide +kernel)) (fun _ _ _ _ _ => (g_n 3 nd)) (fun _ _ _ _ _ => (ts_1 (d_not (d_tt rfl (d_bltn (c_isi rfl) B.isinstance (d_ab (d_w 3) (d_ab (d_ty "str" B.str) d_an))))))) (fun _ _ _ _ _ => (d_v 3))) d_an)) d_int)))) (b_one (s_ret d_bl)) b_nil)))
    (b_one (s_ret d_bl))))
  exact ⟨f, fd, ["_law_told", "_law_expected"], rfl, z, mgf, F.kp, F.bindsN fun _ _ _ _ _ _ us hl => match us, hl with | [_, _], _ => rfl⟩
abbrev st_law : Stmt := topS 13
def m_law : FS :=
    (sSeq (sSet 1 (eC d__law_draws (aC (eV 0) (aC (eI (0)) (aC (eI (6)) aN)))))
    (sSeq (sSet 2 (eC d__law_draws (aC (eV 0) (aC (eI (1)) (aC (eI (14)) aN)))))
    (sSeq (sSet 3 (eL (aC (eS "supply") (aC (eS "gaps0") (aC (eS "b") (aC (eS "choice") (aC (eS "needs1") (aC (eS "gaps10") (aC (eS "") (aC (eS "aa") (aC (eS "gaps1") (aC (eS "B") (aC (eS "needs0") (aC (eS "z 9") aN))))))))))))))
    (sSeq (sSet 4 (e2 addD (eI (1)) (e2 modD (eC (f1 intD) (aC (e2 ixD (eW 1) (eI (0))) aN)) (eI (5)))))
    (sSeq (sIf (tB' (e2 eqD (e2 modD (eC (f1 intD) (aC (e2 fdivD (e2 ixD (eW 1) (eI (0))) (eI (5))) aN)) (eI (12))) (eI (11)))) (sSet 4 (eI (8))) sNil)
    (sSeq (sSet 6 (lcE (fun S => (aC (eW 4) aN) S >>= rng1) (gN 5) tY (e2 ixD (eW 3) (e2 modD (eC (f1 intD) (aC (e2 addD (e2 ixD (eW 1) (eI (1))) (e2 mulD (eW 5) (eI (5)))) aN)) (eI (12)))) [5]))
    (sSeq (sOwn 7 (eL aN))
    (sSeq (sFor (fun S => (aC (e2 modD (eC (f1 intD) (aC (e2 ixD (eW 1) (eI (2))) aN)) (eI (7))) aN) S >>= rng1) (gN 5) (sApp 7 (eC d__law_members (aC (eV 6) (aC (e2 ixD (eW 2) (e2 mulD (eI (2)) (eW 5))) (aC (e2 ixD (eW 2) (e2 addD (e2 mulD (eI (2)) (eW 5)) (eI (1)))) aN))))))
    (sSeq (sSet 8 (eC (f1 lstD) (aC (eW 7) aN)))
    (sSeq (sSet 9 (eC d__law_crossing (aC (eV 6) (aC (eV 8) aN))))
    (sSeq (sFz 7 (sOwn 10 (eC d_crossing (aC (eV 7) aN))))
    (sSeq (sIf (tO (tNo (tT' (eCB d__law_same (aC (eW 10) (aC (eW 9) aN))))) (tB' (e2 neD (eW 7) (eW 8)))) (sRet (eB false)) sNil)
    (sSeq (sApp 10 (eT (aC (eS "gaps2") aN)))
    (sSeq (sSet 11 (e2 addD (eW 8) (eL (aC (eC d__law_members (aC (eV 6) (aC (e2 ixD (eW 1) (eI (3))) (aC (e2 ixD (eW 1) (eI (4))) aN)))) aN))))
    (sSeq (sIf (tNo (tT' (eCB d__law_same (aC (eC d_crossing (aC (e1 revD (eW 8)) aN)) (aC (eW 9) aN))))) (sRet (eB false)) sNil)
    (sRet (eCB d__law_same (aC (eC d_crossing (aC (eV 11) aN)) (aC (eC d__law_crossing (aC (eV 6) (aC (eV 11) aN))) aN)))))))))))))))))))
def d_law : List D → R D := fun ds => (runF false 12 m_law ds).nox
theorem sc_law : FnScope ["_law_script", "_law_d", "_law_e", "_law_words", "_law_count", "_law_k", "_law_names", "_law_rows", "_law_kept", "_law_expected", "_law_told", "_law_more"] ["_law_script"] (defScope st_law) := ⟨rfl, rfl, rfl, by decide +kernel, rfl, by decide +kernel, by decide +kernel⟩
theorem ok_law {f : Addr} {fd : FuncData} (F : FunD K "law" "law" (defArgs st_law) (defBody st_law) (defScope st_law) [] [] f fd) (mgf : mg "law" = some (.ref f)) (B : Bt mg) (h__law_draws : Callee P w K mg base ⟨K, cl⟩ 2 "_law_draws" 3 false d__law_draws) (h__law_members : Callee P w K mg base ⟨K, cl⟩ 1 "_law_members" 3 false d__law_members) (h__law_crossing : Callee P w K mg base ⟨K, cl⟩ 2 "_law_crossing" 2 false d__law_crossing) (h_crossing : Callee P w K mg base ⟨K, cl⟩ 4 "crossing" 1 true d_crossing) (h__law_same : Callee P w K mg base ⟨K, cl⟩ 1 "_law_same" 2 false d__law_same) : FnOk P w K mg base CX0 5 f fd ["_law_script"] (SpF ⟨K, cl⟩ false 1 d_law) := by
  have nd : (["_law_script", "_law_d", "_law_e", "_law_words", "_law_count", "_law_k", "_law_names", "_law_rows", "_law_kept", "_law_expected", "_law_told", "_law_more"] : List Str).Nodup := sc_law.nd
  have z := fn_ok (P := P) (w := w) (mg := mg) (base := base) (k := ⟨K, cl⟩) (fr := false) (lv := 4) (as := [1, 2, 3, 4, 4, 6, 7, 5, 1007, 8, 9, 7, 10, 1010, 11]) (s := m_law) F sc_law fun cdv A outer sh H G0 hr => by
    have hu := hr.units
    have hu5 := hr.units5
    exact (b_cons (s_set 1 nd (d_callS (h__law_draws.at hr (by decide)) (d_ac (d_v 0) (d_ac d_int (d_ac d_int d_an))) (len_c (len_c (len_c len_n)))))
    (b_cons (s_set 2 nd (d_callS (h__law_draws.at hr (by decide)) (d_ac (d_v 0) (d_ac d_int (d_ac d_int d_an))) (len_c (len_c (len_c len_n)))))
    (b_cons (s_set 3 nd (d_z (d_lst (d_ac d_str (d_ac d_str (d_ac d_str (d_ac d_str (d_ac d_str (d_ac d_str (d_ac d_str (d_ac d_str (d_ac d_str (d_ac d_str (d_ac d_str (d_ac d_str d_an)))))))))))))))
    (b_cons (s_set 4 nd (d_op (o_add rfl) d_int (d_op (o_mod) (d_btyp (c_int) B.int (d_ab (d_ix (o_ix rfl) (d_w 1) d_int) d_an)) d_int)))
    (b_cons (s_if (d_tc (o_eq rfl hu) (d_op (o_mod) (d_btyp (c_int) B.int (d_ab (d_op (o_fdiv) (d_ix (o_ix rfl) (d_w 1) d_int) d_int) d_an)) d_int) d_int) (b_one (s_set 4 nd d_int)) b_nil)
    (b_cons (s_lcZ 6 [("_law_k", 5)] rfl nd (i_rng1 B.range (d_ab (d_w 4) d_an)) (blkOk_by (N := ["_law_script", "_law_d", "_law_e", "_law_words", "_law_count", "_law_k", "_law_names", "_law_rows", "_law_kept", "_law_expected", "_law_told", "_law_more"]) (sc := (defScope st_law)) (by decide +kernel)) (fun _ _ _ _ _ => (g_n 5 nd)) (fun _ _ _ _ _ => ts_n) (fun _ _ _ _ _ => (d_ix (o_ix rfl) (d_w 3) (d_op (o_mod) (d_btyp (c_int) B.int (d_ab (d_op (o_add rfl) (d_ix (o_ix rfl) (d_w 1) d_int) (d_op (o_mul rfl) (d_w 5) d_int)) d_an)) d_int))))
    (b_cons (s_own 7 nd (d_lst d_an))
    (b_cons (s_for PassesOwn.never rfl (i_rng1 B.range (d_ab (d_op (o_mod) (d_btyp (c_int) B.int (d_ab (d_ix (o_ix rfl) (d_w 1) d_int) d_an)) d_int) d_an)) (g_n 5 nd) (b_one (s_app 7 (d_callS (h__law_members.at hr (by decide)) (d_ac (d_v 6) (d_ac (d_ix (o_ix rfl) (d_w 2) (d_op (o_mul rfl) d_int (d_w 5))) (d_ac (d_ix (o_ix rfl) (d_w 2) (d_op (o_add rfl) (d_op (o_mul rfl) d_int (d_w 5)) d_int)) d_an))) (len_c (len_c (len_c len_n)))))))
    (b_cons (s_set 8 nd (d_z (d_btyp (c_lst rfl) B.list (d_ab (d_w 7) d_an))))
    (b_cons (s_set 9 nd (d_callS (h__law_crossing.at hr (by decide)) (d_ac (d_v 6) (d_ac (d_v 8) d_an)) (len_c (len_c len_n))))
    (b_cons (s_fz 7 (s_own 10 nd (d_callF (h_crossing.at hr (by decide)) (d_ac (d_v 7) d_an) (len_c len_n))))
    (b_cons (s_if (d_pw (d_or (d_not (d_tt rfl (d_callB (h__law_same.at hr (by decide)) (d_ab (d_w 10) (d_ab (d_w 9) d_an)) (len_c (len_c len_n))))) (d_or1 (d_tc (o_ne rfl hu) (d_w 7) (d_w 8))))) (b_one (s_ret d_bl)) b_nil)
    (b_cons (s_app 10 (d_tup (d_ac d_str d_an)))
    (b_cons (s_set 11 nd (d_op (o_add rfl) (d_w 8) (d_lst (d_ac (d_callS (h__law_members.at hr (by decide)) (d_ac (d_v 6) (d_ac (d_ix (o_ix rfl) (d_w 1) d_int) (d_ac (d_ix (o_ix rfl) (d_w 1) d_int) d_an))) (len_c (len_c (len_c len_n)))) d_an))))
    (b_cons (s_if (d_not (d_tt rfl (d_callB (h__law_same.at hr (by decide)) (d_ab (d_callF (h_crossing.at hr (by decide)) (d_ac (d_z (d_rev (d_w 8))) d_an) (len_c len_n)) (d_ab (d_w 9) d_an)) (len_c (len_c len_n))))) (b_one (s_ret d_bl)) b_nil)
    (b_one (s_ret (d_callB (h__law_same.at hr (by decide)) (d_ab (d_callF (h_crossing.at hr (by decide)) (d_ac (d_v 11) d_an) (len_c len_n)) (d_ab (d_callS (h__law_crossing.at hr (by decide)) (d_ac (d_v 6) (d_ac (d_v 11) d_an)) (len_c (len_c len_n))) d_an)) (len_c (len_c len_n))))))))))))))))))))
  exact z
end
end Pf
set_option Elab.async false
set_option linter.all false
set_option maxRecDepth 100000
namespace Pf
open M PySem L2
/-- draws -/
def drawn (n : Nat) (d : D) : Prop := ∃ l : List Int, d = .lst (l.map .int) ∧ l.length = n ∧ ∀ x ∈ l, 0 ≤ x ∧ x < 720720
def EN : List Str := ["", "a", "b", "c", "ab", "ac", "bc", "abc"]
def planD (p : List Str) : D := .tup (p.map .str)
structure Nd (p : List Str) (due : Int) : Prop where
  ne : 1 ≤ p.length
  le : p.length ≤ 4
  lo : (p.length : Int) ≤ due
  hi : due ≤ 8
  en : ∀ e ∈ p, e ∈ EN
def nodeD (p : List Str) (due : Int) : D := .tup [planD p, .int due]
def edgeD (u v g : Int) : D := .tup [.int u, .int v, .int g]
theorem drawn.ix {n : Nat} {d : D} (h : drawn n d) {i : Int} (h0 : 0 ≤ i) (h1 : i < n) : Ok (ixD d (.int i)) fun z => ∃ x : Int, z = .int x ∧ 0 ≤ x ∧ x < 720720 := by
  obtain ⟨l, rfl, hl, hm⟩ := h
  rw [k_ixL]
  obtain ⟨a, ha⟩ := atI_lt (xs := l.map D.int) h0 (by rw [List.length_map]; omega)
  obtain ⟨x, hx, rfl⟩ := List.mem_map.mp (atI_mem ha)
  exact ⟨_, ha, x, rfl, hm x hx⟩
theorem mod_b (x : Int) {m : Int} (h : 0 < m) : 0 ≤ x % m ∧ x % m < m := ⟨Int.emod_nonneg _ (by omega), Int.emod_lt_of_pos _ h⟩
theorem k_min2 {a b : Int} {Q : D → Prop} : Ok (min2D (.int a) (.int b)) Q ↔ Q (.int (if b < a then b else a)) := ok_ok
theorem k_max2 {a b : Int} {Q : D → Prop} : Ok (max2D (.int a) (.int b)) Q ↔ Q (.int (if b > a then b else a)) := ok_ok
theorem drawn.snoc {l : List Int} {n : Nat} {x : Int} (hm : l.length = n ∧ ∀ x ∈ l, 0 ≤ x ∧ x < 720720) (hx : 0 ≤ x ∧ x < 720720) : (l ++ [x]).length = n + 1 ∧ ∀ z ∈ l ++ [x], 0 ≤ z ∧ z < 720720 := by
  refine ⟨by simp [hm.1], fun z hz => ?_⟩
  rcases List.mem_append.mp hz with h | h
  · exact hm.2 z h
  · rw [List.mem_singleton] at h; subst h; exact hx
end Pf
set_option Elab.async false
set_option linter.all false
set_option maxRecDepth 100000
namespace Pf
open M PySem L2
mutual
theorem deq_self : ∀ (n : Nat) (d : D), dok n d = true → deq d d = true
  | _, .non, _ => by simp [deq]
  | _, .bl b, _ => by simp [deq]
  | _, .int b, _ => by simp [deq]
  | _, .str b, _ => by simp [deq]
  | n + 1, .tup xs, h => by simp only [dok] at h; simp only [deq]; exact deqs_self n xs h
  | n + 1, .lst xs, h => by simp only [dok] at h; simp only [deq]; exact deqs_self n xs h
  | 0, .tup xs, h => by simp [dok] at h
  | 0, .lst xs, h => by simp [dok] at h
  | n, .ty _, h => by cases n <;> simp [dok] at h
  | n, .dic _ _, h => by cases n <;> simp [dok] at h
  | n, .dit _ _, h => by cases n <;> simp [dok] at h
  | n, .obj _ _, h => by cases n <;> simp [dok] at h
  | n, .scr _, h => by cases n <;> simp [dok] at h
  | n, .cls _, h => by cases n <;> simp [dok] at h
theorem deqs_self : ∀ (n : Nat) (ds : List D), doks n ds = true → deqs ds ds = true
  | _, [], _ => by simp [deqs]
  | n, d :: ds, h => by
    simp only [doks, Bool.and_eq_true] at h
    simp only [deqs, Bool.and_eq_true]
    exact ⟨deq_self n d h.1, deqs_self n ds h.2⟩
end
theorem k_neS {d : D} (h : dok 60 d = true) {Q : D → Prop} : Ok (neD d d) Q ↔ Q (.bl false) := by
  have e : neD d d = .ok (.bl false) := by unfold neD; rw [h, deq_self 60 d h]; rfl
  rw [e, ok_ok]
theorem doks_map {α : Type} (f : α → D) (n : Nat) : ∀ (xs : List α), (∀ x ∈ xs, dok n (f x) = true) → doks n (xs.map f) = true
  | [], _ => by simp [doks]
  | x :: xs, h => by
    simp only [List.map_cons, doks, Bool.and_eq_true]
    exact ⟨h x (by simp), doks_map f n xs fun y hy => h y (by simp [hy])⟩
/-- a text of signs -/
def sg (c : Nat) : Str := ⟨#[c]⟩
def tx (cs : List Nat) : Str := ⟨cs.toArray⟩
theorem joinL_sg : ∀ cs : List Nat, TL.joinL [] (cs.map fun c => [c]) = cs
  | [] => rfl
  | [c] => rfl
  | c :: d :: r => by
    simp only [List.map_cons, TL.joinL, List.nil_append]
    have := joinL_sg (d :: r)
    simp only [List.map_cons] at this
    rw [this]; rfl
theorem join_sg (cs : List Nat) : Txt.join "" (cs.map sg) = tx cs := by
  have h := TL.tl_join "" (cs.map sg)
  rw [List.map_map] at h
  have h2 := joinL_sg cs
  have h3 : TL.tl (Str.join "" (cs.map sg)) = cs := by
    rw [h]; exact h2
  rw [TL.join_eq]
  generalize Str.join "" (cs.map sg) = x at h3
  obtain ⟨⟨l⟩⟩ := x
  show (⟨⟨l⟩⟩ : Str) = ⟨cs.toArray⟩
  have : l = cs := h3
  rw [this]
theorem asS_sg (cs : List Nat) : asS (cs.map fun c => D.str (sg c)) = some (cs.map sg) := by
  have := asS_map (cs.map sg)
  rwa [List.map_map] at this
theorem sum_sg (cs : List Nat) : ((cs.map sg).map (·.length)).sum = cs.length := by
  induction cs with
  | nil => rfl
  | cons c cs ih =>
    simp only [List.map_cons, List.sum_cons, ih, List.length_cons]
    show 1 + cs.length = cs.length + 1
    omega
theorem k_eM1 {o : D → D → R D} {f g : FE} {S : M.Env} {Q : D → Prop} : Ok (eM1 o f g S) Q ↔ Ok (f S) fun x => isS x = true ∧ Ok (g S) fun y => Ok (o x y) Q := by
  unfold eM1; simp only [ok_bind, ok_if, ok_nox]
theorem k_join (cs : List Nat) (h : cs.length ≤ 1000) {Q : D → Prop} : Ok (joinD (.str "") (.lst (cs.map fun c => .str (sg c)))) Q ↔ Q (.str (tx cs)) := by
  have e : joinD (.str "") (.lst (cs.map fun c => .str (sg c))) = .ok (.str (tx cs)) := by
    unfold joinD
    simp only [asS_sg]
    rw [if_pos (by rw [sum_sg, List.length_map]; show cs.length + cs.length * 0 ≤ _; omega), join_sg]
  rw [e, ok_ok]
theorem k_inS {c : Nat} {z : Str} {Q : D → Prop} : Ok (inD (.str (sg c)) (.str z)) Q ↔ Q (.bl (decide (c ∈ z.cps.toList))) := ok_ok
theorem k_notInS {c : Nat} {z : Str} {Q : D → Prop} : Ok (notInD (.str (sg c)) (.str z)) Q ↔ Q (.bl (!decide (c ∈ z.cps.toList))) := ok_ok
theorem k_itS {x : Str} {Q : List D → Prop} : Ok (itemsD (.str x)) Q ↔ Q (x.cps.toList.map fun c => .str (sg c)) := ok_ok
/-- a comprehension whose items are not told one by one -/
theorem lc_any {ga : FG} {fe : FE} {S : M.Env} {P : D → Prop} : ∀ {ds : List D}, (∀ d ∈ ds, Ok (ga d S) fun S1 => Ok (fe S1) P) → Ok (lcF ga tY fe S ds) fun ys => ys.length = ds.length ∧ ∀ y ∈ ys, P y
  | [], _ => ok_ok.mpr ⟨rfl, by simp⟩
  | d :: ds, h => by
    obtain ⟨S1, e1, y, e2, py⟩ := h d (by simp)
    obtain ⟨ys, e3, l3, p3⟩ := lc_any (P := P) (ds := ds) fun x hx => h x (by simp [hx])
    refine ⟨y :: ys, ?_, by simp [l3], fun x hx => ?_⟩
    · show ((ga d S).nox >>= fun S1 => (tY S1).nox >>= fun b => if b then ((fe S1).nox >>= fun y => lcF ga tY fe S ds >>= fun ys => R.ok (y :: ys)) else lcF ga tY fe S ds) = _
      rw [e1, R.nox_ok, R.ok_bind]
      show (R.ok true).nox >>= _ = _
      rw [R.nox_ok, R.ok_bind, if_pos rfl, e2, R.nox_ok, R.ok_bind, e3, R.ok_bind]
    · rcases List.mem_cons.mp hx with rfl | hx
      · exact py
      · exact p3 x hx
theorem k_lcA {fi : FI} {ga : FG} {fe : FE} {vs : List Nat} {S : M.Env} {Q : D → Prop} {P : D → Prop} (n : Nat) (hn : n ≤ sizeLine) (hi : Ok (fi S) fun ds => ds.length = n ∧ ∀ d ∈ ds, Ok (ga d (wipeS S vs)) fun S1 => Ok (fe S1) P) (q : ∀ ys, ys.length = n → (∀ y ∈ ys, P y) → Q (.lst ys)) : Ok (lcE fi ga tY fe vs S) Q := by
  rw [k_lc]
  obtain ⟨ds, e, hl, h⟩ := hi
  refine ⟨ds, e, by omega, ?_⟩
  exact (lc_any h).mono fun ys ⟨l, p⟩ => q ys (by omega) p
theorem k_ext {i : Nat} {f : FE} {S : M.Env} {QS : Fl × M.Env → Prop} : Ok (sExt i f S) QS ↔ Ok (ownL i S) fun ds => Ok (f S) fun d => ∃ es, d = .lst es ∧ ds.length + es.length ≤ sizeLine ∧ QS (.nx, S.set i (some ⟨true, .lst (ds ++ es)⟩)) := by
  unfold sExt
  rw [ok_bind]
  apply iff_of_eq
  congr 1
  funext ds
  rw [ok_bind]
  congr 1
  funext d
  refine propext ?_
  cases d with
  | lst es =>
    simp only [ok_if, ok_ok]
    exact ⟨fun h => ⟨es, rfl, h.1, h.2⟩, fun ⟨es', e, h⟩ => by cases e; exact h⟩
  | _ => simp only [ok_fail]; exact ⟨False.elim, fun ⟨_, e, _⟩ => nomatch e⟩
theorem pass_if {t : FT} {s r : FS} {S : M.Env} {QS : Fl × M.Env → Prop} (h : Ok (t S) fun b => b = false) (k : Ok (r S) QS) : Ok (sSeq (sIf t s sNil) r S) QS := by
  refine seq_cut (fun S' => S' = S) ?_ (fun S' e => by rw [e]; exact k)
  rw [k_if]
  refine h.mono fun b hb => ?_
  subst hb
  (try simp only [↓k_guard, k_no, k_I, k_S, k_B, k_N, k_G, k_Y, k_V, k_W, k_O, g0_z, g0_s, gA_z, gA_s, g1_z, g1_s, k_1, k_2, k_n, k_c, k_T, k_L, k_C, k_f1, k_f2, k_App, k_M, k_P, k_3, k_tB, k_tT, k_toB, k_tNo, k_tA, k_tO, k_tY, k_And, k_Or, k_Not, k_eIf, k_nil, k_seq, k_set, k_own, k_drop, k_ret, k_retN, k_retO, k_if, k_fz, fz_z, fz_s, k_gN, k_gsN, k_gsC, k_gT, k_asg, k_for, k_fnil, k_fcons, k_app, oL_z, oL_s, k_par, k_run, k_runN, k_fld, oO_z, k_add, k_addL, k_sub, k_mul, k_div, k_mod, k_pow, k_neg, k_lt, k_le, k_gt, k_ge, k_eqI, k_neI, k_int, k_intB, k_abs, k_lenL, k_lenT, k_lenC, k_tru, k_tupL, k_tupT, k_items_l, k_items_t, k_rng1, k_ixL, k_ixT, k_ixC, k_fldD, ok_nox, ok_ok, ok_bind, List.set_cons_zero, List.set_cons_succ, startS, startN, List.map_cons, List.map_nil, List.cons_append, List.nil_append, List.append_nil, List.length_cons, List.length_nil, List.replicate, Nat.reduceSub, Nat.reduceAdd, Nat.reduceLeDiff, Nat.zero_add, true_and, and_true, false_implies, true_implies, implies_true, forall_const, reduceCtorEq, Bool.not_true, Bool.not_false, Bool.not_eq_true'])
theorem k_while {t : FT} {s : FS} {n : Nat} {S : M.Env} {QS : Fl × M.Env → Prop} : Ok (whileF t s (n + 1) S) QS ↔ Ok (t S) fun b => (b = true → Ok (s S) fun z => match z.1 with
    | .nx => Ok (whileF t s n z.2) QS
    | .ct => Ok (whileF t s n z.2) QS
    | .bk => QS (.nx, z.2)
    | .rt d => QS (.rt d, z.2)) ∧ (b = false → QS (.nx, S)) := by
  show Ok (t S >>= _) QS ↔ _
  rw [ok_bind]
  apply iff_of_eq
  congr 1
  funext b
  refine propext ?_
  rw [ok_b, ok_ok, ok_bind]
  apply iff_of_eq
  congr 3
  funext z
  obtain ⟨fl, S'⟩ := z
  cases fl <;> simp [ok_ok]
theorem k_aug {i : Nat} {o : D → D → R D} {f : FE} {S : M.Env} {QS : Fl × M.Env → Prop} : Ok (sAugI i o f S) QS ↔ Ok (eV i S) fun x => Ok (f S) fun y => bothI x y = true ∧ Ok (o x y) fun d => QS (.nx, S.set i (some ⟨false, d⟩)) := by
  unfold sAugI; simp only [ok_bind, ok_nox, ok_if, ok_ok]
theorem bothI_i {a b : Int} : bothI (.int a) (.int b) = true := rfl
end Pf
set_option Elab.async false
set_option linter.all false
namespace CX
section
variable {α : Type} [BEq α] [LawfulBEq α]
structure TO {β : Type} (le : β → β → Bool) : Prop where
  tr : ∀ a b c, le a b = true → le b c = true → le a c = true
  to : ∀ a b, (le a b || le b a) = true
def Hit (rows : List (List α)) (T : List α) : Prop := ∀ r ∈ rows, ∃ x ∈ T, x ∈ r
def inc (a b : List α) : Bool := b.all fun x => a.contains x
theorem inc_iff {a b : List α} : inc a b = true ↔ b ⊆ a := by
  unfold inc
  simp only [List.all_eq_true, List.contains_iff_mem]
  exact Iff.rfl
def lstep (found : List (List α)) (c : List α) : List (List α) := if found.any (inc c) then found else found ++ [c]
theorem lfold : ∀ (s acc : List (List α)), ∃ R, s.foldl lstep acc = acc ++ R ∧ R.Sublist s ∧ (∀ c ∈ s, ∃ r ∈ acc ++ R, r ⊆ c) ∧ (acc.Pairwise (fun a b => ¬ a ⊆ b) → (acc ++ R).Pairwise fun a b => ¬ a ⊆ b)
  | [], acc => ⟨[], by simp, .slnil, by simp, by simp⟩
  | c :: s, acc => by
    rw [List.foldl_cons]
    by_cases h : acc.any (inc c) = true
    · have e : lstep acc c = acc := by unfold lstep; rw [if_pos h]
      obtain ⟨R, h1, h2, h3, h4⟩ := lfold s acc
      refine ⟨R, by rw [e, h1], .cons _ h2, fun x hx => ?_, h4⟩
      rcases List.mem_cons.mp hx with rfl | hx
      · obtain ⟨r, hr, hi⟩ := List.any_eq_true.mp h
        exact ⟨r, List.mem_append_left _ hr, inc_iff.mp hi⟩
      · exact h3 x hx
    · have e : lstep acc c = acc ++ [c] := by unfold lstep; rw [if_neg h]
      obtain ⟨R, h1, h2, h3, h4⟩ := lfold s (acc ++ [c])
      refine ⟨c :: R, by rw [e, h1]; simp, .cons_cons _ h2, fun x hx => ?_, fun hp => ?_⟩
      · rcases List.mem_cons.mp hx with rfl | hx
        · exact ⟨x, by simp, fun _ z => z⟩
        · obtain ⟨r, hr, hs⟩ := h3 x hx
          exact ⟨r, by simpa using hr, hs⟩
      · have := h4 (by
          rw [List.pairwise_append]
          refine ⟨hp, by simp, fun a ha b hb z => h ?_⟩
          rw [List.mem_singleton] at hb; subst hb
          exact List.any_eq_true.mpr ⟨a, ha, inc_iff.mpr z⟩)
        simpa using this
variable (le : α → α → Bool) (kle : List α → List α → Bool)
def leastOf (l : List (List α)) : List (List α) := (l.mergeSort kle).foldl lstep []
def ext (row : List α) (c : List α) : List (List α) := if c.any (row.contains ·) then [c] else row.map fun m => (c ++ [m]).mergeSort le
def cross1 (F : List (List α)) (row : List α) : List (List α) := leastOf kle (F.flatMap (ext le row))
def cross (rows : List (List α)) : List (List α) := rows.foldl (cross1 le kle) [[]]
structure Inv (names : List α) (rows : List (List α)) (F : List (List α)) : Prop where
  as : ∀ T ∈ F, T.Pairwise (fun a b => le a b = true) ∧ T.Nodup ∧ T ⊆ names
  hit : ∀ T ∈ F, Hit rows T
  cov : ∀ T, Hit rows T → ∃ S ∈ F, S ⊆ T
  an : F.Pairwise fun a b => ¬ a ⊆ b
  so : F.Pairwise fun a b => kle a b = true
variable {le kle}
theorem cross1_inv (L : TO le) (KL : TO kle) {names : List α} {rows : List (List α)} {row : List α} {F : List (List α)} (h : Inv le kle names rows F) (hr : row ⊆ names) : Inv le kle names (rows ++ [row]) (cross1 le kle F row) := by
  obtain ⟨R, e1, e2, e3, e4⟩ := lfold ((F.flatMap (ext le row)).mergeSort kle) []
  have eR : cross1 le kle F row = R := by unfold cross1 leastOf; rw [e1]; simp
  have hm : ∀ T ∈ R, ∃ S ∈ F, T ∈ ext le row S := fun T hT => by
    have := List.mem_mergeSort.mp (e2.subset hT)
    exact List.mem_flatMap.mp this
  have hx : ∀ S ∈ F, ∀ T ∈ ext le row S, S ⊆ T ∧ (T.Pairwise (fun a b => le a b = true) ∧ T.Nodup ∧ T ⊆ names) ∧ ∃ x ∈ T, x ∈ row := fun S hS T hT => by
    obtain ⟨s1, s2, s3⟩ := h.as S hS
    unfold ext at hT
    split at hT
    · rename_i ha
      rw [List.mem_singleton] at hT; subst hT
      obtain ⟨x, hx, hr⟩ := List.any_eq_true.mp ha
      exact ⟨fun _ z => z, ⟨s1, s2, s3⟩, x, hx, by simpa using hr⟩
    · rename_i ha
      obtain ⟨m, hm, rfl⟩ := List.mem_map.mp hT
      have hmS : m ∉ S := fun z => ha (List.any_eq_true.mpr ⟨m, z, by simpa using hm⟩)
      have hp := List.mergeSort_perm (S ++ [m]) le
      refine ⟨fun x hx => hp.mem_iff.mpr (by simp [hx]), ⟨List.pairwise_mergeSort L.tr L.to _, hp.nodup_iff.mpr ?_, fun x hx => ?_⟩, m, hp.mem_iff.mpr (by simp), hm⟩
      · rw [List.nodup_append]
        exact ⟨s2, by simp, fun a ha b hb => by rw [List.mem_singleton] at hb; subst hb; exact fun z => hmS (z ▸ ha)⟩
      · have := hp.mem_iff.mp hx
        rcases List.mem_append.mp this with q | q
        · exact s3 q
        · rw [List.mem_singleton] at q; subst q; exact hr hm
  rw [eR]
  refine ⟨fun T hT => ?_, fun T hT => ?_, fun T hT => ?_, by simpa using e4 .nil, (List.pairwise_mergeSort KL.tr KL.to _).sublist e2⟩
  · obtain ⟨S, hS, hT⟩ := hm T hT
    exact (hx S hS T hT).2.1
  · obtain ⟨S, hS, hT⟩ := hm T hT
    obtain ⟨h1, _, x, hx1, hx2⟩ := hx S hS T hT
    intro r hr
    rcases List.mem_append.mp hr with hr | hr
    · obtain ⟨y, y1, y2⟩ := h.hit S hS r hr
      exact ⟨y, h1 y1, y2⟩
    · rw [List.mem_singleton] at hr; subst hr
      exact ⟨x, hx1, hx2⟩
  · obtain ⟨S, hS, hST⟩ := h.cov T fun r hr => hT r (by simp [hr])
    have : ∃ U ∈ ext le row S, U ⊆ T := by
      unfold ext
      split
      · exact ⟨S, by simp, hST⟩
      · obtain ⟨m, hm1, hm2⟩ := hT row (by simp)
        refine ⟨_, List.mem_map.mpr ⟨m, hm2, rfl⟩, fun x hx => ?_⟩
        have := (List.mergeSort_perm (S ++ [m]) le).mem_iff.mp hx
        rcases List.mem_append.mp this with q | q
        · exact hST q
        · rw [List.mem_singleton] at q; subst q; exact hm1
    obtain ⟨U, hU, hUT⟩ := this
    obtain ⟨r, hr, hrU⟩ := e3 U (List.mem_mergeSort.mpr (List.mem_flatMap.mpr ⟨S, hS, hU⟩))
    exact ⟨r, by simpa using hr, fun x hx => hUT (hrU hx)⟩
theorem cross_inv (L : TO le) (KL : TO kle) {names : List α} : ∀ (rows done F : List (List α)), (∀ r ∈ rows, r ⊆ names) → Inv le kle names done F → Inv le kle names (done ++ rows) (rows.foldl (cross1 le kle) F)
  | [], done, F, _, h => by simpa using h
  | r :: rows, done, F, hr, h => by
    rw [List.foldl_cons]
    have := cross_inv L KL rows (done ++ [r]) _ (fun x hx => hr x (by simp [hx])) (cross1_inv L KL h (hr r (by simp)))
    simpa using this
theorem inv0 (names : List α) : Inv le kle names [] [[]] := ⟨fun T hT => by simp at hT; subst hT; simp, fun T _ r hr => by simp at hr, fun T _ => ⟨[], by simp, by simp⟩, by simp, by simp⟩
theorem cross_ok (L : TO le) (KL : TO kle) {names : List α} {rows : List (List α)} (hr : ∀ r ∈ rows, r ⊆ names) : Inv le kle names rows (cross le kle rows) := by
  have z := cross_inv L KL rows [] [[]] hr (inv0 names)
  rw [List.nil_append] at z
  exact z
/-- minimal -/
def Min (rows : List (List α)) (T : List α) : Prop := Hit rows T ∧ ∀ x ∈ T, ¬ Hit rows (T.filter fun y => y != x)
theorem sub_filter {S T : List α} {x : α} (h : S ⊆ T.filter fun y => y != x) : S ⊆ T := fun y hy => (List.mem_filter.mp (h hy)).1
theorem filter_lt {T : List α} {x : α} (h : x ∈ T) : (T.filter fun y => y != x).length < T.length := by
  have h1 := List.length_filter_le (fun y => y != x) T
  rcases Nat.lt_or_ge (T.filter fun y => y != x).length T.length with q | q
  · exact q
  · have e := List.length_filter_eq_length_iff.mp (Nat.le_antisymm h1 q) x h
    simp at e
theorem sorted_sub (L : TO le) (hanti : ∀ a b, le a b = true → le b a = true → a = b) : ∀ {T N : List α}, T.Pairwise (fun a b => le a b = true) → T.Nodup → N.Pairwise (fun a b => le a b = true) → T ⊆ N → T.Sublist N
  | [], N, _, _, _, _ => by simp
  | t :: T, [], _, _, _, h => by have := h (List.mem_cons_self (a := t) (l := T)); simp at this
  | t :: T, n :: N, h1, h2, h3, h => by
    rw [List.pairwise_cons] at h1 h3
    rw [List.nodup_cons] at h2
    by_cases e : t = n
    · subst e
      refine .cons_cons _ (sorted_sub L hanti h1.2 h2.2 h3.2 fun x hx => ?_)
      rcases List.mem_cons.mp (h (List.mem_cons_of_mem _ hx)) with q | q
      · subst q; exact absurd hx h2.1
      · exact q
    · have ht : t ∈ N := by
        rcases List.mem_cons.mp (h (List.mem_cons_self ..)) with q | q
        · exact absurd q e
        · exact q
      refine .cons _ (sorted_sub L hanti (List.pairwise_cons.mpr h1) (List.nodup_cons.mpr h2) h3.2 fun x hx => ?_)
      rcases List.mem_cons.mp (h hx) with q | q
      · subst q
        rcases List.mem_cons.mp hx with z | z
        · exact absurd z.symm e
        · exact absurd (hanti _ _ (h1.1 _ z) (h3.1 _ ht)) e
      · exact q
theorem inv_mem (L : TO le) (hanti : ∀ a b, le a b = true → le b a = true → a = b) (hk : ∀ a b, kle a b = true → a.length ≤ b.length) {names : List α} {rows F : List (List α)} (h : Inv le kle names rows F) (T : List α) :
    T ∈ F ↔ T.Pairwise (fun a b => le a b = true) ∧ T.Nodup ∧ T ⊆ names ∧ Min rows T := by
  constructor
  · intro hT
    obtain ⟨a, b, c⟩ := h.as T hT
    refine ⟨a, b, c, h.hit T hT, fun x hx hh => ?_⟩
    obtain ⟨S, hS, hs⟩ := h.cov _ hh
    have hl := (h.as S hS).2.1.length_le_of_subset hs
    have hlt := filter_lt hx
    have hST : S ⊆ T := sub_filter hs
    have key : ∀ {F : List (List α)}, F.Pairwise (fun a b => ¬ a ⊆ b) → F.Pairwise (fun a b => kle a b = true) → S ∈ F → T ∈ F → False := by
      intro F
      induction F with
      | nil => intro _ _ h; simp at h
      | cons f F ih =>
        intro p1 p2 q1 q2
        rw [List.pairwise_cons] at p1 p2
        rcases List.mem_cons.mp q1 with e1 | e1 <;> rcases List.mem_cons.mp q2 with e2 | e2
        · subst e1; subst e2; omega
        · subst e1; exact p1.1 T e2 hST
        · subst e2; have := hk _ _ (p2.1 S e1); omega
        · exact ih p1.2 p2.2 e1 e2
    exact key h.an h.so hS hT
  · rintro ⟨a, b, c, d, e⟩
    obtain ⟨S, hS, hs⟩ := h.cov T d
    obtain ⟨a', b', c'⟩ := h.as S hS
    have : T ⊆ S := fun x hx => by
      by_cases q : x ∈ S
      · exact q
      · refine absurd (fun r hr => ?_) (e x hx)
        obtain ⟨y, y1, y2⟩ := h.hit S hS r hr
        refine ⟨y, List.mem_filter.mpr ⟨hs y1, ?_⟩, y2⟩
        simp only [bne_iff_ne, ne_eq]
        rintro rfl; exact q y1
    have p : S.Perm T := (List.perm_ext_iff_of_nodup b' b).mpr fun x => ⟨fun z => hs z, fun z => this z⟩
    rw [← List.Perm.eq_of_pairwise (fun x y _ _ => hanti x y) a' a p]
    exact hS
/-- the law's own list -/
def sets (ns : List α) : List (List α) := ns.foldl (fun acc n => acc ++ acc.map (· ++ [n])) [[]]
theorem mem_sets_aux : ∀ (ns : List α) (acc : List (List α)) (T : List α), T ∈ ns.foldl (fun acc n => acc ++ acc.map (· ++ [n])) acc ↔ ∃ S ∈ acc, ∃ U, U.Sublist ns ∧ T = S ++ U
  | [], acc, T => by simp
  | n :: ns, acc, T => by
    rw [List.foldl_cons, mem_sets_aux ns]
    constructor
    · rintro ⟨S, hS, U, hU, rfl⟩
      rcases List.mem_append.mp hS with q | q
      · exact ⟨S, q, U, .cons _ hU, rfl⟩
      · obtain ⟨S', hS', rfl⟩ := List.mem_map.mp q
        exact ⟨S', hS', n :: U, .cons_cons _ hU, by simp⟩
    · rintro ⟨S, hS, U, hU, rfl⟩
      cases hU with
      | cons _ hU => exact ⟨S, by simp [hS], U, hU, rfl⟩
      | @cons_cons U' _ _ hU => exact ⟨S ++ [n], List.mem_append_right _ (List.mem_map.mpr ⟨S, hS, rfl⟩), U', hU, by simp⟩
theorem mem_sets {ns T : List α} : T ∈ sets ns ↔ T.Sublist ns := by
  unfold sets
  rw [mem_sets_aux]
  simp
theorem nodup_sets_aux : ∀ (ns : List α) (acc : List (List α)), acc.Nodup → ns.Nodup → (∀ S ∈ acc, ∀ n ∈ ns, n ∉ S) → (ns.foldl (fun acc n => acc ++ acc.map (· ++ [n])) acc).Nodup
  | [], acc, h, _, _ => h
  | n :: ns, acc, h, hn, hd => by
    rw [List.foldl_cons]
    rw [List.nodup_cons] at hn
    refine nodup_sets_aux ns _ ?_ hn.2 fun S hS m hm => ?_
    · rw [List.nodup_append]
      refine ⟨h, ?_, fun a ha b hb => ?_⟩
      · refine List.pairwise_map.mpr (List.Pairwise.imp (fun {a b} hne z => hne (List.append_cancel_right z)) h)
      · obtain ⟨S, hS, rfl⟩ := List.mem_map.mp hb
        rintro rfl
        exact hd _ ha n (List.mem_cons_self ..) (by simp)
    · rcases List.mem_append.mp hS with q | q
      · exact hd S q m (List.mem_cons_of_mem _ hm)
      · obtain ⟨S', hS', rfl⟩ := List.mem_map.mp q
        intro z
        rcases List.mem_append.mp z with z | z
        · exact hd S' hS' m (List.mem_cons_of_mem _ hm) z
        · rw [List.mem_singleton] at z; subst z; exact hn.1 hm
theorem nodup_sets {ns : List α} (h : ns.Nodup) : (sets ns).Nodup := nodup_sets_aux ns [[]] (by simp) h (by simp)
theorem sets_len_aux : ∀ (ns : List α) (acc : List (List α)), (ns.foldl (fun acc n => acc ++ acc.map (· ++ [n])) acc).length = acc.length * 2 ^ ns.length
  | [], acc => by simp
  | n :: ns, acc => by rw [List.foldl_cons, sets_len_aux ns]; simp [Nat.pow_succ]; rw [← Nat.two_mul, Nat.mul_comm 2, Nat.mul_assoc, Nat.mul_comm 2]
theorem sets_len {ns : List α} : (sets ns).length = 2 ^ ns.length := by unfold sets; rw [sets_len_aux]; simp
variable (le kle) in
def lawList (p : List α → Bool) (names : List α) : List (List α) := ((sets (names.mergeSort le)).filter p).mergeSort kle
theorem main (L : TO le) (KL : TO kle) (hanti : ∀ a b, le a b = true → le b a = true → a = b) (hk : ∀ a b, kle a b = true → a.length ≤ b.length) (kanti : ∀ a b, kle a b = true → kle b a = true → a = b) {names : List α} (hn : names.Nodup)
    {rows F : List (List α)} (h : Inv le kle names rows F) {p : List α → Bool} (hp : ∀ T, T ⊆ names → (p T = true ↔ Min rows T)) : F = lawList le kle p names := by
  have hpm := List.mergeSort_perm names le
  have hps : (names.mergeSort le).Pairwise fun a b => le a b = true := List.pairwise_mergeSort L.tr L.to names
  have nF : F.Nodup := h.an.imp fun {a b} z (e : a = b) => z (by rw [e]; exact fun _ y => y)
  have nL : ((sets (names.mergeSort le)).filter p).Nodup := (nodup_sets (hpm.nodup_iff.mpr hn)).filter _
  have pm : F.Perm ((sets (names.mergeSort le)).filter p) := (List.perm_ext_iff_of_nodup nF nL).mpr fun T => by
    rw [inv_mem L hanti hk h, List.mem_filter, mem_sets]
    constructor
    · rintro ⟨a, b, c, d⟩
      exact ⟨sorted_sub L hanti a b hps fun x hx => hpm.mem_iff.mpr (c hx), (hp T c).mpr d⟩
    · rintro ⟨a, b⟩
      have c : T ⊆ names := fun x hx => hpm.mem_iff.mp (a.subset hx)
      exact ⟨hps.sublist a, (hpm.nodup_iff.mpr hn).sublist a, c, (hp T c).mp b⟩
  unfold lawList
  exact List.Perm.eq_of_pairwise (fun x y _ _ => kanti x y) h.so (List.pairwise_mergeSort KL.tr KL.to _) (pm.trans (List.mergeSort_perm _ _).symm)
/-- how many there can be -/
theorem inv_len (L : TO le) (hanti : ∀ a b, le a b = true → le b a = true → a = b) {names : List α} (hn : names.Nodup) {rows F : List (List α)} (h : Inv le kle names rows F) : F.length ≤ 2 ^ names.length := by
  have nF : F.Nodup := h.an.imp fun {a b} z (e : a = b) => z (by rw [e]; exact fun _ y => y)
  have hpm := List.mergeSort_perm names le
  have : F ⊆ sets (names.mergeSort le) := fun T hT => mem_sets.mpr (by
    obtain ⟨a, b, c⟩ := h.as T hT
    exact sorted_sub L hanti a b (List.pairwise_mergeSort L.tr L.to names) fun x hx => hpm.mem_iff.mpr (c hx))
  have := nF.length_le_of_subset this
  rwa [sets_len, hpm.length_eq] at this
end
end CX
namespace CX
section
variable {α : Type} [BEq α] [LawfulBEq α] {le : α → α → Bool}
theorem ext_sub {N row S : List α} (hr : row ⊆ N) (hS : S ⊆ N) : ∀ T ∈ ext le row S, T ⊆ N ∧ T.length ≤ S.length + 1 := fun T hT => by
  unfold ext at hT
  split at hT
  · rw [List.mem_singleton] at hT; subst hT; exact ⟨hS, by omega⟩
  · obtain ⟨m, hm, rfl⟩ := List.mem_map.mp hT
    refine ⟨fun x hx => ?_, by rw [List.length_mergeSort]; simp⟩
    have := (List.mergeSort_perm (S ++ [m]) le).mem_iff.mp hx
    rcases List.mem_append.mp this with q | q
    · exact hS q
    · rw [List.mem_singleton] at q; subst q; exact hr hm
theorem ext_len {row S : List α} : (ext le row S).length ≤ 1 + row.length := by
  unfold ext
  split
  · simp
  · rw [List.length_map]; omega
theorem flat_len {row : List α} : ∀ F : List (List α), (F.flatMap (ext le row)).length ≤ F.length * (1 + row.length)
  | [] => by simp
  | S :: F => by
    rw [List.flatMap_cons, List.length_append, List.length_cons, Nat.succ_mul]
    have : (F.flatMap (ext le row)).length ≤ F.length * (1 + row.length) := flat_len F
    have := ext_len (le := le) (row := row) (S := S)
    omega
end
end CX
namespace CX
theorem lstep_t {α : Type} [BEq α] {found : List (List α)} {c : List α} (h : found.any (inc c) = true) : lstep found c = found := if_pos (by simpa using h)
theorem lstep_f {α : Type} [BEq α] {found : List (List α)} {c : List α} (h : found.any (inc c) = false) : lstep found c = found ++ [c] := if_neg (by simpa using h)
end CX
set_option Elab.async false
set_option linter.all false
set_option maxRecDepth 100000
namespace Pf
open M PySem L2
theorem p_cell (ns : List Int) (at_ : Int) (ha : 0 ≤ at_) : Ok (d__law_cell [.scr ns, .int at_]) fun d => ∃ z : Int, d = .int z := by
  unfold d__law_cell m__law_cell
  rw [ok_nox, k_run]
  (try simp only [↓k_guard, k_no, k_I, k_S, k_B, k_N, k_G, k_Y, k_V, k_W, k_O, g0_z, g0_s, gA_z, gA_s, g1_z, g1_s, k_1, k_2, k_n, k_c, k_T, k_L, k_C, k_f1, k_f2, k_App, k_M, k_P, k_3, k_tB, k_tT, k_toB, k_tNo, k_tA, k_tO, k_tY, k_And, k_Or, k_Not, k_eIf, k_nil, k_seq, k_set, k_own, k_drop, k_ret, k_retN, k_retO, k_if, k_fz, fz_z, fz_s, k_gN, k_gsN, k_gsC, k_gT, k_asg, k_for, k_fnil, k_fcons, k_app, oL_z, oL_s, k_par, k_run, k_runN, k_fld, oO_z, k_add, k_addL, k_sub, k_mul, k_div, k_mod, k_pow, k_neg, k_lt, k_le, k_gt, k_ge, k_eqI, k_neI, k_int, k_intB, k_abs, k_lenL, k_lenT, k_lenC, k_tru, k_tupL, k_tupT, k_items_l, k_items_t, k_rng1, k_ixL, k_ixT, k_ixC, k_fldD, ok_nox, ok_ok, ok_bind, List.set_cons_zero, List.set_cons_succ, startS, startN, List.map_cons, List.map_nil, List.cons_append, List.nil_append, List.append_nil, List.length_cons, List.length_nil, List.replicate, Nat.reduceSub, Nat.reduceAdd, Nat.reduceLeDiff, Nat.zero_add, true_and, and_true, false_implies, true_implies, implies_true, forall_const, reduceCtorEq, Bool.not_true, Bool.not_false, Bool.not_eq_true'])
  refine ⟨fun h => ?_, fun h => ⟨fun h2 => ?_, fun h2 => ⟨_, rfl⟩⟩⟩
  · obtain ⟨d, hd⟩ := atI_lt ha (of_decide_eq_true h)
    exact ⟨d, hd, _, rfl⟩
  · have h2 := of_decide_eq_true h2
    obtain ⟨d, hd⟩ := atI_lt (xs := ns) (i := 0) (by omega) (by omega)
    exact ⟨d, hd, ⟨by omega, by omega, by decide⟩, by decide, _, rfl⟩
theorem p_draws (ns : List Int) (at_ : Int) (cnt : Nat) (ha : 0 ≤ at_) (ha2 : at_ < 100) (hc : cnt ≤ 100) : Ok (d__law_draws [.scr ns, .int at_, .int cnt]) (drawn cnt) := by
  have hs := size_ge
  unfold d__law_draws m__law_draws
  rw [ok_nox, k_run]
  refine Ok.mono (P := fun z => ∃ d, z.1 = .rt d ∧ drawn cnt d) ?_ fun z ⟨d, e, h⟩ => by rw [e]; exact h
  refine seq_cut (fun S => ∃ cell : Int, S = [(some (Sl.mk false (.scr ns))), (some (Sl.mk false (.int at_))), (some (Sl.mk false (.int cnt))), (some (Sl.mk false (.int cell))), none, none, none, none]) ?_ ?_
  · (try simp only [↓k_guard, k_no, k_I, k_S, k_B, k_N, k_G, k_Y, k_V, k_W, k_O, g0_z, g0_s, gA_z, gA_s, g1_z, g1_s, k_1, k_2, k_n, k_c, k_T, k_L, k_C, k_f1, k_f2, k_App, k_M, k_P, k_3, k_tB, k_tT, k_toB, k_tNo, k_tA, k_tO, k_tY, k_And, k_Or, k_Not, k_eIf, k_nil, k_seq, k_set, k_own, k_drop, k_ret, k_retN, k_retO, k_if, k_fz, fz_z, fz_s, k_gN, k_gsN, k_gsC, k_gT, k_asg, k_for, k_fnil, k_fcons, k_app, oL_z, oL_s, k_par, k_run, k_runN, k_fld, oO_z, k_add, k_addL, k_sub, k_mul, k_div, k_mod, k_pow, k_neg, k_lt, k_le, k_gt, k_ge, k_eqI, k_neI, k_int, k_intB, k_abs, k_lenL, k_lenT, k_lenC, k_tru, k_tupL, k_tupT, k_items_l, k_items_t, k_rng1, k_ixL, k_ixT, k_ixC, k_fldD, ok_nox, ok_ok, ok_bind, List.set_cons_zero, List.set_cons_succ, startS, startN, List.map_cons, List.map_nil, List.cons_append, List.nil_append, List.append_nil, List.length_cons, List.length_nil, List.replicate, Nat.reduceSub, Nat.reduceAdd, Nat.reduceLeDiff, Nat.zero_add, true_and, and_true, false_implies, true_implies, implies_true, forall_const, reduceCtorEq, Bool.not_true, Bool.not_false, Bool.not_eq_true'])
    refine (p_cell ns at_ ha).mono ?_
    rintro d ⟨z, rfl⟩
    (try simp only [↓k_guard, k_no, k_I, k_S, k_B, k_N, k_G, k_Y, k_V, k_W, k_O, g0_z, g0_s, gA_z, gA_s, g1_z, g1_s, k_1, k_2, k_n, k_c, k_T, k_L, k_C, k_f1, k_f2, k_App, k_M, k_P, k_3, k_tB, k_tT, k_toB, k_tNo, k_tA, k_tO, k_tY, k_And, k_Or, k_Not, k_eIf, k_nil, k_seq, k_set, k_own, k_drop, k_ret, k_retN, k_retO, k_if, k_fz, fz_z, fz_s, k_gN, k_gsN, k_gsC, k_gT, k_asg, k_for, k_fnil, k_fcons, k_app, oL_z, oL_s, k_par, k_run, k_runN, k_fld, oO_z, k_add, k_addL, k_sub, k_mul, k_div, k_mod, k_pow, k_neg, k_lt, k_le, k_gt, k_ge, k_eqI, k_neI, k_int, k_intB, k_abs, k_lenL, k_lenT, k_lenC, k_tru, k_tupL, k_tupT, k_items_l, k_items_t, k_rng1, k_ixL, k_ixT, k_ixC, k_fldD, ok_nox, ok_ok, ok_bind, List.set_cons_zero, List.set_cons_succ, startS, startN, List.map_cons, List.map_nil, List.cons_append, List.nil_append, List.append_nil, List.length_cons, List.length_nil, List.replicate, Nat.reduceSub, Nat.reduceAdd, Nat.reduceLeDiff, Nat.zero_add, true_and, and_true, false_implies, true_implies, implies_true, forall_const, reduceCtorEq, Bool.not_true, Bool.not_false, Bool.not_eq_true'])
    exact ⟨_, rfl⟩
  rintro S ⟨cell, rfl⟩
  refine seq_cut (fun S => S = [(some (Sl.mk false (.scr ns))), (some (Sl.mk false (.int at_))), (some (Sl.mk false (.int cnt))), (some (Sl.mk false (.int cell))), (some (Sl.mk false (.int 0))), none, none, none]) (by (try simp only [↓k_guard, k_no, k_I, k_S, k_B, k_N, k_G, k_Y, k_V, k_W, k_O, g0_z, g0_s, gA_z, gA_s, g1_z, g1_s, k_1, k_2, k_n, k_c, k_T, k_L, k_C, k_f1, k_f2, k_App, k_M, k_P, k_3, k_tB, k_tT, k_toB, k_tNo, k_tA, k_tO, k_tY, k_And, k_Or, k_Not, k_eIf, k_nil, k_seq, k_set, k_own, k_drop, k_ret, k_retN, k_retO, k_if, k_fz, fz_z, fz_s, k_gN, k_gsN, k_gsC, k_gT, k_asg, k_for, k_fnil, k_fcons, k_app, oL_z, oL_s, k_par, k_run, k_runN, k_fld, oO_z, k_add, k_addL, k_sub, k_mul, k_div, k_mod, k_pow, k_neg, k_lt, k_le, k_gt, k_ge, k_eqI, k_neI, k_int, k_intB, k_abs, k_lenL, k_lenT, k_lenC, k_tru, k_tupL, k_tupT, k_items_l, k_items_t, k_rng1, k_ixL, k_ixT, k_ixC, k_fldD, ok_nox, ok_ok, ok_bind, List.set_cons_zero, List.set_cons_succ, startS, startN, List.map_cons, List.map_nil, List.cons_append, List.nil_append, List.append_nil, List.length_cons, List.length_nil, List.replicate, Nat.reduceSub, Nat.reduceAdd, Nat.reduceLeDiff, Nat.zero_add, true_and, and_true, false_implies, true_implies, implies_true, forall_const, reduceCtorEq, Bool.not_true, Bool.not_false, Bool.not_eq_true'])) ?_
  rintro S rfl
  refine seq_cut (fun S => ∃ rest : Int, S = [(some (Sl.mk false (.scr ns))), (some (Sl.mk false (.int at_))), (some (Sl.mk false (.int cnt))), (some (Sl.mk false (.int cell))), (some (Sl.mk false (.int rest))), none, none, none]) ?_ ?_
  · (try simp only [↓k_guard, k_no, k_I, k_S, k_B, k_N, k_G, k_Y, k_V, k_W, k_O, g0_z, g0_s, gA_z, gA_s, g1_z, g1_s, k_1, k_2, k_n, k_c, k_T, k_L, k_C, k_f1, k_f2, k_App, k_M, k_P, k_3, k_tB, k_tT, k_toB, k_tNo, k_tA, k_tO, k_tY, k_And, k_Or, k_Not, k_eIf, k_nil, k_seq, k_set, k_own, k_drop, k_ret, k_retN, k_retO, k_if, k_fz, fz_z, fz_s, k_gN, k_gsN, k_gsC, k_gT, k_asg, k_for, k_fnil, k_fcons, k_app, oL_z, oL_s, k_par, k_run, k_runN, k_fld, oO_z, k_add, k_addL, k_sub, k_mul, k_div, k_mod, k_pow, k_neg, k_lt, k_le, k_gt, k_ge, k_eqI, k_neI, k_int, k_intB, k_abs, k_lenL, k_lenT, k_lenC, k_tru, k_tupL, k_tupT, k_items_l, k_items_t, k_rng1, k_ixL, k_ixT, k_ixC, k_fldD, ok_nox, ok_ok, ok_bind, List.set_cons_zero, List.set_cons_succ, startS, startN, List.map_cons, List.map_nil, List.cons_append, List.nil_append, List.append_nil, List.length_cons, List.length_nil, List.replicate, Nat.reduceSub, Nat.reduceAdd, Nat.reduceLeDiff, Nat.zero_add, true_and, and_true, false_implies, true_implies, implies_true, forall_const, reduceCtorEq, Bool.not_true, Bool.not_false, Bool.not_eq_true'])
    exact ⟨⟨by omega, by omega, by decide⟩, fun _ => ⟨⟨by omega, by omega, by decide⟩, _, rfl⟩, fun _ => ⟨_, rfl⟩⟩
  rintro S ⟨rest, rfl⟩
  refine seq_cut (fun S => S = [(some (Sl.mk false (.scr ns))), (some (Sl.mk false (.int at_))), (some (Sl.mk false (.int cnt))), (some (Sl.mk false (.int cell))), (some (Sl.mk false (.int rest))), (some (Sl.mk true (.lst []))), none, none]) (by (try simp only [↓k_guard, k_no, k_I, k_S, k_B, k_N, k_G, k_Y, k_V, k_W, k_O, g0_z, g0_s, gA_z, gA_s, g1_z, g1_s, k_1, k_2, k_n, k_c, k_T, k_L, k_C, k_f1, k_f2, k_App, k_M, k_P, k_3, k_tB, k_tT, k_toB, k_tNo, k_tA, k_tO, k_tY, k_And, k_Or, k_Not, k_eIf, k_nil, k_seq, k_set, k_own, k_drop, k_ret, k_retN, k_retO, k_if, k_fz, fz_z, fz_s, k_gN, k_gsN, k_gsC, k_gT, k_asg, k_for, k_fnil, k_fcons, k_app, oL_z, oL_s, k_par, k_run, k_runN, k_fld, oO_z, k_add, k_addL, k_sub, k_mul, k_div, k_mod, k_pow, k_neg, k_lt, k_le, k_gt, k_ge, k_eqI, k_neI, k_int, k_intB, k_abs, k_lenL, k_lenT, k_lenC, k_tru, k_tupL, k_tupT, k_items_l, k_items_t, k_rng1, k_ixL, k_ixT, k_ixC, k_fldD, ok_nox, ok_ok, ok_bind, List.set_cons_zero, List.set_cons_succ, startS, startN, List.map_cons, List.map_nil, List.cons_append, List.nil_append, List.append_nil, List.length_cons, List.length_nil, List.replicate, Nat.reduceSub, Nat.reduceAdd, Nat.reduceLeDiff, Nat.zero_add, true_and, and_true, false_implies, true_implies, implies_true, forall_const, reduceCtorEq, Bool.not_true, Bool.not_false, Bool.not_eq_true']); omega) ?_
  rintro S rfl
  refine seq_cut (fun S => ∃ (l : List Int) (r a b : Option Sl), (l.length = cnt ∧ ∀ x ∈ l, 0 ≤ x ∧ x < 720720) ∧ S = [(some (Sl.mk false (.scr ns))), (some (Sl.mk false (.int at_))), (some (Sl.mk false (.int cnt))), (some (Sl.mk false (.int cell))), r, (some (Sl.mk true (.lst (l.map .int)))), a, b]) ?_ ?_
  · (try simp only [↓k_guard, k_no, k_I, k_S, k_B, k_N, k_G, k_Y, k_V, k_W, k_O, g0_z, g0_s, gA_z, gA_s, g1_z, g1_s, k_1, k_2, k_n, k_c, k_T, k_L, k_C, k_f1, k_f2, k_App, k_M, k_P, k_3, k_tB, k_tT, k_toB, k_tNo, k_tA, k_tO, k_tY, k_And, k_Or, k_Not, k_eIf, k_nil, k_seq, k_set, k_own, k_drop, k_ret, k_retN, k_retO, k_if, k_fz, fz_z, fz_s, k_gN, k_gsN, k_gsC, k_gT, k_asg, k_for, k_fnil, k_fcons, k_app, oL_z, oL_s, k_par, k_run, k_runN, k_fld, oO_z, k_add, k_addL, k_sub, k_mul, k_div, k_mod, k_pow, k_neg, k_lt, k_le, k_gt, k_ge, k_eqI, k_neI, k_int, k_intB, k_abs, k_lenL, k_lenT, k_lenC, k_tru, k_tupL, k_tupT, k_items_l, k_items_t, k_rng1, k_ixL, k_ixT, k_ixC, k_fldD, ok_nox, ok_ok, ok_bind, List.set_cons_zero, List.set_cons_succ, startS, startN, List.map_cons, List.map_nil, List.cons_append, List.nil_append, List.append_nil, List.length_cons, List.length_nil, List.replicate, Nat.reduceSub, Nat.reduceAdd, Nat.reduceLeDiff, Nat.zero_add, true_and, and_true, false_implies, true_implies, implies_true, forall_const, reduceCtorEq, Bool.not_true, Bool.not_false, Bool.not_eq_true'])
    refine ⟨⟨by omega, by omega⟩, ?_⟩
    refine for_inv (fun i S => ∃ (l : List Int) (rest : Int) (a b : Option Sl), (l.length = i ∧ ∀ x ∈ l, 0 ≤ x ∧ x < 720720) ∧ S = [(some (Sl.mk false (.scr ns))), (some (Sl.mk false (.int at_))), (some (Sl.mk false (.int cnt))), (some (Sl.mk false (.int cell))), (some (Sl.mk false (.int rest))), (some (Sl.mk true (.lst (l.map .int)))), a, b]) _ 0 _ ⟨[], rest, none, none, ⟨rfl, by simp⟩, rfl⟩ ?_ ?_
    · rintro i d S hd ⟨l, rest, a, b, hl, rfl⟩
      obtain ⟨hi, rfl⟩ := rngL_get hd
      simp only [Int.toNat_natCast] at hi
      rw [Nat.zero_add] at hl
      have hll : (l.map D.int).length < sizeLine := by rw [List.length_map, hl.1]; omega
      (try simp only [↓k_guard, k_no, k_I, k_S, k_B, k_N, k_G, k_Y, k_V, k_W, k_O, g0_z, g0_s, gA_z, gA_s, g1_z, g1_s, k_1, k_2, k_n, k_c, k_T, k_L, k_C, k_f1, k_f2, k_App, k_M, k_P, k_3, k_tB, k_tT, k_toB, k_tNo, k_tA, k_tO, k_tY, k_And, k_Or, k_Not, k_eIf, k_nil, k_seq, k_set, k_own, k_drop, k_ret, k_retN, k_retO, k_if, k_fz, fz_z, fz_s, k_gN, k_gsN, k_gsC, k_gT, k_asg, k_for, k_fnil, k_fcons, k_app, oL_z, oL_s, k_par, k_run, k_runN, k_fld, oO_z, k_add, k_addL, k_sub, k_mul, k_div, k_mod, k_pow, k_neg, k_lt, k_le, k_gt, k_ge, k_eqI, k_neI, k_int, k_intB, k_abs, k_lenL, k_lenT, k_lenC, k_tru, k_tupL, k_tupT, k_items_l, k_items_t, k_rng1, k_ixL, k_ixT, k_ixC, k_fldD, ok_nox, ok_ok, ok_bind, List.set_cons_zero, List.set_cons_succ, startS, startN, List.map_cons, List.map_nil, List.cons_append, List.nil_append, List.append_nil, List.length_cons, List.length_nil, List.replicate, Nat.reduceSub, Nat.reduceAdd, Nat.reduceLeDiff, Nat.zero_add, true_and, and_true, false_implies, true_implies, implies_true, forall_const, reduceCtorEq, Bool.not_true, Bool.not_false, Bool.not_eq_true'])
      refine ⟨fun h1 => ⟨by omega, hll, div_c (by omega) (by omega), l ++ [rest % 60], _, _, _, drawn.snoc hl ?_, by rw [List.map_append]; rfl⟩, fun h1 => ?_⟩
      · have := mod_b rest (m := 60) (by omega); omega
      · refine ⟨mul_r (by omega) (by omega), mul_r (by omega) (by omega), mul_r (by omega) (by omega), by omega, ?_⟩
        have m1 := mod_b (cell * (48271 + (0 + (i : Int)) * 69621 + at_ * 7919)) (m := 2147483647) (by omega)
        generalize (cell * (48271 + (0 + (i : Int)) * 69621 + at_ * 7919)) % 2147483647 = x1 at m1
        refine ⟨mul_l (by omega) (by omega), div_c (by omega) (by omega), by omega, ?_⟩
        have m2 := mod_b (x1 * x1 + x1 / 127) (m := 2147483399) (by omega)
        generalize (x1 * x1 + x1 / 127) % 2147483399 = x2 at m2
        refine ⟨mul_l (by omega) (by omega), div_c (by omega) (by omega), by omega, ?_⟩
        generalize (x2 * x2 + x2 / 31) % 998244353 = x3
        have m4 := mod_b (x3 / 11) (m := 60) (by omega)
        exact ⟨div_c (by omega) (by omega), by omega, hll, l ++ [x3 / 11 % 60], _, _, _, drawn.snoc hl ⟨by omega, by omega⟩, by rw [List.map_append]; rfl⟩
    · rintro S ⟨l, rest, a, b, hl, rfl⟩
      rw [rngL_len, Nat.zero_add, Int.toNat_natCast] at hl
      exact ⟨rfl, l, _, a, b, hl, rfl⟩
  rintro S ⟨l, r, a, b, hl, rfl⟩
  (try simp only [↓k_guard, k_no, k_I, k_S, k_B, k_N, k_G, k_Y, k_V, k_W, k_O, g0_z, g0_s, gA_z, gA_s, g1_z, g1_s, k_1, k_2, k_n, k_c, k_T, k_L, k_C, k_f1, k_f2, k_App, k_M, k_P, k_3, k_tB, k_tT, k_toB, k_tNo, k_tA, k_tO, k_tY, k_And, k_Or, k_Not, k_eIf, k_nil, k_seq, k_set, k_own, k_drop, k_ret, k_retN, k_retO, k_if, k_fz, fz_z, fz_s, k_gN, k_gsN, k_gsC, k_gT, k_asg, k_for, k_fnil, k_fcons, k_app, oL_z, oL_s, k_par, k_run, k_runN, k_fld, oO_z, k_add, k_addL, k_sub, k_mul, k_div, k_mod, k_pow, k_neg, k_lt, k_le, k_gt, k_ge, k_eqI, k_neI, k_int, k_intB, k_abs, k_lenL, k_lenT, k_lenC, k_tru, k_tupL, k_tupT, k_items_l, k_items_t, k_rng1, k_ixL, k_ixT, k_ixC, k_fldD, ok_nox, ok_ok, ok_bind, List.set_cons_zero, List.set_cons_succ, startS, startN, List.map_cons, List.map_nil, List.cons_append, List.nil_append, List.append_nil, List.length_cons, List.length_nil, List.replicate, Nat.reduceSub, Nat.reduceAdd, Nat.reduceLeDiff, Nat.zero_add, true_and, and_true, false_implies, true_implies, implies_true, forall_const, reduceCtorEq, Bool.not_true, Bool.not_false, Bool.not_eq_true'])
  exact ⟨_, rfl, l, rfl, hl.1, hl.2⟩
end Pf
set_option Elab.async false
set_option linter.all false
set_option maxRecDepth 100000
namespace Pf
open M PySem L2
def stD (x : List Str) : D := .tup (x.map .str)
def slD' (x : List Str) : D := .lst (x.map .str)
theorem k_rev {xs : List D} {Q : D → Prop} : Ok (revD (.lst xs)) Q ↔ Q (.lst xs.reverse) := ok_ok
theorem k_addLL {a b : List D} {Q : D → Prop} : Ok (addL (.lst a) (.lst b)) Q ↔ a.length + b.length ≤ sizeLine ∧ Q (.lst (a ++ b)) := by show Ok (if _ then _ else _) Q ↔ _; rw [ok_if, ok_ok]
theorem k_addT {a b : List D} {Q : D → Prop} : Ok (addD (.tup a) (.tup b)) Q ↔ a.length + b.length ≤ sizeLine ∧ Q (.tup (a ++ b)) := by show Ok (if _ then _ else _) Q ↔ _; rw [ok_if, ok_ok]
theorem k_Sl {f : FE} {l h : FO} {S : M.Env} {Q : D → Prop} : Ok (eSl f l h S) Q ↔ Ok (f S) fun x => Ok (l S) fun lo => Ok (h S) fun hi => Ok (slD x lo hi) Q := by
  unfold eSl; simp only [ok_bind, ok_nox]
theorem k_on {S : M.Env} {Q : Option Int → Prop} : Ok (oN S) Q ↔ Q none := ok_ok
theorem k_slL {xs : List D} {lo hi : Option Int} {Q : D → Prop} : Ok (slD (.lst xs) lo hi) Q ↔ Q (.lst (cutL xs lo hi)) := ok_ok
theorem k_os {f : FE} {S : M.Env} {Q : Option Int → Prop} : Ok (oS f S) Q ↔ Ok (f S) fun d => ∃ i, d = .int i ∧ Q (some i) := by
  unfold oS
  rw [ok_bind]
  apply iff_of_eq; congr 1; funext d; refine propext ?_
  cases d with
  | int i => exact ⟨fun q => ⟨_, rfl, ok_ok.mp q⟩, fun ⟨_, e, q⟩ => by cases e; exact ok_ok.mpr q⟩
  | _ => exact ⟨fun ⟨_, e, _⟩ => (nomatch e), fun ⟨_, e, _⟩ => (nomatch e)⟩
theorem cut_sub {α : Type} (xs : List α) (lo hi : Option Int) : cutL xs lo hi ⊆ xs := fun x h => List.mem_of_mem_drop (List.mem_of_mem_take h)
theorem cut_map {α β : Type} (f : α → β) (xs : List α) (lo hi : Option Int) : cutL (xs.map f) lo hi = (cutL xs lo hi).map f := by unfold cutL; rw [List.length_map, List.map_take, List.map_drop]
theorem cut1 {α : Type} (xs : List α) : (cutL xs none (some 1)).length ≤ 1 := by
  unfold cutL
  rw [List.length_take]
  have : HT.sIx xs.length xs.length (some 1) ≤ 1 := by
    unfold HT.sIx
    simp
    omega
  omega
/-- some of the names, told in a row -/
def MR (N : List Str) (d : D) : Prop := ∃ l : List Str, d = stD l ∧ l ⊆ N ∧ l.length ≤ 9
theorem p_members (N : List Str) (h1 : 1 ≤ N.length) (h8 : N.length ≤ 8) (a b : Int) (ha : 0 ≤ a) (ha2 : a < 720720) (hb : 0 ≤ b) : Ok (d__law_members [slD' N, .int a, .int b]) (MR N) := by
  have hs := size_ge
  unfold d__law_members m__law_members
  rw [ok_nox, k_run]
  refine Ok.mono (P := fun z => ∃ d, z.1 = .rt d ∧ MR N d) ?_ fun z ⟨d, e, h⟩ => by rw [e]; exact h
  refine seq_cut (fun S => ∃ m : Int, S = [(some (Sl.mk false (slD' N))), (some (Sl.mk false (.int a))), (some (Sl.mk false (.int b))), (some (Sl.mk false (.int m))), none, none]) ?_ ?_
  · (try simp only [↓k_guard, k_no, k_I, k_S, k_B, k_N, k_G, k_Y, k_V, k_W, k_O, g0_z, g0_s, gA_z, gA_s, g1_z, g1_s, k_1, k_2, k_n, k_c, k_T, k_L, k_C, k_f1, k_f2, k_App, k_M, k_P, k_3, k_tB, k_tT, k_toB, k_tNo, k_tA, k_tO, k_tY, k_And, k_Or, k_Not, k_eIf, k_nil, k_seq, k_set, k_own, k_drop, k_ret, k_retN, k_retO, k_if, k_fz, fz_z, fz_s, k_gN, k_gsN, k_gsC, k_gT, k_asg, k_for, k_fnil, k_fcons, k_app, oL_z, oL_s, k_par, k_run, k_runN, k_fld, oO_z, k_add, k_addL, k_sub, k_mul, k_div, k_mod, k_pow, k_neg, k_lt, k_le, k_gt, k_ge, k_eqI, k_neI, k_int, k_intB, k_abs, k_lenL, k_lenT, k_lenC, k_tru, k_tupL, k_tupT, k_items_l, k_items_t, k_rng1, k_ixL, k_ixT, k_ixC, k_fldD, ok_nox, ok_ok, ok_bind, List.set_cons_zero, List.set_cons_succ, startS, startN, List.map_cons, List.map_nil, List.cons_append, List.nil_append, List.append_nil, List.length_cons, List.length_nil, List.replicate, Nat.reduceSub, Nat.reduceAdd, Nat.reduceLeDiff, Nat.zero_add, true_and, and_true, false_implies, true_implies, implies_true, forall_const, reduceCtorEq, Bool.not_true, Bool.not_false, Bool.not_eq_true'])
    exact ⟨mul_l (by omega) (by omega), by omega, _, rfl⟩
  rintro S ⟨m, rfl⟩
  refine seq_cut (fun S => S = [(some (Sl.mk false (slD' N))), (some (Sl.mk false (.int a))), (some (Sl.mk false (.int b))), (some (Sl.mk false (.int m))), (some (Sl.mk true (.lst []))), none]) (by (try simp only [↓k_guard, k_no, k_I, k_S, k_B, k_N, k_G, k_Y, k_V, k_W, k_O, g0_z, g0_s, gA_z, gA_s, g1_z, g1_s, k_1, k_2, k_n, k_c, k_T, k_L, k_C, k_f1, k_f2, k_App, k_M, k_P, k_3, k_tB, k_tT, k_toB, k_tNo, k_tA, k_tO, k_tY, k_And, k_Or, k_Not, k_eIf, k_nil, k_seq, k_set, k_own, k_drop, k_ret, k_retN, k_retO, k_if, k_fz, fz_z, fz_s, k_gN, k_gsN, k_gsC, k_gT, k_asg, k_for, k_fnil, k_fcons, k_app, oL_z, oL_s, k_par, k_run, k_runN, k_fld, oO_z, k_add, k_addL, k_sub, k_mul, k_div, k_mod, k_pow, k_neg, k_lt, k_le, k_gt, k_ge, k_eqI, k_neI, k_int, k_intB, k_abs, k_lenL, k_lenT, k_lenC, k_tru, k_tupL, k_tupT, k_items_l, k_items_t, k_rng1, k_ixL, k_ixT, k_ixC, k_fldD, ok_nox, ok_ok, ok_bind, List.set_cons_zero, List.set_cons_succ, startS, startN, List.map_cons, List.map_nil, List.cons_append, List.nil_append, List.append_nil, List.length_cons, List.length_nil, List.replicate, Nat.reduceSub, Nat.reduceAdd, Nat.reduceLeDiff, Nat.zero_add, true_and, and_true, false_implies, true_implies, implies_true, forall_const, reduceCtorEq, Bool.not_true, Bool.not_false, Bool.not_eq_true']); omega) ?_
  rintro S rfl
  refine seq_cut (fun S => ∃ (l : List Str) (m x : Option Sl), (l ⊆ N ∧ l.length ≤ 8) ∧ S = [(some (Sl.mk false (slD' N))), (some (Sl.mk false (.int a))), (some (Sl.mk false (.int b))), m, (some (Sl.mk true (slD' l))), x]) ?_ ?_
  · (try simp only [↓k_guard, k_no, k_I, k_S, k_B, k_N, k_G, k_Y, k_V, k_W, k_O, g0_z, g0_s, gA_z, gA_s, g1_z, g1_s, k_1, k_2, k_n, k_c, k_T, k_L, k_C, k_f1, k_f2, k_App, k_M, k_P, k_3, k_tB, k_tT, k_toB, k_tNo, k_tA, k_tO, k_tY, k_And, k_Or, k_Not, k_eIf, k_nil, k_seq, k_set, k_own, k_drop, k_ret, k_retN, k_retO, k_if, k_fz, fz_z, fz_s, k_gN, k_gsN, k_gsC, k_gT, k_asg, k_for, k_fnil, k_fcons, k_app, oL_z, oL_s, k_par, k_run, k_runN, k_fld, oO_z, k_add, k_addL, k_sub, k_mul, k_div, k_mod, k_pow, k_neg, k_lt, k_le, k_gt, k_ge, k_eqI, k_neI, k_int, k_intB, k_abs, k_lenL, k_lenT, k_lenC, k_tru, k_tupL, k_tupT, k_items_l, k_items_t, k_rng1, k_ixL, k_ixT, k_ixC, k_fldD, ok_nox, ok_ok, ok_bind, List.set_cons_zero, List.set_cons_succ, startS, startN, List.map_cons, List.map_nil, List.cons_append, List.nil_append, List.append_nil, List.length_cons, List.length_nil, List.replicate, Nat.reduceSub, Nat.reduceAdd, Nat.reduceLeDiff, Nat.zero_add, true_and, and_true, false_implies, true_implies, implies_true, forall_const, reduceCtorEq, Bool.not_true, Bool.not_false, Bool.not_eq_true'])
    show Ok (itemsD (.lst (N.map .str))) _
    rw [k_items_l]
    refine for_typed (f := D.str) (fun done S => ∃ (l : List Str) (m : Int) (x : Option Sl), (l ⊆ done ∧ l.length ≤ done.length) ∧ S = [(some (Sl.mk false (slD' N))), (some (Sl.mk false (.int a))), (some (Sl.mk false (.int b))), (some (Sl.mk false (.int m))), (some (Sl.mk true (slD' l))), x]) N _ ⟨[], m, none, by simp, rfl⟩ ?_ ?_
    · rintro done x rest S e ⟨l, m, y, ⟨hl1, hl2⟩, rfl⟩
      have hd : done.length < 8 := by rw [e] at h8; simp at h8; omega
      (try simp only [↓k_guard, k_no, k_I, k_S, k_B, k_N, k_G, k_Y, k_V, k_W, k_O, g0_z, g0_s, gA_z, gA_s, g1_z, g1_s, k_1, k_2, k_n, k_c, k_T, k_L, k_C, k_f1, k_f2, k_App, k_M, k_P, k_3, k_tB, k_tT, k_toB, k_tNo, k_tA, k_tO, k_tY, k_And, k_Or, k_Not, k_eIf, k_nil, k_seq, k_set, k_own, k_drop, k_ret, k_retN, k_retO, k_if, k_fz, fz_z, fz_s, k_gN, k_gsN, k_gsC, k_gT, k_asg, k_for, k_fnil, k_fcons, k_app, oL_z, oL_s, k_par, k_run, k_runN, k_fld, oO_z, k_add, k_addL, k_sub, k_mul, k_div, k_mod, k_pow, k_neg, k_lt, k_le, k_gt, k_ge, k_eqI, k_neI, k_int, k_intB, k_abs, k_lenL, k_lenT, k_lenC, k_tru, k_tupL, k_tupT, k_items_l, k_items_t, k_rng1, k_ixL, k_ixT, k_ixC, k_fldD, ok_nox, ok_ok, ok_bind, List.set_cons_zero, List.set_cons_succ, startS, startN, List.map_cons, List.map_nil, List.cons_append, List.nil_append, List.append_nil, List.length_cons, List.length_nil, List.replicate, Nat.reduceSub, Nat.reduceAdd, Nat.reduceLeDiff, Nat.zero_add, true_and, and_true, false_implies, true_implies, implies_true, forall_const, reduceCtorEq, Bool.not_true, Bool.not_false, Bool.not_eq_true'])
      refine ⟨by omega, fun hm => ?_, fun hm => ?_⟩
      · show Ok (ownL 4 [(some (Sl.mk false (slD' N))), (some (Sl.mk false (.int a))), (some (Sl.mk false (.int b))), (some (Sl.mk false (.int m))), (some (Sl.mk true (.lst (l.map .str)))), (some (Sl.mk false (.str x)))]) _
        (try simp only [↓k_guard, k_no, k_I, k_S, k_B, k_N, k_G, k_Y, k_V, k_W, k_O, g0_z, g0_s, gA_z, gA_s, g1_z, g1_s, k_1, k_2, k_n, k_c, k_T, k_L, k_C, k_f1, k_f2, k_App, k_M, k_P, k_3, k_tB, k_tT, k_toB, k_tNo, k_tA, k_tO, k_tY, k_And, k_Or, k_Not, k_eIf, k_nil, k_seq, k_set, k_own, k_drop, k_ret, k_retN, k_retO, k_if, k_fz, fz_z, fz_s, k_gN, k_gsN, k_gsC, k_gT, k_asg, k_for, k_fnil, k_fcons, k_app, oL_z, oL_s, k_par, k_run, k_runN, k_fld, oO_z, k_add, k_addL, k_sub, k_mul, k_div, k_mod, k_pow, k_neg, k_lt, k_le, k_gt, k_ge, k_eqI, k_neI, k_int, k_intB, k_abs, k_lenL, k_lenT, k_lenC, k_tru, k_tupL, k_tupT, k_items_l, k_items_t, k_rng1, k_ixL, k_ixT, k_ixC, k_fldD, ok_nox, ok_ok, ok_bind, List.set_cons_zero, List.set_cons_succ, startS, startN, List.map_cons, List.map_nil, List.cons_append, List.nil_append, List.append_nil, List.length_cons, List.length_nil, List.replicate, Nat.reduceSub, Nat.reduceAdd, Nat.reduceLeDiff, Nat.zero_add, true_and, and_true, false_implies, true_implies, implies_true, forall_const, reduceCtorEq, Bool.not_true, Bool.not_false, Bool.not_eq_true'])
        refine ⟨by rw [List.length_map]; omega, div_c (by omega) (by omega), l ++ [x], m / 2, (some (Sl.mk false (.str x))), ⟨fun z hz => ?_, by simp; omega⟩, by simp [slD']⟩
        · rcases List.mem_append.mp hz with q | q
          · exact List.mem_append_left _ (hl1 q)
          · exact List.mem_append_right _ q
      · exact ⟨div_c (by omega) (by omega), l, _, _, ⟨fun z hz => List.mem_append_left _ (hl1 hz), by simp; omega⟩, rfl⟩
    · rintro S ⟨l, m, x, ⟨q1, q2⟩, rfl⟩
      exact ⟨rfl, l, _, x, ⟨q1, by omega⟩, rfl⟩
  rintro S ⟨l, m, x, ⟨hl1, hl2⟩, rfl⟩
  have lenL : ∀ l : List Str, ∀ Q : D → Prop, Ok (lenD (slD' l)) Q ↔ Q (.int l.length) := fun l Q => by
    show Ok (lenD (.lst (l.map .str))) Q ↔ _
    rw [k_lenL, List.length_map]
  refine seq_cut (fun S => ∃ (l : List Str), (l ⊆ N ∧ l.length ≤ 8) ∧ S = [(some (Sl.mk false (slD' N))), (some (Sl.mk false (.int a))), (some (Sl.mk false (.int b))), m, (some (Sl.mk true (slD' l))), x]) ?_ ?_
  · (try simp only [↓k_guard, k_no, k_I, k_S, k_B, k_N, k_G, k_Y, k_V, k_W, k_O, g0_z, g0_s, gA_z, gA_s, g1_z, g1_s, k_1, k_2, k_n, k_c, k_T, k_L, k_C, k_f1, k_f2, k_App, k_M, k_P, k_3, k_tB, k_tT, k_toB, k_tNo, k_tA, k_tO, k_tY, k_And, k_Or, k_Not, k_eIf, k_nil, k_seq, k_set, k_own, k_drop, k_ret, k_retN, k_retO, k_if, k_fz, fz_z, fz_s, k_gN, k_gsN, k_gsC, k_gT, k_asg, k_for, k_fnil, k_fcons, k_app, oL_z, oL_s, k_par, k_run, k_runN, k_fld, oO_z, k_add, k_addL, k_sub, k_mul, k_div, k_mod, k_pow, k_neg, k_lt, k_le, k_gt, k_ge, k_eqI, k_neI, k_int, k_intB, k_abs, k_lenL, k_lenT, k_lenC, k_tru, k_tupL, k_tupT, k_items_l, k_items_t, k_rng1, k_ixL, k_ixT, k_ixC, k_fldD, ok_nox, ok_ok, ok_bind, List.set_cons_zero, List.set_cons_succ, startS, startN, List.map_cons, List.map_nil, List.cons_append, List.nil_append, List.append_nil, List.length_cons, List.length_nil, List.replicate, Nat.reduceSub, Nat.reduceAdd, Nat.reduceLeDiff, Nat.zero_add, true_and, and_true, false_implies, true_implies, implies_true, forall_const, reduceCtorEq, Bool.not_true, Bool.not_false, Bool.not_eq_true', lenL])
    have m2 := mod_b a (m := (N.length : Int)) (by omega)
    have key : ∀ Q : D → Prop, (∀ z ∈ N, Q (.str z)) → Ok (ixD (slD' N) (.int (a % (N.length : Int)))) Q := fun Q hq => by
      show Ok (ixD (.lst (N.map .str)) _) Q
      rw [k_ixL]
      obtain ⟨d, hd⟩ := atI_lt (xs := N.map D.str) (i := a % (N.length : Int)) m2.1 (by rw [List.length_map]; exact m2.2)
      obtain ⟨z, hz, rfl⟩ := List.mem_map.mp (atI_mem hd)
      exact ⟨_, hd, hq z hz⟩
    refine ⟨fun _ => ⟨by omega, ⟨fun _ => ⟨by omega, key _ fun z hz => ⟨by omega, [z], ⟨by simpa using hz, by simp⟩, rfl⟩⟩, fun _ => ⟨l, ⟨hl1, hl2⟩, rfl⟩⟩⟩, fun _ => ⟨l, ⟨hl1, hl2⟩, rfl⟩⟩
  rintro S ⟨l, ⟨hl1, hl2⟩, rfl⟩
  refine seq_cut (fun S => ∃ (l : List Str), (l ⊆ N ∧ l.length ≤ 8) ∧ S = [(some (Sl.mk false (slD' N))), (some (Sl.mk false (.int a))), (some (Sl.mk false (.int b))), m, (some (Sl.mk true (slD' l))), x]) ?_ ?_
  · have kr : ∀ Q : D → Prop, Q (slD' l.reverse) → Ok (revD (slD' l)) Q := fun Q hq => by
      show Ok (revD (.lst (l.map .str))) Q
      rw [k_rev, ← List.map_reverse]; exact hq
    (try simp only [↓k_guard, k_no, k_I, k_S, k_B, k_N, k_G, k_Y, k_V, k_W, k_O, g0_z, g0_s, gA_z, gA_s, g1_z, g1_s, k_1, k_2, k_n, k_c, k_T, k_L, k_C, k_f1, k_f2, k_App, k_M, k_P, k_3, k_tB, k_tT, k_toB, k_tNo, k_tA, k_tO, k_tY, k_And, k_Or, k_Not, k_eIf, k_nil, k_seq, k_set, k_own, k_drop, k_ret, k_retN, k_retO, k_if, k_fz, fz_z, fz_s, k_gN, k_gsN, k_gsC, k_gT, k_asg, k_for, k_fnil, k_fcons, k_app, oL_z, oL_s, k_par, k_run, k_runN, k_fld, oO_z, k_add, k_addL, k_sub, k_mul, k_div, k_mod, k_pow, k_neg, k_lt, k_le, k_gt, k_ge, k_eqI, k_neI, k_int, k_intB, k_abs, k_lenL, k_lenT, k_lenC, k_tru, k_tupL, k_tupT, k_items_l, k_items_t, k_rng1, k_ixL, k_ixT, k_ixC, k_fldD, ok_nox, ok_ok, ok_bind, List.set_cons_zero, List.set_cons_succ, startS, startN, List.map_cons, List.map_nil, List.cons_append, List.nil_append, List.append_nil, List.length_cons, List.length_nil, List.replicate, Nat.reduceSub, Nat.reduceAdd, Nat.reduceLeDiff, Nat.zero_add, true_and, and_true, false_implies, true_implies, implies_true, forall_const, reduceCtorEq, Bool.not_true, Bool.not_false, Bool.not_eq_true'])
    refine ⟨by omega, fun _ => kr _ ⟨l.reverse, ⟨fun z hz => hl1 (List.mem_reverse.mp hz), by simp; omega⟩, rfl⟩, fun _ => ⟨l, ⟨hl1, hl2⟩, rfl⟩⟩
  rintro S ⟨l, ⟨hl1, hl2⟩, rfl⟩
  refine seq_cut (fun S => ∃ (l : List Str), (l ⊆ N ∧ l.length ≤ 9) ∧ S = [(some (Sl.mk false (slD' N))), (some (Sl.mk false (.int a))), (some (Sl.mk false (.int b))), m, (some (Sl.mk true (slD' l))), x]) ?_ ?_
  · (try simp only [↓k_guard, k_no, k_I, k_S, k_B, k_N, k_G, k_Y, k_V, k_W, k_O, g0_z, g0_s, gA_z, gA_s, g1_z, g1_s, k_1, k_2, k_n, k_c, k_T, k_L, k_C, k_f1, k_f2, k_App, k_M, k_P, k_3, k_tB, k_tT, k_toB, k_tNo, k_tA, k_tO, k_tY, k_And, k_Or, k_Not, k_eIf, k_nil, k_seq, k_set, k_own, k_drop, k_ret, k_retN, k_retO, k_if, k_fz, fz_z, fz_s, k_gN, k_gsN, k_gsC, k_gT, k_asg, k_for, k_fnil, k_fcons, k_app, oL_z, oL_s, k_par, k_run, k_runN, k_fld, oO_z, k_add, k_addL, k_sub, k_mul, k_div, k_mod, k_pow, k_neg, k_lt, k_le, k_gt, k_ge, k_eqI, k_neI, k_int, k_intB, k_abs, k_lenL, k_lenT, k_lenC, k_tru, k_tupL, k_tupT, k_items_l, k_items_t, k_rng1, k_ixL, k_ixT, k_ixC, k_fldD, ok_nox, ok_ok, ok_bind, List.set_cons_zero, List.set_cons_succ, startS, startN, List.map_cons, List.map_nil, List.cons_append, List.nil_append, List.append_nil, List.length_cons, List.length_nil, List.replicate, Nat.reduceSub, Nat.reduceAdd, Nat.reduceLeDiff, Nat.zero_add, true_and, and_true, false_implies, true_implies, implies_true, forall_const, reduceCtorEq, Bool.not_true, Bool.not_false, Bool.not_eq_true'])
    refine ⟨by omega, fun _ => ?_, fun _ => ⟨l, ⟨hl1, by omega⟩, rfl⟩⟩
    rw [k_Sl]
    (try simp only [↓k_guard, k_no, k_I, k_S, k_B, k_N, k_G, k_Y, k_V, k_W, k_O, g0_z, g0_s, gA_z, gA_s, g1_z, g1_s, k_1, k_2, k_n, k_c, k_T, k_L, k_C, k_f1, k_f2, k_App, k_M, k_P, k_3, k_tB, k_tT, k_toB, k_tNo, k_tA, k_tO, k_tY, k_And, k_Or, k_Not, k_eIf, k_nil, k_seq, k_set, k_own, k_drop, k_ret, k_retN, k_retO, k_if, k_fz, fz_z, fz_s, k_gN, k_gsN, k_gsC, k_gT, k_asg, k_for, k_fnil, k_fcons, k_app, oL_z, oL_s, k_par, k_run, k_runN, k_fld, oO_z, k_add, k_addL, k_sub, k_mul, k_div, k_mod, k_pow, k_neg, k_lt, k_le, k_gt, k_ge, k_eqI, k_neI, k_int, k_intB, k_abs, k_lenL, k_lenT, k_lenC, k_tru, k_tupL, k_tupT, k_items_l, k_items_t, k_rng1, k_ixL, k_ixT, k_ixC, k_fldD, ok_nox, ok_ok, ok_bind, List.set_cons_zero, List.set_cons_succ, startS, startN, List.map_cons, List.map_nil, List.cons_append, List.nil_append, List.append_nil, List.length_cons, List.length_nil, List.replicate, Nat.reduceSub, Nat.reduceAdd, Nat.reduceLeDiff, Nat.zero_add, true_and, and_true, false_implies, true_implies, implies_true, forall_const, reduceCtorEq, Bool.not_true, Bool.not_false, Bool.not_eq_true', k_on, k_os])
    refine ⟨1, rfl, ?_⟩
    show Ok (slD (.lst (l.map .str)) _ _) _
    rw [k_slL, cut_map]
    show Ok (addL (.lst (l.map .str)) (.lst _)) _
    rw [k_addLL]
    have := cut1 l
    refine ⟨by simp only [List.length_map]; omega, l ++ cutL l none (some 1), ⟨fun z hz => ?_, by rw [List.length_append]; omega⟩, by simp [slD']⟩
    rcases List.mem_append.mp hz with q | q
    · exact hl1 q
    · exact hl1 (cut_sub _ _ _ q)
  rintro S ⟨l, ⟨hl1, hl2⟩, rfl⟩
  (try simp only [↓k_guard, k_no, k_I, k_S, k_B, k_N, k_G, k_Y, k_V, k_W, k_O, g0_z, g0_s, gA_z, gA_s, g1_z, g1_s, k_1, k_2, k_n, k_c, k_T, k_L, k_C, k_f1, k_f2, k_App, k_M, k_P, k_3, k_tB, k_tT, k_toB, k_tNo, k_tA, k_tO, k_tY, k_And, k_Or, k_Not, k_eIf, k_nil, k_seq, k_set, k_own, k_drop, k_ret, k_retN, k_retO, k_if, k_fz, fz_z, fz_s, k_gN, k_gsN, k_gsC, k_gT, k_asg, k_for, k_fnil, k_fcons, k_app, oL_z, oL_s, k_par, k_run, k_runN, k_fld, oO_z, k_add, k_addL, k_sub, k_mul, k_div, k_mod, k_pow, k_neg, k_lt, k_le, k_gt, k_ge, k_eqI, k_neI, k_int, k_intB, k_abs, k_lenL, k_lenT, k_lenC, k_tru, k_tupL, k_tupT, k_items_l, k_items_t, k_rng1, k_ixL, k_ixT, k_ixC, k_fldD, ok_nox, ok_ok, ok_bind, List.set_cons_zero, List.set_cons_succ, startS, startN, List.map_cons, List.map_nil, List.cons_append, List.nil_append, List.append_nil, List.length_cons, List.length_nil, List.replicate, Nat.reduceSub, Nat.reduceAdd, Nat.reduceLeDiff, Nat.zero_add, true_and, and_true, false_implies, true_implies, implies_true, forall_const, reduceCtorEq, Bool.not_true, Bool.not_false, Bool.not_eq_true'])
  show Ok (tupD (.lst (l.map .str))) _
  rw [k_tupL]
  exact ⟨_, rfl, l, rfl, hl1, hl2⟩
end Pf
set_option Elab.async false
set_option linter.all false
set_option maxRecDepth 100000
namespace Pf
open M PySem L2 PySem.W PyProof.Rows
/-! the order of data -/
abbrev tks (d : D) : List (Int ⊕ List Nat) := keyToks d.toP
theorem dle_kle {x y : D} : dle x y = true ↔ (listOrd itemOrd).kle (tks x) (tks y) := by
  unfold dle dlt dataLt KeyOrd.kle
  rw [Bool.not_eq_true']
theorem dle_tr {a b c : D} (h1 : dle a b = true) (h2 : dle b c = true) : dle a c = true := dle_kle.mpr (KeyOrd.kle_trans (dle_kle.mp h1) (dle_kle.mp h2))
theorem dle_to (a b : D) : (dle a b || dle b a) = true := by
  cases h : dle a b with
  | true => rfl
  | false =>
    rw [Bool.false_or]
    refine dle_kle.mpr (KeyOrd.kle_of_klt ?_)
    unfold dle dlt dataLt at h
    rw [Bool.not_eq_false'] at h
    exact h
theorem dle_an {a b : D} (h1 : dle a b = true) (h2 : dle b a = true) : tks a = tks b := KeyOrd.kle_antisymm (dle_kle.mp h1) (dle_kle.mp h2)
theorem tks_str {x y : Str} (h : tks (.str x) = tks (.str y)) : x = y := by
  simp only [tks, D.toP, keyToks, List.cons.injEq, Sum.inr.injEq, and_true] at h
  exact str_of_cps h
theorem tksAll_str : ∀ {xs ys : List Str}, keyToksAll (D.toPs (xs.map D.str)) = keyToksAll (D.toPs (ys.map D.str)) → xs = ys
  | [], [], _ => rfl
  | [], y :: ys, h => by simp [D.toPs, keyToksAll] at h
  | x :: xs, [], h => by simp [D.toPs, keyToksAll] at h
  | x :: xs, y :: ys, h => by
    simp only [List.map_cons, D.toPs, keyToksAll, D.toP, keyToks, List.cons_append, List.nil_append, List.cons.injEq, Sum.inr.injEq, true_and] at h
    rw [str_of_cps h.1, tksAll_str h.2]
theorem tksAll_int : ∀ {xs ys : List Int}, keyToksAll (D.toPs (xs.map D.int)) = keyToksAll (D.toPs (ys.map D.int)) → xs = ys
  | [], [], _ => rfl
  | [], y :: ys, h => by simp [D.toPs, keyToksAll] at h
  | x :: xs, [], h => by simp [D.toPs, keyToksAll] at h
  | x :: xs, y :: ys, h => by
    simp only [List.map_cons, D.toPs, keyToksAll, D.toP, keyToks, List.cons_append, List.nil_append, List.cons.injEq, Sum.inl.injEq, true_and] at h
    rw [h.1, tksAll_int h.2]
/-- a tuple's order is first that of its first item, a number -/
theorem dle_fst {m n : Int} {xs ys : List D} (h : dle (.tup (.int m :: xs)) (.tup (.int n :: ys)) = true) : m ≤ n := by
  have h := dle_kle.mp h
  unfold KeyOrd.kle at h
  have h : lexLt itemOrd (tks (.tup (.int n :: ys))) (tks (.tup (.int m :: xs))) = false := h
  simp only [tks, D.toP, D.toPs, keyToks, keyToksAll, List.cons_append, List.nil_append] at h
  rw [lex_self] at h
  by_cases e : n = m
  · omega
  · rw [lex_diff (O := itemOrd) (by simpa using e)] at h
    have h : decide (n < m) = false := h
    have := of_decide_eq_false h
    omega
theorem srt_map {α : Type} (f : α → D) (xs : List α) : srt (xs.map f) = (xs.mergeSort fun a b => dle (f a) (f b)).map f := by
  unfold srt
  rw [List.map_mergeSort (r := fun a b => dle (f a) (f b)) (s := dle) fun _ _ _ _ => rfl]
theorem k_runT {n : Nat} {s : FS} {ds : List D} {Q : D → Prop} (h : Ok (s (startS n ds)) fun z => ∃ d, z.1 = .rt d ∧ Q d) : Ok (runF true n s ds) Q := by
  unfold runF
  obtain ⟨⟨fl, S'⟩, e, d, he, q⟩ := h
  have he : fl = .rt d := he
  subst he
  rw [e]
  exact ⟨d, rfl, q⟩
theorem k_isL {xs : List D} {Q : D → Prop} : Ok (isiD (.lst xs) (.ty "list")) Q ↔ Q (.bl true) := by
  have e : isiD (.lst xs) (.ty "list") = .ok (.bl true) := by first | rfl | decide
  rw [e, ok_ok]
theorem k_isT {xs : List D} {Q : D → Prop} : Ok (isiD (.tup xs) (.ty "tuple")) Q ↔ Q (.bl true) := by
  have e : isiD (.tup xs) (.ty "tuple") = .ok (.bl true) := by first | rfl | decide
  rw [e, ok_ok]
theorem k_isS {x : Str} {Q : D → Prop} : Ok (isiD (.str x) (.ty "str")) Q ↔ Q (.bl true) := by
  have e : isiD (.str x) (.ty "str") = .ok (.bl true) := by first | rfl | decide
  rw [e, ok_ok]
end Pf
set_option Elab.async false
set_option linter.all false
set_option maxRecDepth 100000
namespace Pf
open M PySem L2
def keyD (T : List Str) : D := .tup [.int T.length, stD T]
def le (a b : Str) : Bool := dle (.str a) (.str b)
def kle (a b : List Str) : Bool := dle (keyD a) (keyD b)
theorem LE : CX.TO le := ⟨fun _ _ _ h1 h2 => dle_tr h1 h2, fun _ _ => dle_to _ _⟩
theorem KLE : CX.TO kle := ⟨fun _ _ _ h1 h2 => dle_tr h1 h2, fun _ _ => dle_to _ _⟩
theorem le_an (a b : Str) (h1 : le a b = true) (h2 : le b a = true) : a = b := tks_str (dle_an h1 h2)
theorem kle_len (a b : List Str) (h : kle a b = true) : a.length ≤ b.length := by
  have := dle_fst h
  omega
theorem kle_an (a b : List Str) (h1 : kle a b = true) (h2 : kle b a = true) : a = b := by
  have h := dle_an h1 h2
  have hl : a.length = b.length := Nat.le_antisymm (kle_len _ _ h1) (kle_len _ _ h2)
  simp only [tks, keyD, stD, D.toP, D.toPs, PySem.W.keyToks, PySem.W.keyToksAll, hl, List.cons_append, List.nil_append, List.cons.injEq, true_and] at h
  exact tksAll_str (List.append_cancel_right h)
def WD : List Str := ["supply", "gaps0", "b", "choice", "needs1", "gaps10", "", "aa", "gaps1", "B", "needs0", "z 9"]
theorem WD_ok : ∀ x ∈ WD, PyData.strOk x = true := by decide +kernel
theorem dok_st {n : Nat} {T : List Str} (h : T ⊆ WD) : dok (n + 1) (stD T) = true := by
  show doks n (T.map D.str) = true
  exact doks_map _ _ _ fun x hx => by cases n <;> exact WD_ok x (h hx)
theorem alike_strs : ∀ (a b : List Str), alikeDs (a.map D.str) (b.map D.str) = true
  | [], _ => by simp [alikeDs]
  | _ :: _, [] => by simp [alikeDs]
  | x :: a, y :: b => by simp only [List.map_cons, alikeDs, alikeD, alike_strs a b, Bool.and_self]
theorem alike_key (a b : List Str) : alikeD (keyD a) (keyD b) = true := by
  simp only [keyD, stD, alikeD, alikeDs, alike_strs, Bool.and_self]
theorem dok_key {n : Nat} {T : List Str} (h : T ⊆ WD) : dok (n + 2) (keyD T) = true := by
  show doks (n + 1) [.int _, stD T] = true
  simp only [doks, dok, dok_st h, Bool.and_self, Bool.and_true]
theorem srtOk_key {L : List (List Str)} (h : ∀ T ∈ L, T ⊆ WD) : srtOk (L.map keyD) = true := by
  unfold srtOk
  rw [Bool.and_eq_true, Bool.and_eq_true]
  refine ⟨⟨doks_map _ _ _ fun T hT => dok_key (h T hT), ?_⟩, ?_⟩
  · simp only [List.all_eq_true, List.mem_map]
    rintro _ ⟨a, _, rfl⟩ _ ⟨b, _, rfl⟩
    exact alike_key a b
  · simp only [List.all_eq_true, List.mem_map]
    rintro _ ⟨a, _, rfl⟩
    rfl
theorem srtOk_str {T : List Str} (h : T ⊆ WD) : srtOk (T.map D.str) = true := by
  unfold srtOk
  rw [Bool.and_eq_true, Bool.and_eq_true]
  refine ⟨⟨doks_map _ _ _ fun x hx => WD_ok x (h hx), ?_⟩, ?_⟩
  · simp only [List.all_eq_true, List.mem_map]
    rintro _ ⟨a, _, rfl⟩ _ ⟨b, _, rfl⟩
    rfl
  · simp only [List.all_eq_true, List.mem_map]
    rintro _ ⟨a, _, rfl⟩
    rfl
theorem k_srtS {T : List Str} (h : T ⊆ WD) {Q : D → Prop} : Ok (srtAD (stD T)) Q ↔ Q (slD' (T.mergeSort le)) := by
  have e : srtAD (stD T) = .ok (slD' (T.mergeSort le)) := by
    simp only [srtAD, stD, srtOk_str h, if_true, srt_map]
    rfl
  rw [e, ok_ok]
theorem k_srtS' {T : List Str} (h : T ⊆ WD) {Q : D → Prop} : Ok (srtAD (slD' T)) Q ↔ Q (slD' (T.mergeSort le)) := by
  have e : srtAD (slD' T) = .ok (slD' (T.mergeSort le)) := by
    simp only [srtAD, slD', srtOk_str h, if_true, srt_map]
    rfl
  rw [e, ok_ok]
theorem k_srtK {L : List (List Str)} (h : ∀ T ∈ L, T ⊆ WD) {Q : D → Prop} : Ok (srtAD (.lst (L.map keyD))) Q ↔ Q (.lst ((L.mergeSort kle).map keyD)) := by
  have e : srtAD (.lst (L.map keyD)) = .ok (.lst ((L.mergeSort kle).map keyD)) := by
    simp only [srtAD, srtOk_key h, if_true, srt_map]
    rfl
  rw [e, ok_ok]
theorem p_by_size (T : List Str) : d_by_size [stD T] = .ok (keyD T) := by
  refine Ok.eq ?_
  have hs := size_ge
  unfold d_by_size m_by_size
  rw [ok_nox, k_run]
  (try simp only [↓k_guard, k_no, k_I, k_S, k_B, k_N, k_G, k_Y, k_V, k_W, k_O, g0_z, g0_s, gA_z, gA_s, g1_z, g1_s, k_1, k_2, k_n, k_c, k_T, k_L, k_C, k_f1, k_f2, k_App, k_M, k_P, k_3, k_tB, k_tT, k_toB, k_tNo, k_tA, k_tO, k_tY, k_And, k_Or, k_Not, k_eIf, k_nil, k_seq, k_set, k_own, k_drop, k_ret, k_retN, k_retO, k_if, k_fz, fz_z, fz_s, k_gN, k_gsN, k_gsC, k_gT, k_asg, k_for, k_fnil, k_fcons, k_app, oL_z, oL_s, k_par, k_run, k_runN, k_fld, oO_z, k_add, k_addL, k_sub, k_mul, k_div, k_mod, k_pow, k_neg, k_lt, k_le, k_gt, k_ge, k_eqI, k_neI, k_int, k_intB, k_abs, k_lenL, k_lenT, k_lenC, k_tru, k_tupL, k_tupT, k_items_l, k_items_t, k_rng1, k_ixL, k_ixT, k_ixC, k_fldD, ok_nox, ok_ok, ok_bind, List.set_cons_zero, List.set_cons_succ, startS, startN, List.map_cons, List.map_nil, List.cons_append, List.nil_append, List.append_nil, List.length_cons, List.length_nil, List.replicate, Nat.reduceSub, Nat.reduceAdd, Nat.reduceLeDiff, Nat.zero_add, true_and, and_true, false_implies, true_implies, implies_true, forall_const, reduceCtorEq, Bool.not_true, Bool.not_false, Bool.not_eq_true'])
  show Ok (lenD (.tup (T.map .str))) _
  rw [k_lenT]
  exact ⟨by omega, by rw [List.length_map]; rfl⟩
theorem keys_at : ∀ L : List (List Str), keysD d_by_size (L.map stD) = .ok (L.map keyD)
  | [] => rfl
  | T :: L => by
    simp only [List.map_cons, keysD, p_by_size, R.nox_ok, R.ok_bind, keys_at L]
theorem k_srtKD {L : List (List Str)} (h : ∀ T ∈ L, T ⊆ WD) {Q : D → Prop} : Ok (srtKD d_by_size (.lst (L.map stD))) Q ↔ Q (.lst ((L.mergeSort kle).map stD)) := by
  have e : srtKD d_by_size (.lst (L.map stD)) = .ok (.lst ((L.mergeSort kle).map stD)) := by
    simp only [srtKD, keys_at, R.ok_bind, srtOk_key h, if_true]
    have z : (L.map stD).zip (L.map keyD) = L.map fun T => (stD T, keyD T) := by
      rw [List.zip_map']
    unfold srtBy
    rw [z, ← List.map_mergeSort (r := kle) (f := fun T => (stD T, keyD T)) (s := fun (p q : D × D) => dle p.2 q.2) fun _ _ _ _ => rfl, List.map_map]
    rfl
  rw [e, ok_ok]
theorem any_str (x : Str) : ∀ T : List Str, ((T.map D.str).any fun z => deq z (.str x)) = T.contains x
  | [] => rfl
  | y :: T => by
    rw [List.map_cons, List.any_cons, any_str x T, List.contains_cons]
    congr 1
    show (y == x) = (x == y)
    rw [Bool.eq_iff_iff, beq_iff_eq, beq_iff_eq]; exact eq_comm
theorem k_inT {x : Str} {T : List Str} {Q : D → Prop} : Ok (inD (.str x) (stD T)) Q ↔ Q (.bl (T.contains x)) := by
  have e : inD (.str x) (stD T) = .ok (.bl (T.contains x)) := by
    have : (T.map D.str).all flatD = true := by simp [List.all_eq_true, flatD]
    simp only [inD, inD', stD, flatD, this, Bool.and_self, if_true, any_str]
  rw [e, ok_ok]
theorem k_inL {x : Str} {T : List Str} {Q : D → Prop} : Ok (inD (.str x) (slD' T)) Q ↔ Q (.bl (T.contains x)) := by
  have e : inD (.str x) (slD' T) = .ok (.bl (T.contains x)) := by
    have : (T.map D.str).all flatD = true := by simp [List.all_eq_true, flatD]
    simp only [inD, inD', slD', flatD, this, Bool.and_self, if_true, any_str]
  rw [e, ok_ok]
theorem k_itT {T : List Str} {Q : List D → Prop} : Ok (itemsD (stD T)) Q ↔ Q (T.map .str) := ok_ok
theorem k_itL {T : List Str} {Q : List D → Prop} : Ok (itemsD (slD' T)) Q ↔ Q (T.map .str) := ok_ok
theorem p_includes (a b : List Str) (hb : b.length ≤ 1000) : Ok (d_includes [stD a, stD b]) fun d => d = .bl (CX.inc a b) := by
  have hs := size_ge
  unfold d_includes m_includes
  rw [ok_nox, k_run]
  (try simp only [↓k_guard, k_no, k_I, k_S, k_B, k_N, k_G, k_Y, k_V, k_W, k_O, g0_z, g0_s, gA_z, gA_s, g1_z, g1_s, k_1, k_2, k_n, k_c, k_T, k_L, k_C, k_f1, k_f2, k_App, k_M, k_P, k_3, k_tB, k_tT, k_toB, k_tNo, k_tA, k_tO, k_tY, k_And, k_Or, k_Not, k_eIf, k_nil, k_seq, k_set, k_own, k_drop, k_ret, k_retN, k_retO, k_if, k_fz, fz_z, fz_s, k_gN, k_gsN, k_gsC, k_gT, k_asg, k_for, k_fnil, k_fcons, k_app, oL_z, oL_s, k_par, k_run, k_runN, k_fld, oO_z, k_add, k_addL, k_sub, k_mul, k_div, k_mod, k_pow, k_neg, k_lt, k_le, k_gt, k_ge, k_eqI, k_neI, k_int, k_intB, k_abs, k_lenL, k_lenT, k_lenC, k_tru, k_tupL, k_tupT, k_items_l, k_items_t, k_rng1, k_ixL, k_ixT, k_ixC, k_fldD, ok_nox, ok_ok, ok_bind, List.set_cons_zero, List.set_cons_succ, startS, startN, List.map_cons, List.map_nil, List.cons_append, List.nil_append, List.append_nil, List.length_cons, List.length_nil, List.replicate, Nat.reduceSub, Nat.reduceAdd, Nat.reduceLeDiff, Nat.zero_add, true_and, and_true, false_implies, true_implies, implies_true, forall_const, reduceCtorEq, Bool.not_true, Bool.not_false, Bool.not_eq_true'])
  refine k_lcM (f := D.str) (g := fun x => .bl (a.contains x)) b (by (try simp only [↓k_guard, k_no, k_I, k_S, k_B, k_N, k_G, k_Y, k_V, k_W, k_O, g0_z, g0_s, gA_z, gA_s, g1_z, g1_s, k_1, k_2, k_n, k_c, k_T, k_L, k_C, k_f1, k_f2, k_App, k_M, k_P, k_3, k_tB, k_tT, k_toB, k_tNo, k_tA, k_tO, k_tY, k_And, k_Or, k_Not, k_eIf, k_nil, k_seq, k_set, k_own, k_drop, k_ret, k_retN, k_retO, k_if, k_fz, fz_z, fz_s, k_gN, k_gsN, k_gsC, k_gT, k_asg, k_for, k_fnil, k_fcons, k_app, oL_z, oL_s, k_par, k_run, k_runN, k_fld, oO_z, k_add, k_addL, k_sub, k_mul, k_div, k_mod, k_pow, k_neg, k_lt, k_le, k_gt, k_ge, k_eqI, k_neI, k_int, k_intB, k_abs, k_lenL, k_lenT, k_lenC, k_tru, k_tupL, k_tupT, k_items_l, k_items_t, k_rng1, k_ixL, k_ixT, k_ixC, k_fldD, ok_nox, ok_ok, ok_bind, List.set_cons_zero, List.set_cons_succ, startS, startN, List.map_cons, List.map_nil, List.cons_append, List.nil_append, List.append_nil, List.length_cons, List.length_nil, List.replicate, Nat.reduceSub, Nat.reduceAdd, Nat.reduceLeDiff, Nat.zero_add, true_and, and_true, false_implies, true_implies, implies_true, forall_const, reduceCtorEq, Bool.not_true, Bool.not_false, Bool.not_eq_true', k_itT])) (by omega) (fun x hx => by (try simp only [↓k_guard, k_no, k_I, k_S, k_B, k_N, k_G, k_Y, k_V, k_W, k_O, g0_z, g0_s, gA_z, gA_s, g1_z, g1_s, k_1, k_2, k_n, k_c, k_T, k_L, k_C, k_f1, k_f2, k_App, k_M, k_P, k_3, k_tB, k_tT, k_toB, k_tNo, k_tA, k_tO, k_tY, k_And, k_Or, k_Not, k_eIf, k_nil, k_seq, k_set, k_own, k_drop, k_ret, k_retN, k_retO, k_if, k_fz, fz_z, fz_s, k_gN, k_gsN, k_gsC, k_gT, k_asg, k_for, k_fnil, k_fcons, k_app, oL_z, oL_s, k_par, k_run, k_runN, k_fld, oO_z, k_add, k_addL, k_sub, k_mul, k_div, k_mod, k_pow, k_neg, k_lt, k_le, k_gt, k_ge, k_eqI, k_neI, k_int, k_intB, k_abs, k_lenL, k_lenT, k_lenC, k_tru, k_tupL, k_tupT, k_items_l, k_items_t, k_rng1, k_ixL, k_ixT, k_ixC, k_fldD, ok_nox, ok_ok, ok_bind, List.set_cons_zero, List.set_cons_succ, startS, startN, List.map_cons, List.map_nil, List.cons_append, List.nil_append, List.append_nil, List.length_cons, List.length_nil, List.replicate, Nat.reduceSub, Nat.reduceAdd, Nat.reduceLeDiff, Nat.zero_add, true_and, and_true, false_implies, true_implies, implies_true, forall_const, reduceCtorEq, Bool.not_true, Bool.not_false, Bool.not_eq_true', wipeS, k_inT])) ?_
  rw [k_all]
  rfl
theorem p_least (L : List (List Str)) (hl : L.length ≤ 10000) (h : ∀ T ∈ L, T ⊆ WD ∧ T.length ≤ 1000) : Ok (d_least_of [.lst (L.map stD)]) fun d => d = .lst ((CX.leastOf kle L).map stD) := by
  have hs := size_ge
  unfold d_least_of m_least_of
  rw [ok_nox]
  refine k_runT ?_
  (try simp only [↓k_guard, k_no, k_I, k_S, k_B, k_N, k_G, k_Y, k_V, k_W, k_O, g0_z, g0_s, gA_z, gA_s, g1_z, g1_s, k_1, k_2, k_n, k_c, k_T, k_L, k_C, k_f1, k_f2, k_App, k_M, k_P, k_3, k_tB, k_tT, k_toB, k_tNo, k_tA, k_tO, k_tY, k_And, k_Or, k_Not, k_eIf, k_nil, k_seq, k_set, k_own, k_drop, k_ret, k_retN, k_retO, k_if, k_fz, fz_z, fz_s, k_gN, k_gsN, k_gsC, k_gT, k_asg, k_for, k_fnil, k_fcons, k_app, oL_z, oL_s, k_par, k_run, k_runN, k_fld, oO_z, k_add, k_addL, k_sub, k_mul, k_div, k_mod, k_pow, k_neg, k_lt, k_le, k_gt, k_ge, k_eqI, k_neI, k_int, k_intB, k_abs, k_lenL, k_lenT, k_lenC, k_tru, k_tupL, k_tupT, k_items_l, k_items_t, k_rng1, k_ixL, k_ixT, k_ixC, k_fldD, ok_nox, ok_ok, ok_bind, List.set_cons_zero, List.set_cons_succ, startS, startN, List.map_cons, List.map_nil, List.cons_append, List.nil_append, List.append_nil, List.length_cons, List.length_nil, List.replicate, Nat.reduceSub, Nat.reduceAdd, Nat.reduceLeDiff, Nat.zero_add, true_and, and_true, false_implies, true_implies, implies_true, forall_const, reduceCtorEq, Bool.not_true, Bool.not_false, Bool.not_eq_true'])
  refine ⟨by omega, ?_⟩
  rw [k_srtKD fun T hT => (h T hT).1, k_items_l]
  have hL : (L.mergeSort kle).length = L.length := List.length_mergeSort _
  refine for_typed (f := stD) (fun done S => ∃ (x y : Option Sl), S = [(some (Sl.mk false (.lst (L.map stD)))), (some (Sl.mk true (.lst ((done.foldl CX.lstep []).map stD)))), x, y]) (L.mergeSort kle) _ ⟨none, none, rfl⟩ ?_ ?_
  · rintro done c rest S e ⟨x, y, rfl⟩
    have hm : ∀ T ∈ done.foldl CX.lstep [], T ∈ L := fun T hT => by
      obtain ⟨R, e1, e2, _⟩ := CX.lfold done []
      rw [e1, List.nil_append] at hT
      have : T ∈ L.mergeSort kle := by rw [e]; exact List.mem_append_left _ (e2.subset hT)
      exact List.mem_mergeSort.mp this
    have hd : (done.foldl CX.lstep []).length ≤ done.length := by
      obtain ⟨R, e1, e2, _⟩ := CX.lfold done []
      rw [e1, List.nil_append]; exact e2.length_le
    have hdl : done.length < L.length := by rw [← hL, e, List.length_append, List.length_cons]; omega
    (try simp only [↓k_guard, k_no, k_I, k_S, k_B, k_N, k_G, k_Y, k_V, k_W, k_O, g0_z, g0_s, gA_z, gA_s, g1_z, g1_s, k_1, k_2, k_n, k_c, k_T, k_L, k_C, k_f1, k_f2, k_App, k_M, k_P, k_3, k_tB, k_tT, k_toB, k_tNo, k_tA, k_tO, k_tY, k_And, k_Or, k_Not, k_eIf, k_nil, k_seq, k_set, k_own, k_drop, k_ret, k_retN, k_retO, k_if, k_fz, fz_z, fz_s, k_gN, k_gsN, k_gsC, k_gT, k_asg, k_for, k_fnil, k_fcons, k_app, oL_z, oL_s, k_par, k_run, k_runN, k_fld, oO_z, k_add, k_addL, k_sub, k_mul, k_div, k_mod, k_pow, k_neg, k_lt, k_le, k_gt, k_ge, k_eqI, k_neI, k_int, k_intB, k_abs, k_lenL, k_lenT, k_lenC, k_tru, k_tupL, k_tupT, k_items_l, k_items_t, k_rng1, k_ixL, k_ixT, k_ixC, k_fldD, ok_nox, ok_ok, ok_bind, List.set_cons_zero, List.set_cons_succ, startS, startN, List.map_cons, List.map_nil, List.cons_append, List.nil_append, List.append_nil, List.length_cons, List.length_nil, List.replicate, Nat.reduceSub, Nat.reduceAdd, Nat.reduceLeDiff, Nat.zero_add, true_and, and_true, false_implies, true_implies, implies_true, forall_const, reduceCtorEq, Bool.not_true, Bool.not_false, Bool.not_eq_true'])
    refine k_lcM (f := stD) (g := fun r => .bl (CX.inc c r)) (done.foldl CX.lstep []) (by (try simp only [↓k_guard, k_no, k_I, k_S, k_B, k_N, k_G, k_Y, k_V, k_W, k_O, g0_z, g0_s, gA_z, gA_s, g1_z, g1_s, k_1, k_2, k_n, k_c, k_T, k_L, k_C, k_f1, k_f2, k_App, k_M, k_P, k_3, k_tB, k_tT, k_toB, k_tNo, k_tA, k_tO, k_tY, k_And, k_Or, k_Not, k_eIf, k_nil, k_seq, k_set, k_own, k_drop, k_ret, k_retN, k_retO, k_if, k_fz, fz_z, fz_s, k_gN, k_gsN, k_gsC, k_gT, k_asg, k_for, k_fnil, k_fcons, k_app, oL_z, oL_s, k_par, k_run, k_runN, k_fld, oO_z, k_add, k_addL, k_sub, k_mul, k_div, k_mod, k_pow, k_neg, k_lt, k_le, k_gt, k_ge, k_eqI, k_neI, k_int, k_intB, k_abs, k_lenL, k_lenT, k_lenC, k_tru, k_tupL, k_tupT, k_items_l, k_items_t, k_rng1, k_ixL, k_ixT, k_ixC, k_fldD, ok_nox, ok_ok, ok_bind, List.set_cons_zero, List.set_cons_succ, startS, startN, List.map_cons, List.map_nil, List.cons_append, List.nil_append, List.append_nil, List.length_cons, List.length_nil, List.replicate, Nat.reduceSub, Nat.reduceAdd, Nat.reduceLeDiff, Nat.zero_add, true_and, and_true, false_implies, true_implies, implies_true, forall_const, reduceCtorEq, Bool.not_true, Bool.not_false, Bool.not_eq_true'])) (by omega) (fun r hr => by
      (try simp only [↓k_guard, k_no, k_I, k_S, k_B, k_N, k_G, k_Y, k_V, k_W, k_O, g0_z, g0_s, gA_z, gA_s, g1_z, g1_s, k_1, k_2, k_n, k_c, k_T, k_L, k_C, k_f1, k_f2, k_App, k_M, k_P, k_3, k_tB, k_tT, k_toB, k_tNo, k_tA, k_tO, k_tY, k_And, k_Or, k_Not, k_eIf, k_nil, k_seq, k_set, k_own, k_drop, k_ret, k_retN, k_retO, k_if, k_fz, fz_z, fz_s, k_gN, k_gsN, k_gsC, k_gT, k_asg, k_for, k_fnil, k_fcons, k_app, oL_z, oL_s, k_par, k_run, k_runN, k_fld, oO_z, k_add, k_addL, k_sub, k_mul, k_div, k_mod, k_pow, k_neg, k_lt, k_le, k_gt, k_ge, k_eqI, k_neI, k_int, k_intB, k_abs, k_lenL, k_lenT, k_lenC, k_tru, k_tupL, k_tupT, k_items_l, k_items_t, k_rng1, k_ixL, k_ixT, k_ixC, k_fldD, ok_nox, ok_ok, ok_bind, List.set_cons_zero, List.set_cons_succ, startS, startN, List.map_cons, List.map_nil, List.cons_append, List.nil_append, List.append_nil, List.length_cons, List.length_nil, List.replicate, Nat.reduceSub, Nat.reduceAdd, Nat.reduceLeDiff, Nat.zero_add, true_and, and_true, false_implies, true_implies, implies_true, forall_const, reduceCtorEq, Bool.not_true, Bool.not_false, Bool.not_eq_true', wipeS])
      exact p_includes c r (h r (hm r hr)).2) ?_
    rw [k_any]
    (try simp only [↓k_guard, k_no, k_I, k_S, k_B, k_N, k_G, k_Y, k_V, k_W, k_O, g0_z, g0_s, gA_z, gA_s, g1_z, g1_s, k_1, k_2, k_n, k_c, k_T, k_L, k_C, k_f1, k_f2, k_App, k_M, k_P, k_3, k_tB, k_tT, k_toB, k_tNo, k_tA, k_tO, k_tY, k_And, k_Or, k_Not, k_eIf, k_nil, k_seq, k_set, k_own, k_drop, k_ret, k_retN, k_retO, k_if, k_fz, fz_z, fz_s, k_gN, k_gsN, k_gsC, k_gT, k_asg, k_for, k_fnil, k_fcons, k_app, oL_z, oL_s, k_par, k_run, k_runN, k_fld, oO_z, k_add, k_addL, k_sub, k_mul, k_div, k_mod, k_pow, k_neg, k_lt, k_le, k_gt, k_ge, k_eqI, k_neI, k_int, k_intB, k_abs, k_lenL, k_lenT, k_lenC, k_tru, k_tupL, k_tupT, k_items_l, k_items_t, k_rng1, k_ixL, k_ixT, k_ixC, k_fldD, ok_nox, ok_ok, ok_bind, List.set_cons_zero, List.set_cons_succ, startS, startN, List.map_cons, List.map_nil, List.cons_append, List.nil_append, List.append_nil, List.length_cons, List.length_nil, List.replicate, Nat.reduceSub, Nat.reduceAdd, Nat.reduceLeDiff, Nat.zero_add, true_and, and_true, false_implies, true_implies, implies_true, forall_const, reduceCtorEq, Bool.not_true, Bool.not_false, Bool.not_eq_true'])
    simp only [List.foldl_append, List.foldl_cons, List.foldl_nil]
    refine ⟨fun hb => ⟨by rw [List.length_map]; omega, ?_⟩, fun hb => ?_⟩
    · rw [CX.lstep_f hb, List.map_append]
      exact ⟨_, _, rfl⟩
    · rw [CX.lstep_t (by simpa using hb)]
      exact ⟨_, _, rfl⟩
  · rintro S ⟨x, y, rfl⟩
    (try simp only [↓k_guard, k_no, k_I, k_S, k_B, k_N, k_G, k_Y, k_V, k_W, k_O, g0_z, g0_s, gA_z, gA_s, g1_z, g1_s, k_1, k_2, k_n, k_c, k_T, k_L, k_C, k_f1, k_f2, k_App, k_M, k_P, k_3, k_tB, k_tT, k_toB, k_tNo, k_tA, k_tO, k_tY, k_And, k_Or, k_Not, k_eIf, k_nil, k_seq, k_set, k_own, k_drop, k_ret, k_retN, k_retO, k_if, k_fz, fz_z, fz_s, k_gN, k_gsN, k_gsC, k_gT, k_asg, k_for, k_fnil, k_fcons, k_app, oL_z, oL_s, k_par, k_run, k_runN, k_fld, oO_z, k_add, k_addL, k_sub, k_mul, k_div, k_mod, k_pow, k_neg, k_lt, k_le, k_gt, k_ge, k_eqI, k_neI, k_int, k_intB, k_abs, k_lenL, k_lenT, k_lenC, k_tru, k_tupL, k_tupT, k_items_l, k_items_t, k_rng1, k_ixL, k_ixT, k_ixC, k_fldD, ok_nox, ok_ok, ok_bind, List.set_cons_zero, List.set_cons_succ, startS, startN, List.map_cons, List.map_nil, List.cons_append, List.nil_append, List.append_nil, List.length_cons, List.length_nil, List.replicate, Nat.reduceSub, Nat.reduceAdd, Nat.reduceLeDiff, Nat.zero_add, true_and, and_true, false_implies, true_implies, implies_true, forall_const, reduceCtorEq, Bool.not_true, Bool.not_false, Bool.not_eq_true'])
    exact ⟨_, rfl, rfl⟩
end Pf
set_option Elab.async false
set_option linter.all false
set_option maxRecDepth 100000
namespace Pf
open M PySem L2
theorem any_c (c row : List Str) : (c.any fun x => row.contains x) = c.any (row.contains ·) := rfl
theorem p_crossing (N : List Str) (hN : N.Nodup) (hl : N.length ≤ 8) (hW : N ⊆ WD) (R : List (List Str)) (hR : ∀ r ∈ R, r ⊆ N ∧ r.length ≤ 9) : Ok (d_crossing [.lst (R.map stD)]) fun d => d = .lst ((CX.cross le kle R).map stD) := by
  have hs := size_ge
  unfold d_crossing m_crossing
  rw [ok_nox]
  refine k_runT ?_
  (try simp only [↓k_guard, k_no, k_I, k_S, k_B, k_N, k_G, k_Y, k_V, k_W, k_O, g0_z, g0_s, gA_z, gA_s, g1_z, g1_s, k_1, k_2, k_n, k_c, k_T, k_L, k_C, k_f1, k_f2, k_App, k_M, k_P, k_3, k_tB, k_tT, k_toB, k_tNo, k_tA, k_tO, k_tY, k_And, k_Or, k_Not, k_eIf, k_nil, k_seq, k_set, k_own, k_drop, k_ret, k_retN, k_retO, k_if, k_fz, fz_z, fz_s, k_gN, k_gsN, k_gsC, k_gT, k_asg, k_for, k_fnil, k_fcons, k_app, oL_z, oL_s, k_par, k_run, k_runN, k_fld, oO_z, k_add, k_addL, k_sub, k_mul, k_div, k_mod, k_pow, k_neg, k_lt, k_le, k_gt, k_ge, k_eqI, k_neI, k_int, k_intB, k_abs, k_lenL, k_lenT, k_lenC, k_tru, k_tupL, k_tupT, k_items_l, k_items_t, k_rng1, k_ixL, k_ixT, k_ixC, k_fldD, ok_nox, ok_ok, ok_bind, List.set_cons_zero, List.set_cons_succ, startS, startN, List.map_cons, List.map_nil, List.cons_append, List.nil_append, List.append_nil, List.length_cons, List.length_nil, List.replicate, Nat.reduceSub, Nat.reduceAdd, Nat.reduceLeDiff, Nat.zero_add, true_and, and_true, false_implies, true_implies, implies_true, forall_const, reduceCtorEq, Bool.not_true, Bool.not_false, Bool.not_eq_true'])
  refine ⟨by omega, by omega, ?_⟩
  refine for_typed (f := stD) (fun done S => ∃ (a b c d : Option Sl), S = [(some (Sl.mk false (.lst (R.map stD)))), (some (Sl.mk true (.lst ((done.foldl (CX.cross1 le kle) [[]]).map stD)))), a, b, c, d]) R _ ⟨none, none, none, none, rfl⟩ ?_ ?_
  · rintro done row rest S e ⟨a, b, c, d, rfl⟩
    have hI := CX.cross_ok LE KLE (names := N) (rows := done) fun r hr => (hR r (by rw [e]; simp [hr])).1
    have hI : CX.Inv le kle N done (done.foldl (CX.cross1 le kle) [[]]) := hI
    have hlen := CX.inv_len LE le_an hN hI
    have h256 : 2 ^ N.length ≤ 2 ^ 8 := Nat.pow_le_pow_right (by omega) hl
    generalize hF : done.foldl (CX.cross1 le kle) [[]] = F at hI hlen
    have hrow := hR row (by rw [e]; simp)
    have hT : ∀ T ∈ F, T ⊆ N ∧ T.length ≤ 8 := fun T h => by
      obtain ⟨_, q, r⟩ := hI.as T h
      exact ⟨r, Nat.le_trans (q.length_le_of_subset r) hl⟩
    (try simp only [↓k_guard, k_no, k_I, k_S, k_B, k_N, k_G, k_Y, k_V, k_W, k_O, g0_z, g0_s, gA_z, gA_s, g1_z, g1_s, k_1, k_2, k_n, k_c, k_T, k_L, k_C, k_f1, k_f2, k_App, k_M, k_P, k_3, k_tB, k_tT, k_toB, k_tNo, k_tA, k_tO, k_tY, k_And, k_Or, k_Not, k_eIf, k_nil, k_seq, k_set, k_own, k_drop, k_ret, k_retN, k_retO, k_if, k_fz, fz_z, fz_s, k_gN, k_gsN, k_gsC, k_gT, k_asg, k_for, k_fnil, k_fcons, k_app, oL_z, oL_s, k_par, k_run, k_runN, k_fld, oO_z, k_add, k_addL, k_sub, k_mul, k_div, k_mod, k_pow, k_neg, k_lt, k_le, k_gt, k_ge, k_eqI, k_neI, k_int, k_intB, k_abs, k_lenL, k_lenT, k_lenC, k_tru, k_tupL, k_tupT, k_items_l, k_items_t, k_rng1, k_ixL, k_ixT, k_ixC, k_fldD, ok_nox, ok_ok, ok_bind, List.set_cons_zero, List.set_cons_succ, startS, startN, List.map_cons, List.map_nil, List.cons_append, List.nil_append, List.append_nil, List.length_cons, List.length_nil, List.replicate, Nat.reduceSub, Nat.reduceAdd, Nat.reduceLeDiff, Nat.zero_add, true_and, and_true, false_implies, true_implies, implies_true, forall_const, reduceCtorEq, Bool.not_true, Bool.not_false, Bool.not_eq_true'])
    refine ⟨by omega, ?_⟩
    refine for_typed (f := stD) (fun done S => ∃ (c d : Option Sl), S = [(some (Sl.mk false (.lst (R.map stD)))), (some (Sl.mk true (.lst (F.map stD)))), (some (Sl.mk false (stD row))), (some (Sl.mk true (.lst ((done.flatMap (CX.ext le row)).map stD)))), c, d]) F _ ⟨c, d, by simp⟩ ?_ ?_
    · rintro dn ch rs S e2 ⟨c, d, rfl⟩
      have hch := hT ch (by rw [e2]; simp)
      have hdn : dn.length < 256 := by
        have : F.length = dn.length + (rs.length + 1) := by rw [e2, List.length_append, List.length_cons]
        omega
      have hfl := CX.flat_len (le := le) (row := row) dn
      have hfl2 : dn.length * (1 + row.length) ≤ 256 * 10 := Nat.mul_le_mul (by omega) (by omega)
      (try simp only [↓k_guard, k_no, k_I, k_S, k_B, k_N, k_G, k_Y, k_V, k_W, k_O, g0_z, g0_s, gA_z, gA_s, g1_z, g1_s, k_1, k_2, k_n, k_c, k_T, k_L, k_C, k_f1, k_f2, k_App, k_M, k_P, k_3, k_tB, k_tT, k_toB, k_tNo, k_tA, k_tO, k_tY, k_And, k_Or, k_Not, k_eIf, k_nil, k_seq, k_set, k_own, k_drop, k_ret, k_retN, k_retO, k_if, k_fz, fz_z, fz_s, k_gN, k_gsN, k_gsC, k_gT, k_asg, k_for, k_fnil, k_fcons, k_app, oL_z, oL_s, k_par, k_run, k_runN, k_fld, oO_z, k_add, k_addL, k_sub, k_mul, k_div, k_mod, k_pow, k_neg, k_lt, k_le, k_gt, k_ge, k_eqI, k_neI, k_int, k_intB, k_abs, k_lenL, k_lenT, k_lenC, k_tru, k_tupL, k_tupT, k_items_l, k_items_t, k_rng1, k_ixL, k_ixT, k_ixC, k_fldD, ok_nox, ok_ok, ok_bind, List.set_cons_zero, List.set_cons_succ, startS, startN, List.map_cons, List.map_nil, List.cons_append, List.nil_append, List.append_nil, List.length_cons, List.length_nil, List.replicate, Nat.reduceSub, Nat.reduceAdd, Nat.reduceLeDiff, Nat.zero_add, true_and, and_true, false_implies, true_implies, implies_true, forall_const, reduceCtorEq, Bool.not_true, Bool.not_false, Bool.not_eq_true'])
      refine k_lcM (f := D.str) (g := fun x => .bl (row.contains x)) ch (by (try simp only [↓k_guard, k_no, k_I, k_S, k_B, k_N, k_G, k_Y, k_V, k_W, k_O, g0_z, g0_s, gA_z, gA_s, g1_z, g1_s, k_1, k_2, k_n, k_c, k_T, k_L, k_C, k_f1, k_f2, k_App, k_M, k_P, k_3, k_tB, k_tT, k_toB, k_tNo, k_tA, k_tO, k_tY, k_And, k_Or, k_Not, k_eIf, k_nil, k_seq, k_set, k_own, k_drop, k_ret, k_retN, k_retO, k_if, k_fz, fz_z, fz_s, k_gN, k_gsN, k_gsC, k_gT, k_asg, k_for, k_fnil, k_fcons, k_app, oL_z, oL_s, k_par, k_run, k_runN, k_fld, oO_z, k_add, k_addL, k_sub, k_mul, k_div, k_mod, k_pow, k_neg, k_lt, k_le, k_gt, k_ge, k_eqI, k_neI, k_int, k_intB, k_abs, k_lenL, k_lenT, k_lenC, k_tru, k_tupL, k_tupT, k_items_l, k_items_t, k_rng1, k_ixL, k_ixT, k_ixC, k_fldD, ok_nox, ok_ok, ok_bind, List.set_cons_zero, List.set_cons_succ, startS, startN, List.map_cons, List.map_nil, List.cons_append, List.nil_append, List.append_nil, List.length_cons, List.length_nil, List.replicate, Nat.reduceSub, Nat.reduceAdd, Nat.reduceLeDiff, Nat.zero_add, true_and, and_true, false_implies, true_implies, implies_true, forall_const, reduceCtorEq, Bool.not_true, Bool.not_false, Bool.not_eq_true', k_itT])) (by omega) (fun x hx => by (try simp only [↓k_guard, k_no, k_I, k_S, k_B, k_N, k_G, k_Y, k_V, k_W, k_O, g0_z, g0_s, gA_z, gA_s, g1_z, g1_s, k_1, k_2, k_n, k_c, k_T, k_L, k_C, k_f1, k_f2, k_App, k_M, k_P, k_3, k_tB, k_tT, k_toB, k_tNo, k_tA, k_tO, k_tY, k_And, k_Or, k_Not, k_eIf, k_nil, k_seq, k_set, k_own, k_drop, k_ret, k_retN, k_retO, k_if, k_fz, fz_z, fz_s, k_gN, k_gsN, k_gsC, k_gT, k_asg, k_for, k_fnil, k_fcons, k_app, oL_z, oL_s, k_par, k_run, k_runN, k_fld, oO_z, k_add, k_addL, k_sub, k_mul, k_div, k_mod, k_pow, k_neg, k_lt, k_le, k_gt, k_ge, k_eqI, k_neI, k_int, k_intB, k_abs, k_lenL, k_lenT, k_lenC, k_tru, k_tupL, k_tupT, k_items_l, k_items_t, k_rng1, k_ixL, k_ixT, k_ixC, k_fldD, ok_nox, ok_ok, ok_bind, List.set_cons_zero, List.set_cons_succ, startS, startN, List.map_cons, List.map_nil, List.cons_append, List.nil_append, List.append_nil, List.length_cons, List.length_nil, List.replicate, Nat.reduceSub, Nat.reduceAdd, Nat.reduceLeDiff, Nat.zero_add, true_and, and_true, false_implies, true_implies, implies_true, forall_const, reduceCtorEq, Bool.not_true, Bool.not_false, Bool.not_eq_true', wipeS, k_inT])) ?_
      rw [k_any]
      (try simp only [↓k_guard, k_no, k_I, k_S, k_B, k_N, k_G, k_Y, k_V, k_W, k_O, g0_z, g0_s, gA_z, gA_s, g1_z, g1_s, k_1, k_2, k_n, k_c, k_T, k_L, k_C, k_f1, k_f2, k_App, k_M, k_P, k_3, k_tB, k_tT, k_toB, k_tNo, k_tA, k_tO, k_tY, k_And, k_Or, k_Not, k_eIf, k_nil, k_seq, k_set, k_own, k_drop, k_ret, k_retN, k_retO, k_if, k_fz, fz_z, fz_s, k_gN, k_gsN, k_gsC, k_gT, k_asg, k_for, k_fnil, k_fcons, k_app, oL_z, oL_s, k_par, k_run, k_runN, k_fld, oO_z, k_add, k_addL, k_sub, k_mul, k_div, k_mod, k_pow, k_neg, k_lt, k_le, k_gt, k_ge, k_eqI, k_neI, k_int, k_intB, k_abs, k_lenL, k_lenT, k_lenC, k_tru, k_tupL, k_tupT, k_items_l, k_items_t, k_rng1, k_ixL, k_ixT, k_ixC, k_fldD, ok_nox, ok_ok, ok_bind, List.set_cons_zero, List.set_cons_succ, startS, startN, List.map_cons, List.map_nil, List.cons_append, List.nil_append, List.append_nil, List.length_cons, List.length_nil, List.replicate, Nat.reduceSub, Nat.reduceAdd, Nat.reduceLeDiff, Nat.zero_add, true_and, and_true, false_implies, true_implies, implies_true, forall_const, reduceCtorEq, Bool.not_true, Bool.not_false, Bool.not_eq_true'])
      simp only [List.flatMap_append, List.flatMap_cons, List.flatMap_nil, List.append_nil]
      refine ⟨fun hb => ⟨by rw [List.length_map]; omega, ?_⟩, fun hb => ?_⟩
      · have : CX.ext le row ch = [ch] := by unfold CX.ext; rw [if_pos hb]
        rw [this, List.map_append]
        exact ⟨_, _, rfl⟩
      · have hext : CX.ext le row ch = row.map fun m => (ch ++ [m]).mergeSort le := by unfold CX.ext; rw [if_neg (by simpa using hb)]
        rw [k_ext]
        (try simp only [↓k_guard, k_no, k_I, k_S, k_B, k_N, k_G, k_Y, k_V, k_W, k_O, g0_z, g0_s, gA_z, gA_s, g1_z, g1_s, k_1, k_2, k_n, k_c, k_T, k_L, k_C, k_f1, k_f2, k_App, k_M, k_P, k_3, k_tB, k_tT, k_toB, k_tNo, k_tA, k_tO, k_tY, k_And, k_Or, k_Not, k_eIf, k_nil, k_seq, k_set, k_own, k_drop, k_ret, k_retN, k_retO, k_if, k_fz, fz_z, fz_s, k_gN, k_gsN, k_gsC, k_gT, k_asg, k_for, k_fnil, k_fcons, k_app, oL_z, oL_s, k_par, k_run, k_runN, k_fld, oO_z, k_add, k_addL, k_sub, k_mul, k_div, k_mod, k_pow, k_neg, k_lt, k_le, k_gt, k_ge, k_eqI, k_neI, k_int, k_intB, k_abs, k_lenL, k_lenT, k_lenC, k_tru, k_tupL, k_tupT, k_items_l, k_items_t, k_rng1, k_ixL, k_ixT, k_ixC, k_fldD, ok_nox, ok_ok, ok_bind, List.set_cons_zero, List.set_cons_succ, startS, startN, List.map_cons, List.map_nil, List.cons_append, List.nil_append, List.append_nil, List.length_cons, List.length_nil, List.replicate, Nat.reduceSub, Nat.reduceAdd, Nat.reduceLeDiff, Nat.zero_add, true_and, and_true, false_implies, true_implies, implies_true, forall_const, reduceCtorEq, Bool.not_true, Bool.not_false, Bool.not_eq_true'])
        refine k_lcM (f := D.str) (g := fun m => stD ((ch ++ [m]).mergeSort le)) row (by (try simp only [↓k_guard, k_no, k_I, k_S, k_B, k_N, k_G, k_Y, k_V, k_W, k_O, g0_z, g0_s, gA_z, gA_s, g1_z, g1_s, k_1, k_2, k_n, k_c, k_T, k_L, k_C, k_f1, k_f2, k_App, k_M, k_P, k_3, k_tB, k_tT, k_toB, k_tNo, k_tA, k_tO, k_tY, k_And, k_Or, k_Not, k_eIf, k_nil, k_seq, k_set, k_own, k_drop, k_ret, k_retN, k_retO, k_if, k_fz, fz_z, fz_s, k_gN, k_gsN, k_gsC, k_gT, k_asg, k_for, k_fnil, k_fcons, k_app, oL_z, oL_s, k_par, k_run, k_runN, k_fld, oO_z, k_add, k_addL, k_sub, k_mul, k_div, k_mod, k_pow, k_neg, k_lt, k_le, k_gt, k_ge, k_eqI, k_neI, k_int, k_intB, k_abs, k_lenL, k_lenT, k_lenC, k_tru, k_tupL, k_tupT, k_items_l, k_items_t, k_rng1, k_ixL, k_ixT, k_ixC, k_fldD, ok_nox, ok_ok, ok_bind, List.set_cons_zero, List.set_cons_succ, startS, startN, List.map_cons, List.map_nil, List.cons_append, List.nil_append, List.append_nil, List.length_cons, List.length_nil, List.replicate, Nat.reduceSub, Nat.reduceAdd, Nat.reduceLeDiff, Nat.zero_add, true_and, and_true, false_implies, true_implies, implies_true, forall_const, reduceCtorEq, Bool.not_true, Bool.not_false, Bool.not_eq_true', k_itT])) (by omega) (fun x hx => ?_) ?_
        · (try simp only [↓k_guard, k_no, k_I, k_S, k_B, k_N, k_G, k_Y, k_V, k_W, k_O, g0_z, g0_s, gA_z, gA_s, g1_z, g1_s, k_1, k_2, k_n, k_c, k_T, k_L, k_C, k_f1, k_f2, k_App, k_M, k_P, k_3, k_tB, k_tT, k_toB, k_tNo, k_tA, k_tO, k_tY, k_And, k_Or, k_Not, k_eIf, k_nil, k_seq, k_set, k_own, k_drop, k_ret, k_retN, k_retO, k_if, k_fz, fz_z, fz_s, k_gN, k_gsN, k_gsC, k_gT, k_asg, k_for, k_fnil, k_fcons, k_app, oL_z, oL_s, k_par, k_run, k_runN, k_fld, oO_z, k_add, k_addL, k_sub, k_mul, k_div, k_mod, k_pow, k_neg, k_lt, k_le, k_gt, k_ge, k_eqI, k_neI, k_int, k_intB, k_abs, k_lenL, k_lenT, k_lenC, k_tru, k_tupL, k_tupT, k_items_l, k_items_t, k_rng1, k_ixL, k_ixT, k_ixC, k_fldD, ok_nox, ok_ok, ok_bind, List.set_cons_zero, List.set_cons_succ, startS, startN, List.map_cons, List.map_nil, List.cons_append, List.nil_append, List.append_nil, List.length_cons, List.length_nil, List.replicate, Nat.reduceSub, Nat.reduceAdd, Nat.reduceLeDiff, Nat.zero_add, true_and, and_true, false_implies, true_implies, implies_true, forall_const, reduceCtorEq, Bool.not_true, Bool.not_false, Bool.not_eq_true', wipeS])
          refine ⟨by omega, ?_⟩
          show Ok (addD (.tup (ch.map .str)) _) _
          rw [k_addT]
          refine ⟨by simp only [List.length_map, List.length_cons, List.length_nil]; omega, ?_⟩
          have ez : D.tup (ch.map D.str ++ [D.str x]) = stD (ch ++ [x]) := by simp [stD]
          rw [ez, k_srtS]
          · show Ok (tupD (.lst _)) _
            rw [k_tupL]; rfl
          · intro z hz
            rcases List.mem_append.mp hz with q | q
            · exact hW (hch.1 q)
            · rw [List.mem_singleton] at q; subst q; exact hW (hrow.1 hx)
        · refine ⟨_, rfl, by simp only [List.length_map]; omega, ?_⟩
          rw [hext, List.map_append, List.map_map]
          exact ⟨_, _, rfl⟩
    · rintro S ⟨c, d, rfl⟩
      have hfl := CX.flat_len (le := le) (row := row) F
      have hfl2 : F.length * (1 + row.length) ≤ 256 * 10 := Nat.mul_le_mul (by omega) (by omega)
      (try simp only [↓k_guard, k_no, k_I, k_S, k_B, k_N, k_G, k_Y, k_V, k_W, k_O, g0_z, g0_s, gA_z, gA_s, g1_z, g1_s, k_1, k_2, k_n, k_c, k_T, k_L, k_C, k_f1, k_f2, k_App, k_M, k_P, k_3, k_tB, k_tT, k_toB, k_tNo, k_tA, k_tO, k_tY, k_And, k_Or, k_Not, k_eIf, k_nil, k_seq, k_set, k_own, k_drop, k_ret, k_retN, k_retO, k_if, k_fz, fz_z, fz_s, k_gN, k_gsN, k_gsC, k_gT, k_asg, k_for, k_fnil, k_fcons, k_app, oL_z, oL_s, k_par, k_run, k_runN, k_fld, oO_z, k_add, k_addL, k_sub, k_mul, k_div, k_mod, k_pow, k_neg, k_lt, k_le, k_gt, k_ge, k_eqI, k_neI, k_int, k_intB, k_abs, k_lenL, k_lenT, k_lenC, k_tru, k_tupL, k_tupT, k_items_l, k_items_t, k_rng1, k_ixL, k_ixT, k_ixC, k_fldD, ok_nox, ok_ok, ok_bind, List.set_cons_zero, List.set_cons_succ, startS, startN, List.map_cons, List.map_nil, List.cons_append, List.nil_append, List.append_nil, List.length_cons, List.length_nil, List.replicate, Nat.reduceSub, Nat.reduceAdd, Nat.reduceLeDiff, Nat.zero_add, true_and, and_true, false_implies, true_implies, implies_true, forall_const, reduceCtorEq, Bool.not_true, Bool.not_false, Bool.not_eq_true'])
      refine (p_least (F.flatMap (CX.ext le row)) (by omega) fun T hTm => ?_).mono ?_
      · obtain ⟨S0, hS0, hm⟩ := List.mem_flatMap.mp hTm
        obtain ⟨q1, q2⟩ := CX.ext_sub hrow.1 (hT S0 hS0).1 T hm
        have := (hT S0 hS0).2
        exact ⟨fun x hx => hW (q1 hx), by omega⟩
      · rintro d' rfl
        simp only [List.foldl_append, List.foldl_cons, List.foldl_nil]
        rw [hF]
        exact ⟨_, _, _, _, rfl⟩
  · rintro S ⟨a, b, c, d, rfl⟩
    (try simp only [↓k_guard, k_no, k_I, k_S, k_B, k_N, k_G, k_Y, k_V, k_W, k_O, g0_z, g0_s, gA_z, gA_s, g1_z, g1_s, k_1, k_2, k_n, k_c, k_T, k_L, k_C, k_f1, k_f2, k_App, k_M, k_P, k_3, k_tB, k_tT, k_toB, k_tNo, k_tA, k_tO, k_tY, k_And, k_Or, k_Not, k_eIf, k_nil, k_seq, k_set, k_own, k_drop, k_ret, k_retN, k_retO, k_if, k_fz, fz_z, fz_s, k_gN, k_gsN, k_gsC, k_gT, k_asg, k_for, k_fnil, k_fcons, k_app, oL_z, oL_s, k_par, k_run, k_runN, k_fld, oO_z, k_add, k_addL, k_sub, k_mul, k_div, k_mod, k_pow, k_neg, k_lt, k_le, k_gt, k_ge, k_eqI, k_neI, k_int, k_intB, k_abs, k_lenL, k_lenT, k_lenC, k_tru, k_tupL, k_tupT, k_items_l, k_items_t, k_rng1, k_ixL, k_ixT, k_ixC, k_fldD, ok_nox, ok_ok, ok_bind, List.set_cons_zero, List.set_cons_succ, startS, startN, List.map_cons, List.map_nil, List.cons_append, List.nil_append, List.append_nil, List.length_cons, List.length_nil, List.replicate, Nat.reduceSub, Nat.reduceAdd, Nat.reduceLeDiff, Nat.zero_add, true_and, and_true, false_implies, true_implies, implies_true, forall_const, reduceCtorEq, Bool.not_true, Bool.not_false, Bool.not_eq_true'])
    exact ⟨_, rfl, rfl⟩
end Pf
set_option Elab.async false
set_option linter.all false
set_option maxRecDepth 100000
namespace Pf
open M PySem L2
def hitsB (R : List (List Str)) (T : List Str) : Bool := decide (((R.filter fun r => decide (((r.filter fun x => T.contains x).length : Int) = 0)).length : Int) = 0)
theorem hits_iff {R : List (List Str)} {T : List Str} : hitsB R T = true ↔ CX.Hit R T := by
  unfold hitsB CX.Hit
  rw [decide_eq_true_eq]
  constructor
  · intro h r hr
    have h0 : (R.filter fun r => decide (((r.filter fun x => T.contains x).length : Int) = 0)) = [] := List.length_eq_zero_iff.mp (by omega)
    have := List.filter_eq_nil_iff.mp h0 r hr
    rw [decide_eq_true_eq] at this
    cases e : r.filter fun x => T.contains x with
    | nil => rw [e] at this; exact absurd rfl this
    | cons x l =>
      have hx : x ∈ r.filter fun x => T.contains x := by rw [e]; simp
      rw [List.mem_filter] at hx
      exact ⟨x, by simpa using hx.2, hx.1⟩
  · intro h
    have h0 : (R.filter fun r => decide (((r.filter fun x => T.contains x).length : Int) = 0)) = [] := by
      rw [List.filter_eq_nil_iff]
      intro r hr
      obtain ⟨x, hx, hxr⟩ := h r hr
      rw [decide_eq_true_eq]
      intro z
      have : x ∈ r.filter fun x => T.contains x := List.mem_filter.mpr ⟨hxr, by simpa using hx⟩
      rw [List.length_eq_zero_iff.mp (show (r.filter fun x => T.contains x).length = 0 by omega)] at this
      cases this
    rw [h0]; rfl
theorem p_hits (T : List Str) (R : List (List Str)) (C : D) (hC : ∀ (x : Str) (Q : D → Prop), Ok (inD (.str x) C) Q ↔ Q (.bl (T.contains x))) (hl : R.length ≤ 1000) (hR : ∀ r ∈ R, r.length ≤ 1000) :
    Ok (d__law_hits [C, .lst (R.map stD)]) fun d => d = .bl (hitsB R T) := by
  have hs := size_ge
  unfold d__law_hits m__law_hits
  rw [ok_nox, k_run]
  (try simp only [↓k_guard, k_no, k_I, k_S, k_B, k_N, k_G, k_Y, k_V, k_W, k_O, g0_z, g0_s, gA_z, gA_s, g1_z, g1_s, k_1, k_2, k_n, k_c, k_T, k_L, k_C, k_f1, k_f2, k_App, k_M, k_P, k_3, k_tB, k_tT, k_toB, k_tNo, k_tA, k_tO, k_tY, k_And, k_Or, k_Not, k_eIf, k_nil, k_seq, k_set, k_own, k_drop, k_ret, k_retN, k_retO, k_if, k_fz, fz_z, fz_s, k_gN, k_gsN, k_gsC, k_gT, k_asg, k_for, k_fnil, k_fcons, k_app, oL_z, oL_s, k_par, k_run, k_runN, k_fld, oO_z, k_add, k_addL, k_sub, k_mul, k_div, k_mod, k_pow, k_neg, k_lt, k_le, k_gt, k_ge, k_eqI, k_neI, k_int, k_intB, k_abs, k_lenL, k_lenT, k_lenC, k_tru, k_tupL, k_tupT, k_items_l, k_items_t, k_rng1, k_ixL, k_ixT, k_ixC, k_fldD, ok_nox, ok_ok, ok_bind, List.set_cons_zero, List.set_cons_succ, startS, startN, List.map_cons, List.map_nil, List.cons_append, List.nil_append, List.append_nil, List.length_cons, List.length_nil, List.replicate, Nat.reduceSub, Nat.reduceAdd, Nat.reduceLeDiff, Nat.zero_add, true_and, and_true, false_implies, true_implies, implies_true, forall_const, reduceCtorEq, Bool.not_true, Bool.not_false, Bool.not_eq_true'])
  refine k_lcT (f := stD) (p := fun r => decide (((r.filter fun x => T.contains x).length : Int) = 0)) (g := stD) R (by (try simp only [↓k_guard, k_no, k_I, k_S, k_B, k_N, k_G, k_Y, k_V, k_W, k_O, g0_z, g0_s, gA_z, gA_s, g1_z, g1_s, k_1, k_2, k_n, k_c, k_T, k_L, k_C, k_f1, k_f2, k_App, k_M, k_P, k_3, k_tB, k_tT, k_toB, k_tNo, k_tA, k_tO, k_tY, k_And, k_Or, k_Not, k_eIf, k_nil, k_seq, k_set, k_own, k_drop, k_ret, k_retN, k_retO, k_if, k_fz, fz_z, fz_s, k_gN, k_gsN, k_gsC, k_gT, k_asg, k_for, k_fnil, k_fcons, k_app, oL_z, oL_s, k_par, k_run, k_runN, k_fld, oO_z, k_add, k_addL, k_sub, k_mul, k_div, k_mod, k_pow, k_neg, k_lt, k_le, k_gt, k_ge, k_eqI, k_neI, k_int, k_intB, k_abs, k_lenL, k_lenT, k_lenC, k_tru, k_tupL, k_tupT, k_items_l, k_items_t, k_rng1, k_ixL, k_ixT, k_ixC, k_fldD, ok_nox, ok_ok, ok_bind, List.set_cons_zero, List.set_cons_succ, startS, startN, List.map_cons, List.map_nil, List.cons_append, List.nil_append, List.append_nil, List.length_cons, List.length_nil, List.replicate, Nat.reduceSub, Nat.reduceAdd, Nat.reduceLeDiff, Nat.zero_add, true_and, and_true, false_implies, true_implies, implies_true, forall_const, reduceCtorEq, Bool.not_true, Bool.not_false, Bool.not_eq_true'])) (by omega) (fun r hr => ?_) ?_
  · (try simp only [↓k_guard, k_no, k_I, k_S, k_B, k_N, k_G, k_Y, k_V, k_W, k_O, g0_z, g0_s, gA_z, gA_s, g1_z, g1_s, k_1, k_2, k_n, k_c, k_T, k_L, k_C, k_f1, k_f2, k_App, k_M, k_P, k_3, k_tB, k_tT, k_toB, k_tNo, k_tA, k_tO, k_tY, k_And, k_Or, k_Not, k_eIf, k_nil, k_seq, k_set, k_own, k_drop, k_ret, k_retN, k_retO, k_if, k_fz, fz_z, fz_s, k_gN, k_gsN, k_gsC, k_gT, k_asg, k_for, k_fnil, k_fcons, k_app, oL_z, oL_s, k_par, k_run, k_runN, k_fld, oO_z, k_add, k_addL, k_sub, k_mul, k_div, k_mod, k_pow, k_neg, k_lt, k_le, k_gt, k_ge, k_eqI, k_neI, k_int, k_intB, k_abs, k_lenL, k_lenT, k_lenC, k_tru, k_tupL, k_tupT, k_items_l, k_items_t, k_rng1, k_ixL, k_ixT, k_ixC, k_fldD, ok_nox, ok_ok, ok_bind, List.set_cons_zero, List.set_cons_succ, startS, startN, List.map_cons, List.map_nil, List.cons_append, List.nil_append, List.append_nil, List.length_cons, List.length_nil, List.replicate, Nat.reduceSub, Nat.reduceAdd, Nat.reduceLeDiff, Nat.zero_add, true_and, and_true, false_implies, true_implies, implies_true, forall_const, reduceCtorEq, Bool.not_true, Bool.not_false, Bool.not_eq_true', wipeS])
    refine k_lcT (f := D.str) (p := fun x => T.contains x) (g := D.str) r (by (try simp only [↓k_guard, k_no, k_I, k_S, k_B, k_N, k_G, k_Y, k_V, k_W, k_O, g0_z, g0_s, gA_z, gA_s, g1_z, g1_s, k_1, k_2, k_n, k_c, k_T, k_L, k_C, k_f1, k_f2, k_App, k_M, k_P, k_3, k_tB, k_tT, k_toB, k_tNo, k_tA, k_tO, k_tY, k_And, k_Or, k_Not, k_eIf, k_nil, k_seq, k_set, k_own, k_drop, k_ret, k_retN, k_retO, k_if, k_fz, fz_z, fz_s, k_gN, k_gsN, k_gsC, k_gT, k_asg, k_for, k_fnil, k_fcons, k_app, oL_z, oL_s, k_par, k_run, k_runN, k_fld, oO_z, k_add, k_addL, k_sub, k_mul, k_div, k_mod, k_pow, k_neg, k_lt, k_le, k_gt, k_ge, k_eqI, k_neI, k_int, k_intB, k_abs, k_lenL, k_lenT, k_lenC, k_tru, k_tupL, k_tupT, k_items_l, k_items_t, k_rng1, k_ixL, k_ixT, k_ixC, k_fldD, ok_nox, ok_ok, ok_bind, List.set_cons_zero, List.set_cons_succ, startS, startN, List.map_cons, List.map_nil, List.cons_append, List.nil_append, List.append_nil, List.length_cons, List.length_nil, List.replicate, Nat.reduceSub, Nat.reduceAdd, Nat.reduceLeDiff, Nat.zero_add, true_and, and_true, false_implies, true_implies, implies_true, forall_const, reduceCtorEq, Bool.not_true, Bool.not_false, Bool.not_eq_true', k_itT])) (by have := hR r hr; omega) (fun x hx => ?_) ?_
    · (try simp only [↓k_guard, k_no, k_I, k_S, k_B, k_N, k_G, k_Y, k_V, k_W, k_O, g0_z, g0_s, gA_z, gA_s, g1_z, g1_s, k_1, k_2, k_n, k_c, k_T, k_L, k_C, k_f1, k_f2, k_App, k_M, k_P, k_3, k_tB, k_tT, k_toB, k_tNo, k_tA, k_tO, k_tY, k_And, k_Or, k_Not, k_eIf, k_nil, k_seq, k_set, k_own, k_drop, k_ret, k_retN, k_retO, k_if, k_fz, fz_z, fz_s, k_gN, k_gsN, k_gsC, k_gT, k_asg, k_for, k_fnil, k_fcons, k_app, oL_z, oL_s, k_par, k_run, k_runN, k_fld, oO_z, k_add, k_addL, k_sub, k_mul, k_div, k_mod, k_pow, k_neg, k_lt, k_le, k_gt, k_ge, k_eqI, k_neI, k_int, k_intB, k_abs, k_lenL, k_lenT, k_lenC, k_tru, k_tupL, k_tupT, k_items_l, k_items_t, k_rng1, k_ixL, k_ixT, k_ixC, k_fldD, ok_nox, ok_ok, ok_bind, List.set_cons_zero, List.set_cons_succ, startS, startN, List.map_cons, List.map_nil, List.cons_append, List.nil_append, List.append_nil, List.length_cons, List.length_nil, List.replicate, Nat.reduceSub, Nat.reduceAdd, Nat.reduceLeDiff, Nat.zero_add, true_and, and_true, false_implies, true_implies, implies_true, forall_const, reduceCtorEq, Bool.not_true, Bool.not_false, Bool.not_eq_true', wipeS, hC])
    · (try simp only [↓k_guard, k_no, k_I, k_S, k_B, k_N, k_G, k_Y, k_V, k_W, k_O, g0_z, g0_s, gA_z, gA_s, g1_z, g1_s, k_1, k_2, k_n, k_c, k_T, k_L, k_C, k_f1, k_f2, k_App, k_M, k_P, k_3, k_tB, k_tT, k_toB, k_tNo, k_tA, k_tO, k_tY, k_And, k_Or, k_Not, k_eIf, k_nil, k_seq, k_set, k_own, k_drop, k_ret, k_retN, k_retO, k_if, k_fz, fz_z, fz_s, k_gN, k_gsN, k_gsC, k_gT, k_asg, k_for, k_fnil, k_fcons, k_app, oL_z, oL_s, k_par, k_run, k_runN, k_fld, oO_z, k_add, k_addL, k_sub, k_mul, k_div, k_mod, k_pow, k_neg, k_lt, k_le, k_gt, k_ge, k_eqI, k_neI, k_int, k_intB, k_abs, k_lenL, k_lenT, k_lenC, k_tru, k_tupL, k_tupT, k_items_l, k_items_t, k_rng1, k_ixL, k_ixT, k_ixC, k_fldD, ok_nox, ok_ok, ok_bind, List.set_cons_zero, List.set_cons_succ, startS, startN, List.map_cons, List.map_nil, List.cons_append, List.nil_append, List.append_nil, List.length_cons, List.length_nil, List.replicate, Nat.reduceSub, Nat.reduceAdd, Nat.reduceLeDiff, Nat.zero_add, true_and, and_true, false_implies, true_implies, implies_true, forall_const, reduceCtorEq, Bool.not_true, Bool.not_false, Bool.not_eq_true'])
      rw [List.length_map]
  · (try simp only [↓k_guard, k_no, k_I, k_S, k_B, k_N, k_G, k_Y, k_V, k_W, k_O, g0_z, g0_s, gA_z, gA_s, g1_z, g1_s, k_1, k_2, k_n, k_c, k_T, k_L, k_C, k_f1, k_f2, k_App, k_M, k_P, k_3, k_tB, k_tT, k_toB, k_tNo, k_tA, k_tO, k_tY, k_And, k_Or, k_Not, k_eIf, k_nil, k_seq, k_set, k_own, k_drop, k_ret, k_retN, k_retO, k_if, k_fz, fz_z, fz_s, k_gN, k_gsN, k_gsC, k_gT, k_asg, k_for, k_fnil, k_fcons, k_app, oL_z, oL_s, k_par, k_run, k_runN, k_fld, oO_z, k_add, k_addL, k_sub, k_mul, k_div, k_mod, k_pow, k_neg, k_lt, k_le, k_gt, k_ge, k_eqI, k_neI, k_int, k_intB, k_abs, k_lenL, k_lenT, k_lenC, k_tru, k_tupL, k_tupT, k_items_l, k_items_t, k_rng1, k_ixL, k_ixT, k_ixC, k_fldD, ok_nox, ok_ok, ok_bind, List.set_cons_zero, List.set_cons_succ, startS, startN, List.map_cons, List.map_nil, List.cons_append, List.nil_append, List.append_nil, List.length_cons, List.length_nil, List.replicate, Nat.reduceSub, Nat.reduceAdd, Nat.reduceLeDiff, Nat.zero_add, true_and, and_true, false_implies, true_implies, implies_true, forall_const, reduceCtorEq, Bool.not_true, Bool.not_false, Bool.not_eq_true'])
    rw [List.length_map]; rfl
def lessB (R : List (List Str)) (T : List Str) : List Str := T.filter fun x => hitsB R (T.filter fun y => y != x)
def minB (R : List (List Str)) (T : List Str) : Bool := hitsB R T && decide (((lessB R T).length : Int) = 0)
theorem min_iff {R : List (List Str)} {T : List Str} : minB R T = true ↔ CX.Min R T := by
  unfold minB CX.Min
  rw [Bool.and_eq_true, hits_iff, decide_eq_true_eq]
  refine and_congr_right fun _ => ?_
  constructor
  · intro h x hx hh
    have h0 : lessB R T = [] := List.length_eq_zero_iff.mp (by omega)
    have := List.filter_eq_nil_iff.mp h0 x hx
    exact this (hits_iff.mpr hh)
  · intro h
    have h0 : lessB R T = [] := by
      unfold lessB
      rw [List.filter_eq_nil_iff]
      exact fun x hx z => h x hx (hits_iff.mp z)
    rw [h0]; rfl
theorem neS {x y : Str} {Q : D → Prop} : Ok (neD (.str x) (.str y)) Q ↔ (PyData.strOk x && PyData.strOk y) = true ∧ Q (.bl (x != y)) := by
  show Ok (if dok 60 (.str x) && dok 60 (.str y) then _ else .fail) Q ↔ _
  show Ok (if PyData.strOk x && PyData.strOk y then _ else .fail) Q ↔ _
  rw [ok_if, ok_ok]
  rfl
theorem p_lawcross (N : List Str) (hN : N.Nodup) (hl : N.length ≤ 8) (hW : N ⊆ WD) (R : List (List Str)) (hlR : R.length ≤ 1000) (hR : ∀ r ∈ R, r.length ≤ 9) : Ok (d__law_crossing [slD' N, .lst (R.map stD)]) fun d => d = .lst ((CX.lawList le kle (minB R) N).map stD) := by
  have hs := size_ge
  unfold d__law_crossing m__law_crossing
  rw [ok_nox, k_run]
  refine Ok.mono (P := fun z => ∃ d, z.1 = .rt d ∧ d = .lst ((CX.lawList le kle (minB R) N).map stD)) ?_ fun z ⟨d, e, h⟩ => by rw [e]; exact h
  have hperm := List.mergeSort_perm N le
  have hlen : (N.mergeSort le).length = N.length := hperm.length_eq
  have h256 : ∀ n, n ≤ N.length → 2 ^ n ≤ 2 ^ 8 := fun n h => Nat.pow_le_pow_right (by omega) (by omega)
  refine seq_cut (fun S => S = [(some (Sl.mk false (slD' N))), (some (Sl.mk false (.lst (R.map stD)))), (some (Sl.mk false (.lst ((CX.sets ([] : List Str)).map stD)))), none, none, none, none, none, none]) (by (try simp only [↓k_guard, k_no, k_I, k_S, k_B, k_N, k_G, k_Y, k_V, k_W, k_O, g0_z, g0_s, gA_z, gA_s, g1_z, g1_s, k_1, k_2, k_n, k_c, k_T, k_L, k_C, k_f1, k_f2, k_App, k_M, k_P, k_3, k_tB, k_tT, k_toB, k_tNo, k_tA, k_tO, k_tY, k_And, k_Or, k_Not, k_eIf, k_nil, k_seq, k_set, k_own, k_drop, k_ret, k_retN, k_retO, k_if, k_fz, fz_z, fz_s, k_gN, k_gsN, k_gsC, k_gT, k_asg, k_for, k_fnil, k_fcons, k_app, oL_z, oL_s, k_par, k_run, k_runN, k_fld, oO_z, k_add, k_addL, k_sub, k_mul, k_div, k_mod, k_pow, k_neg, k_lt, k_le, k_gt, k_ge, k_eqI, k_neI, k_int, k_intB, k_abs, k_lenL, k_lenT, k_lenC, k_tru, k_tupL, k_tupT, k_items_l, k_items_t, k_rng1, k_ixL, k_ixT, k_ixC, k_fldD, ok_nox, ok_ok, ok_bind, List.set_cons_zero, List.set_cons_succ, startS, startN, List.map_cons, List.map_nil, List.cons_append, List.nil_append, List.append_nil, List.length_cons, List.length_nil, List.replicate, Nat.reduceSub, Nat.reduceAdd, Nat.reduceLeDiff, Nat.zero_add, true_and, and_true, false_implies, true_implies, implies_true, forall_const, reduceCtorEq, Bool.not_true, Bool.not_false, Bool.not_eq_true']); exact ⟨by omega, by omega, rfl⟩) ?_
  rintro S rfl
  refine seq_cut (fun S => ∃ a : Option Sl, S = [(some (Sl.mk false (slD' N))), (some (Sl.mk false (.lst (R.map stD)))), (some (Sl.mk false (.lst ((CX.sets (N.mergeSort le)).map stD)))), a, none, none, none, none, none]) ?_ ?_
  · (try simp only [↓k_guard, k_no, k_I, k_S, k_B, k_N, k_G, k_Y, k_V, k_W, k_O, g0_z, g0_s, gA_z, gA_s, g1_z, g1_s, k_1, k_2, k_n, k_c, k_T, k_L, k_C, k_f1, k_f2, k_App, k_M, k_P, k_3, k_tB, k_tT, k_toB, k_tNo, k_tA, k_tO, k_tY, k_And, k_Or, k_Not, k_eIf, k_nil, k_seq, k_set, k_own, k_drop, k_ret, k_retN, k_retO, k_if, k_fz, fz_z, fz_s, k_gN, k_gsN, k_gsC, k_gT, k_asg, k_for, k_fnil, k_fcons, k_app, oL_z, oL_s, k_par, k_run, k_runN, k_fld, oO_z, k_add, k_addL, k_sub, k_mul, k_div, k_mod, k_pow, k_neg, k_lt, k_le, k_gt, k_ge, k_eqI, k_neI, k_int, k_intB, k_abs, k_lenL, k_lenT, k_lenC, k_tru, k_tupL, k_tupT, k_items_l, k_items_t, k_rng1, k_ixL, k_ixT, k_ixC, k_fldD, ok_nox, ok_ok, ok_bind, List.set_cons_zero, List.set_cons_succ, startS, startN, List.map_cons, List.map_nil, List.cons_append, List.nil_append, List.append_nil, List.length_cons, List.length_nil, List.replicate, Nat.reduceSub, Nat.reduceAdd, Nat.reduceLeDiff, Nat.zero_add, true_and, and_true, false_implies, true_implies, implies_true, forall_const, reduceCtorEq, Bool.not_true, Bool.not_false, Bool.not_eq_true', k_srtS' hW, k_itL])
    refine for_typed (f := D.str) (fun done S => ∃ a : Option Sl, S = [(some (Sl.mk false (slD' N))), (some (Sl.mk false (.lst (R.map stD)))), (some (Sl.mk false (.lst ((CX.sets done).map stD)))), a, none, none, none, none, none]) (N.mergeSort le) _ ⟨none, rfl⟩ ?_ ?_
    · rintro done x rest S e ⟨a, rfl⟩
      have hd : done.length + 1 ≤ N.length := by rw [← hlen, e, List.length_append, List.length_cons]; omega
      have h1 := h256 done.length (by omega)
      have hsl := CX.sets_len (ns := done)
      have hsub : ∀ T ∈ CX.sets done, T.length ≤ 8 := fun T hT => by
        have := (CX.mem_sets.mp hT).length_le; omega
      (try simp only [↓k_guard, k_no, k_I, k_S, k_B, k_N, k_G, k_Y, k_V, k_W, k_O, g0_z, g0_s, gA_z, gA_s, g1_z, g1_s, k_1, k_2, k_n, k_c, k_T, k_L, k_C, k_f1, k_f2, k_App, k_M, k_P, k_3, k_tB, k_tT, k_toB, k_tNo, k_tA, k_tO, k_tY, k_And, k_Or, k_Not, k_eIf, k_nil, k_seq, k_set, k_own, k_drop, k_ret, k_retN, k_retO, k_if, k_fz, fz_z, fz_s, k_gN, k_gsN, k_gsC, k_gT, k_asg, k_for, k_fnil, k_fcons, k_app, oL_z, oL_s, k_par, k_run, k_runN, k_fld, oO_z, k_add, k_addL, k_sub, k_mul, k_div, k_mod, k_pow, k_neg, k_lt, k_le, k_gt, k_ge, k_eqI, k_neI, k_int, k_intB, k_abs, k_lenL, k_lenT, k_lenC, k_tru, k_tupL, k_tupT, k_items_l, k_items_t, k_rng1, k_ixL, k_ixT, k_ixC, k_fldD, ok_nox, ok_ok, ok_bind, List.set_cons_zero, List.set_cons_succ, startS, startN, List.map_cons, List.map_nil, List.cons_append, List.nil_append, List.append_nil, List.length_cons, List.length_nil, List.replicate, Nat.reduceSub, Nat.reduceAdd, Nat.reduceLeDiff, Nat.zero_add, true_and, and_true, false_implies, true_implies, implies_true, forall_const, reduceCtorEq, Bool.not_true, Bool.not_false, Bool.not_eq_true'])
      refine k_lcM (f := stD) (g := fun T => stD (T ++ [x])) (CX.sets done) (by (try simp only [↓k_guard, k_no, k_I, k_S, k_B, k_N, k_G, k_Y, k_V, k_W, k_O, g0_z, g0_s, gA_z, gA_s, g1_z, g1_s, k_1, k_2, k_n, k_c, k_T, k_L, k_C, k_f1, k_f2, k_App, k_M, k_P, k_3, k_tB, k_tT, k_toB, k_tNo, k_tA, k_tO, k_tY, k_And, k_Or, k_Not, k_eIf, k_nil, k_seq, k_set, k_own, k_drop, k_ret, k_retN, k_retO, k_if, k_fz, fz_z, fz_s, k_gN, k_gsN, k_gsC, k_gT, k_asg, k_for, k_fnil, k_fcons, k_app, oL_z, oL_s, k_par, k_run, k_runN, k_fld, oO_z, k_add, k_addL, k_sub, k_mul, k_div, k_mod, k_pow, k_neg, k_lt, k_le, k_gt, k_ge, k_eqI, k_neI, k_int, k_intB, k_abs, k_lenL, k_lenT, k_lenC, k_tru, k_tupL, k_tupT, k_items_l, k_items_t, k_rng1, k_ixL, k_ixT, k_ixC, k_fldD, ok_nox, ok_ok, ok_bind, List.set_cons_zero, List.set_cons_succ, startS, startN, List.map_cons, List.map_nil, List.cons_append, List.nil_append, List.append_nil, List.length_cons, List.length_nil, List.replicate, Nat.reduceSub, Nat.reduceAdd, Nat.reduceLeDiff, Nat.zero_add, true_and, and_true, false_implies, true_implies, implies_true, forall_const, reduceCtorEq, Bool.not_true, Bool.not_false, Bool.not_eq_true'])) (by omega) (fun T hT => ?_) ?_
      · (try simp only [↓k_guard, k_no, k_I, k_S, k_B, k_N, k_G, k_Y, k_V, k_W, k_O, g0_z, g0_s, gA_z, gA_s, g1_z, g1_s, k_1, k_2, k_n, k_c, k_T, k_L, k_C, k_f1, k_f2, k_App, k_M, k_P, k_3, k_tB, k_tT, k_toB, k_tNo, k_tA, k_tO, k_tY, k_And, k_Or, k_Not, k_eIf, k_nil, k_seq, k_set, k_own, k_drop, k_ret, k_retN, k_retO, k_if, k_fz, fz_z, fz_s, k_gN, k_gsN, k_gsC, k_gT, k_asg, k_for, k_fnil, k_fcons, k_app, oL_z, oL_s, k_par, k_run, k_runN, k_fld, oO_z, k_add, k_addL, k_sub, k_mul, k_div, k_mod, k_pow, k_neg, k_lt, k_le, k_gt, k_ge, k_eqI, k_neI, k_int, k_intB, k_abs, k_lenL, k_lenT, k_lenC, k_tru, k_tupL, k_tupT, k_items_l, k_items_t, k_rng1, k_ixL, k_ixT, k_ixC, k_fldD, ok_nox, ok_ok, ok_bind, List.set_cons_zero, List.set_cons_succ, startS, startN, List.map_cons, List.map_nil, List.cons_append, List.nil_append, List.append_nil, List.length_cons, List.length_nil, List.replicate, Nat.reduceSub, Nat.reduceAdd, Nat.reduceLeDiff, Nat.zero_add, true_and, and_true, false_implies, true_implies, implies_true, forall_const, reduceCtorEq, Bool.not_true, Bool.not_false, Bool.not_eq_true', wipeS])
        have := hsub T hT
        refine ⟨by omega, ?_⟩
        show Ok (addD (.tup (T.map .str)) _) _
        rw [k_addT]
        exact ⟨by simp only [List.length_map, List.length_cons, List.length_nil]; omega, by simp [stD]⟩
      · (try simp only [↓k_guard, k_no, k_I, k_S, k_B, k_N, k_G, k_Y, k_V, k_W, k_O, g0_z, g0_s, gA_z, gA_s, g1_z, g1_s, k_1, k_2, k_n, k_c, k_T, k_L, k_C, k_f1, k_f2, k_App, k_M, k_P, k_3, k_tB, k_tT, k_toB, k_tNo, k_tA, k_tO, k_tY, k_And, k_Or, k_Not, k_eIf, k_nil, k_seq, k_set, k_own, k_drop, k_ret, k_retN, k_retO, k_if, k_fz, fz_z, fz_s, k_gN, k_gsN, k_gsC, k_gT, k_asg, k_for, k_fnil, k_fcons, k_app, oL_z, oL_s, k_par, k_run, k_runN, k_fld, oO_z, k_add, k_addL, k_sub, k_mul, k_div, k_mod, k_pow, k_neg, k_lt, k_le, k_gt, k_ge, k_eqI, k_neI, k_int, k_intB, k_abs, k_lenL, k_lenT, k_lenC, k_tru, k_tupL, k_tupT, k_items_l, k_items_t, k_rng1, k_ixL, k_ixT, k_ixC, k_fldD, ok_nox, ok_ok, ok_bind, List.set_cons_zero, List.set_cons_succ, startS, startN, List.map_cons, List.map_nil, List.cons_append, List.nil_append, List.append_nil, List.length_cons, List.length_nil, List.replicate, Nat.reduceSub, Nat.reduceAdd, Nat.reduceLeDiff, Nat.zero_add, true_and, and_true, false_implies, true_implies, implies_true, forall_const, reduceCtorEq, Bool.not_true, Bool.not_false, Bool.not_eq_true'])
        refine ⟨by simp only [List.length_map]; omega, ?_⟩
        have ez : CX.sets (done ++ [x]) = CX.sets done ++ (CX.sets done).map (· ++ [x]) := by unfold CX.sets; rw [List.foldl_append]; rfl
        rw [ez, List.map_append, List.map_map]
        exact ⟨_, rfl⟩
    · rintro S ⟨a, rfl⟩
      exact ⟨rfl, a, rfl⟩
  rintro S ⟨a, rfl⟩
  refine seq_cut (fun S => S = [(some (Sl.mk false (slD' N))), (some (Sl.mk false (.lst (R.map stD)))), (some (Sl.mk false (.lst ((CX.sets (N.mergeSort le)).map stD)))), a, none, (some (Sl.mk true (.lst []))), none, none, none]) (by (try simp only [↓k_guard, k_no, k_I, k_S, k_B, k_N, k_G, k_Y, k_V, k_W, k_O, g0_z, g0_s, gA_z, gA_s, g1_z, g1_s, k_1, k_2, k_n, k_c, k_T, k_L, k_C, k_f1, k_f2, k_App, k_M, k_P, k_3, k_tB, k_tT, k_toB, k_tNo, k_tA, k_tO, k_tY, k_And, k_Or, k_Not, k_eIf, k_nil, k_seq, k_set, k_own, k_drop, k_ret, k_retN, k_retO, k_if, k_fz, fz_z, fz_s, k_gN, k_gsN, k_gsC, k_gT, k_asg, k_for, k_fnil, k_fcons, k_app, oL_z, oL_s, k_par, k_run, k_runN, k_fld, oO_z, k_add, k_addL, k_sub, k_mul, k_div, k_mod, k_pow, k_neg, k_lt, k_le, k_gt, k_ge, k_eqI, k_neI, k_int, k_intB, k_abs, k_lenL, k_lenT, k_lenC, k_tru, k_tupL, k_tupT, k_items_l, k_items_t, k_rng1, k_ixL, k_ixT, k_ixC, k_fldD, ok_nox, ok_ok, ok_bind, List.set_cons_zero, List.set_cons_succ, startS, startN, List.map_cons, List.map_nil, List.cons_append, List.nil_append, List.append_nil, List.length_cons, List.length_nil, List.replicate, Nat.reduceSub, Nat.reduceAdd, Nat.reduceLeDiff, Nat.zero_add, true_and, and_true, false_implies, true_implies, implies_true, forall_const, reduceCtorEq, Bool.not_true, Bool.not_false, Bool.not_eq_true']); omega) ?_
  rintro S rfl
  have hsl := CX.sets_len (ns := N.mergeSort le)
  have h1 := h256 (N.mergeSort le).length (by omega)
  have hsub : ∀ T ∈ CX.sets (N.mergeSort le), T.length ≤ 8 ∧ T ⊆ WD := fun T hT => by
    have z := CX.mem_sets.mp hT
    have := z.length_le
    exact ⟨by omega, fun x hx => hW (hperm.mem_iff.mp (z.subset hx))⟩
  refine seq_cut (fun S => ∃ a b c : Option Sl, S = [(some (Sl.mk false (slD' N))), (some (Sl.mk false (.lst (R.map stD)))), (some (Sl.mk false (.lst ((CX.sets (N.mergeSort le)).map stD)))), a, b, (some (Sl.mk true (.lst (((CX.sets (N.mergeSort le)).filter (minB R)).map keyD)))), c, none, none]) ?_ ?_
  · (try simp only [↓k_guard, k_no, k_I, k_S, k_B, k_N, k_G, k_Y, k_V, k_W, k_O, g0_z, g0_s, gA_z, gA_s, g1_z, g1_s, k_1, k_2, k_n, k_c, k_T, k_L, k_C, k_f1, k_f2, k_App, k_M, k_P, k_3, k_tB, k_tT, k_toB, k_tNo, k_tA, k_tO, k_tY, k_And, k_Or, k_Not, k_eIf, k_nil, k_seq, k_set, k_own, k_drop, k_ret, k_retN, k_retO, k_if, k_fz, fz_z, fz_s, k_gN, k_gsN, k_gsC, k_gT, k_asg, k_for, k_fnil, k_fcons, k_app, oL_z, oL_s, k_par, k_run, k_runN, k_fld, oO_z, k_add, k_addL, k_sub, k_mul, k_div, k_mod, k_pow, k_neg, k_lt, k_le, k_gt, k_ge, k_eqI, k_neI, k_int, k_intB, k_abs, k_lenL, k_lenT, k_lenC, k_tru, k_tupL, k_tupT, k_items_l, k_items_t, k_rng1, k_ixL, k_ixT, k_ixC, k_fldD, ok_nox, ok_ok, ok_bind, List.set_cons_zero, List.set_cons_succ, startS, startN, List.map_cons, List.map_nil, List.cons_append, List.nil_append, List.append_nil, List.length_cons, List.length_nil, List.replicate, Nat.reduceSub, Nat.reduceAdd, Nat.reduceLeDiff, Nat.zero_add, true_and, and_true, false_implies, true_implies, implies_true, forall_const, reduceCtorEq, Bool.not_true, Bool.not_false, Bool.not_eq_true'])
    refine for_typed (f := stD) (fun done S => ∃ a b c : Option Sl, S = [(some (Sl.mk false (slD' N))), (some (Sl.mk false (.lst (R.map stD)))), (some (Sl.mk false (.lst ((CX.sets (N.mergeSort le)).map stD)))), a, b, (some (Sl.mk true (.lst ((done.filter (minB R)).map keyD)))), c, none, none]) (CX.sets (N.mergeSort le)) _ ⟨a, none, none, rfl⟩ ?_ ?_
    · rintro done T rest S e ⟨a, b, c, rfl⟩
      have hT := hsub T (by rw [e]; simp)
      have hdl : done.length < (CX.sets (N.mergeSort le)).length := by rw [e, List.length_append, List.length_cons]; omega
      have hfl := List.length_filter_le (minB R) done
      (try simp only [↓k_guard, k_no, k_I, k_S, k_B, k_N, k_G, k_Y, k_V, k_W, k_O, g0_z, g0_s, gA_z, gA_s, g1_z, g1_s, k_1, k_2, k_n, k_c, k_T, k_L, k_C, k_f1, k_f2, k_App, k_M, k_P, k_3, k_tB, k_tT, k_toB, k_tNo, k_tA, k_tO, k_tY, k_And, k_Or, k_Not, k_eIf, k_nil, k_seq, k_set, k_own, k_drop, k_ret, k_retN, k_retO, k_if, k_fz, fz_z, fz_s, k_gN, k_gsN, k_gsC, k_gT, k_asg, k_for, k_fnil, k_fcons, k_app, oL_z, oL_s, k_par, k_run, k_runN, k_fld, oO_z, k_add, k_addL, k_sub, k_mul, k_div, k_mod, k_pow, k_neg, k_lt, k_le, k_gt, k_ge, k_eqI, k_neI, k_int, k_intB, k_abs, k_lenL, k_lenT, k_lenC, k_tru, k_tupL, k_tupT, k_items_l, k_items_t, k_rng1, k_ixL, k_ixT, k_ixC, k_fldD, ok_nox, ok_ok, ok_bind, List.set_cons_zero, List.set_cons_succ, startS, startN, List.map_cons, List.map_nil, List.cons_append, List.nil_append, List.append_nil, List.length_cons, List.length_nil, List.replicate, Nat.reduceSub, Nat.reduceAdd, Nat.reduceLeDiff, Nat.zero_add, true_and, and_true, false_implies, true_implies, implies_true, forall_const, reduceCtorEq, Bool.not_true, Bool.not_false, Bool.not_eq_true'])
      refine (p_hits T R (stD T) (fun _ _ => k_inT) hlR fun r hr => by have := hR r hr; omega).mono ?_
      rintro _ rfl
      (try simp only [↓k_guard, k_no, k_I, k_S, k_B, k_N, k_G, k_Y, k_V, k_W, k_O, g0_z, g0_s, gA_z, gA_s, g1_z, g1_s, k_1, k_2, k_n, k_c, k_T, k_L, k_C, k_f1, k_f2, k_App, k_M, k_P, k_3, k_tB, k_tT, k_toB, k_tNo, k_tA, k_tO, k_tY, k_And, k_Or, k_Not, k_eIf, k_nil, k_seq, k_set, k_own, k_drop, k_ret, k_retN, k_retO, k_if, k_fz, fz_z, fz_s, k_gN, k_gsN, k_gsC, k_gT, k_asg, k_for, k_fnil, k_fcons, k_app, oL_z, oL_s, k_par, k_run, k_runN, k_fld, oO_z, k_add, k_addL, k_sub, k_mul, k_div, k_mod, k_pow, k_neg, k_lt, k_le, k_gt, k_ge, k_eqI, k_neI, k_int, k_intB, k_abs, k_lenL, k_lenT, k_lenC, k_tru, k_tupL, k_tupT, k_items_l, k_items_t, k_rng1, k_ixL, k_ixT, k_ixC, k_fldD, ok_nox, ok_ok, ok_bind, List.set_cons_zero, List.set_cons_succ, startS, startN, List.map_cons, List.map_nil, List.cons_append, List.nil_append, List.append_nil, List.length_cons, List.length_nil, List.replicate, Nat.reduceSub, Nat.reduceAdd, Nat.reduceLeDiff, Nat.zero_add, true_and, and_true, false_implies, true_implies, implies_true, forall_const, reduceCtorEq, Bool.not_true, Bool.not_false, Bool.not_eq_true'])
      refine ⟨fun hb => ?_, fun hb => ?_⟩
      · refine k_lcT (f := D.str) (p := fun x => hitsB R (T.filter fun y => y != x)) (g := D.str) T (by (try simp only [↓k_guard, k_no, k_I, k_S, k_B, k_N, k_G, k_Y, k_V, k_W, k_O, g0_z, g0_s, gA_z, gA_s, g1_z, g1_s, k_1, k_2, k_n, k_c, k_T, k_L, k_C, k_f1, k_f2, k_App, k_M, k_P, k_3, k_tB, k_tT, k_toB, k_tNo, k_tA, k_tO, k_tY, k_And, k_Or, k_Not, k_eIf, k_nil, k_seq, k_set, k_own, k_drop, k_ret, k_retN, k_retO, k_if, k_fz, fz_z, fz_s, k_gN, k_gsN, k_gsC, k_gT, k_asg, k_for, k_fnil, k_fcons, k_app, oL_z, oL_s, k_par, k_run, k_runN, k_fld, oO_z, k_add, k_addL, k_sub, k_mul, k_div, k_mod, k_pow, k_neg, k_lt, k_le, k_gt, k_ge, k_eqI, k_neI, k_int, k_intB, k_abs, k_lenL, k_lenT, k_lenC, k_tru, k_tupL, k_tupT, k_items_l, k_items_t, k_rng1, k_ixL, k_ixT, k_ixC, k_fldD, ok_nox, ok_ok, ok_bind, List.set_cons_zero, List.set_cons_succ, startS, startN, List.map_cons, List.map_nil, List.cons_append, List.nil_append, List.append_nil, List.length_cons, List.length_nil, List.replicate, Nat.reduceSub, Nat.reduceAdd, Nat.reduceLeDiff, Nat.zero_add, true_and, and_true, false_implies, true_implies, implies_true, forall_const, reduceCtorEq, Bool.not_true, Bool.not_false, Bool.not_eq_true', k_itT])) (by omega) (fun x hx => ?_) ?_
        · (try simp only [↓k_guard, k_no, k_I, k_S, k_B, k_N, k_G, k_Y, k_V, k_W, k_O, g0_z, g0_s, gA_z, gA_s, g1_z, g1_s, k_1, k_2, k_n, k_c, k_T, k_L, k_C, k_f1, k_f2, k_App, k_M, k_P, k_3, k_tB, k_tT, k_toB, k_tNo, k_tA, k_tO, k_tY, k_And, k_Or, k_Not, k_eIf, k_nil, k_seq, k_set, k_own, k_drop, k_ret, k_retN, k_retO, k_if, k_fz, fz_z, fz_s, k_gN, k_gsN, k_gsC, k_gT, k_asg, k_for, k_fnil, k_fcons, k_app, oL_z, oL_s, k_par, k_run, k_runN, k_fld, oO_z, k_add, k_addL, k_sub, k_mul, k_div, k_mod, k_pow, k_neg, k_lt, k_le, k_gt, k_ge, k_eqI, k_neI, k_int, k_intB, k_abs, k_lenL, k_lenT, k_lenC, k_tru, k_tupL, k_tupT, k_items_l, k_items_t, k_rng1, k_ixL, k_ixT, k_ixC, k_fldD, ok_nox, ok_ok, ok_bind, List.set_cons_zero, List.set_cons_succ, startS, startN, List.map_cons, List.map_nil, List.cons_append, List.nil_append, List.append_nil, List.length_cons, List.length_nil, List.replicate, Nat.reduceSub, Nat.reduceAdd, Nat.reduceLeDiff, Nat.zero_add, true_and, and_true, false_implies, true_implies, implies_true, forall_const, reduceCtorEq, Bool.not_true, Bool.not_false, Bool.not_eq_true', wipeS])
          refine k_lcT (f := D.str) (p := fun y => y != x) (g := D.str) T (by (try simp only [↓k_guard, k_no, k_I, k_S, k_B, k_N, k_G, k_Y, k_V, k_W, k_O, g0_z, g0_s, gA_z, gA_s, g1_z, g1_s, k_1, k_2, k_n, k_c, k_T, k_L, k_C, k_f1, k_f2, k_App, k_M, k_P, k_3, k_tB, k_tT, k_toB, k_tNo, k_tA, k_tO, k_tY, k_And, k_Or, k_Not, k_eIf, k_nil, k_seq, k_set, k_own, k_drop, k_ret, k_retN, k_retO, k_if, k_fz, fz_z, fz_s, k_gN, k_gsN, k_gsC, k_gT, k_asg, k_for, k_fnil, k_fcons, k_app, oL_z, oL_s, k_par, k_run, k_runN, k_fld, oO_z, k_add, k_addL, k_sub, k_mul, k_div, k_mod, k_pow, k_neg, k_lt, k_le, k_gt, k_ge, k_eqI, k_neI, k_int, k_intB, k_abs, k_lenL, k_lenT, k_lenC, k_tru, k_tupL, k_tupT, k_items_l, k_items_t, k_rng1, k_ixL, k_ixT, k_ixC, k_fldD, ok_nox, ok_ok, ok_bind, List.set_cons_zero, List.set_cons_succ, startS, startN, List.map_cons, List.map_nil, List.cons_append, List.nil_append, List.append_nil, List.length_cons, List.length_nil, List.replicate, Nat.reduceSub, Nat.reduceAdd, Nat.reduceLeDiff, Nat.zero_add, true_and, and_true, false_implies, true_implies, implies_true, forall_const, reduceCtorEq, Bool.not_true, Bool.not_false, Bool.not_eq_true', k_itT])) (by omega) (fun y hy => ?_) ?_
          · (try simp only [↓k_guard, k_no, k_I, k_S, k_B, k_N, k_G, k_Y, k_V, k_W, k_O, g0_z, g0_s, gA_z, gA_s, g1_z, g1_s, k_1, k_2, k_n, k_c, k_T, k_L, k_C, k_f1, k_f2, k_App, k_M, k_P, k_3, k_tB, k_tT, k_toB, k_tNo, k_tA, k_tO, k_tY, k_And, k_Or, k_Not, k_eIf, k_nil, k_seq, k_set, k_own, k_drop, k_ret, k_retN, k_retO, k_if, k_fz, fz_z, fz_s, k_gN, k_gsN, k_gsC, k_gT, k_asg, k_for, k_fnil, k_fcons, k_app, oL_z, oL_s, k_par, k_run, k_runN, k_fld, oO_z, k_add, k_addL, k_sub, k_mul, k_div, k_mod, k_pow, k_neg, k_lt, k_le, k_gt, k_ge, k_eqI, k_neI, k_int, k_intB, k_abs, k_lenL, k_lenT, k_lenC, k_tru, k_tupL, k_tupT, k_items_l, k_items_t, k_rng1, k_ixL, k_ixT, k_ixC, k_fldD, ok_nox, ok_ok, ok_bind, List.set_cons_zero, List.set_cons_succ, startS, startN, List.map_cons, List.map_nil, List.cons_append, List.nil_append, List.append_nil, List.length_cons, List.length_nil, List.replicate, Nat.reduceSub, Nat.reduceAdd, Nat.reduceLeDiff, Nat.zero_add, true_and, and_true, false_implies, true_implies, implies_true, forall_const, reduceCtorEq, Bool.not_true, Bool.not_false, Bool.not_eq_true', wipeS, neS])
            rw [WD_ok _ (hT.2 hx), WD_ok _ (hT.2 hy)]
            rfl
          · refine (p_hits (T.filter fun y => y != x) R (slD' (T.filter fun y => y != x)) (fun _ _ => k_inL) hlR fun r hr => by have := hR r hr; omega).mono ?_
            rintro _ rfl
            (try simp only [↓k_guard, k_no, k_I, k_S, k_B, k_N, k_G, k_Y, k_V, k_W, k_O, g0_z, g0_s, gA_z, gA_s, g1_z, g1_s, k_1, k_2, k_n, k_c, k_T, k_L, k_C, k_f1, k_f2, k_App, k_M, k_P, k_3, k_tB, k_tT, k_toB, k_tNo, k_tA, k_tO, k_tY, k_And, k_Or, k_Not, k_eIf, k_nil, k_seq, k_set, k_own, k_drop, k_ret, k_retN, k_retO, k_if, k_fz, fz_z, fz_s, k_gN, k_gsN, k_gsC, k_gT, k_asg, k_for, k_fnil, k_fcons, k_app, oL_z, oL_s, k_par, k_run, k_runN, k_fld, oO_z, k_add, k_addL, k_sub, k_mul, k_div, k_mod, k_pow, k_neg, k_lt, k_le, k_gt, k_ge, k_eqI, k_neI, k_int, k_intB, k_abs, k_lenL, k_lenT, k_lenC, k_tru, k_tupL, k_tupT, k_items_l, k_items_t, k_rng1, k_ixL, k_ixT, k_ixC, k_fldD, ok_nox, ok_ok, ok_bind, List.set_cons_zero, List.set_cons_succ, startS, startN, List.map_cons, List.map_nil, List.cons_append, List.nil_append, List.append_nil, List.length_cons, List.length_nil, List.replicate, Nat.reduceSub, Nat.reduceAdd, Nat.reduceLeDiff, Nat.zero_add, true_and, and_true, false_implies, true_implies, implies_true, forall_const, reduceCtorEq, Bool.not_true, Bool.not_false, Bool.not_eq_true'])
        · (try simp only [↓k_guard, k_no, k_I, k_S, k_B, k_N, k_G, k_Y, k_V, k_W, k_O, g0_z, g0_s, gA_z, gA_s, g1_z, g1_s, k_1, k_2, k_n, k_c, k_T, k_L, k_C, k_f1, k_f2, k_App, k_M, k_P, k_3, k_tB, k_tT, k_toB, k_tNo, k_tA, k_tO, k_tY, k_And, k_Or, k_Not, k_eIf, k_nil, k_seq, k_set, k_own, k_drop, k_ret, k_retN, k_retO, k_if, k_fz, fz_z, fz_s, k_gN, k_gsN, k_gsC, k_gT, k_asg, k_for, k_fnil, k_fcons, k_app, oL_z, oL_s, k_par, k_run, k_runN, k_fld, oO_z, k_add, k_addL, k_sub, k_mul, k_div, k_mod, k_pow, k_neg, k_lt, k_le, k_gt, k_ge, k_eqI, k_neI, k_int, k_intB, k_abs, k_lenL, k_lenT, k_lenC, k_tru, k_tupL, k_tupT, k_items_l, k_items_t, k_rng1, k_ixL, k_ixT, k_ixC, k_fldD, ok_nox, ok_ok, ok_bind, List.set_cons_zero, List.set_cons_succ, startS, startN, List.map_cons, List.map_nil, List.cons_append, List.nil_append, List.append_nil, List.length_cons, List.length_nil, List.replicate, Nat.reduceSub, Nat.reduceAdd, Nat.reduceLeDiff, Nat.zero_add, true_and, and_true, false_implies, true_implies, implies_true, forall_const, reduceCtorEq, Bool.not_true, Bool.not_false, Bool.not_eq_true'])
          rw [List.length_map]
          show (decide (((lessB R T).length : Int) = 0) = true → _) ∧ _
          refine ⟨fun h2 => ?_, fun h2 => ?_⟩
          · have ez : (done ++ [T]).filter (minB R) = done.filter (minB R) ++ [T] := by
              rw [List.filter_append, List.filter_cons_of_pos (by unfold minB; rw [hb, h2]; rfl)]; rfl
            rw [ez, List.map_append]
            show Ok (lenD (.tup (T.map .str))) _
            have hm : (T.map D.str).length = T.length := List.length_map _
            rw [k_lenT, hm]
            exact ⟨by omega, by rw [List.length_map]; omega, _, _, _, rfl⟩
          · have h2 : decide (((lessB R T).length : Int) = 0) = false := h2
            have ez : (done ++ [T]).filter (minB R) = done.filter (minB R) := by
              rw [List.filter_append, List.filter_cons_of_neg (by unfold minB; rw [hb, h2]; simp)]; simp
            rw [ez]
            exact ⟨_, _, _, rfl⟩
      · have ez : (done ++ [T]).filter (minB R) = done.filter (minB R) := by
          rw [List.filter_append, List.filter_cons_of_neg (by unfold minB; rw [hb]; simp)]; simp
        rw [ez]
        exact ⟨_, _, _, rfl⟩
    · rintro S ⟨a, b, c, rfl⟩
      exact ⟨rfl, a, b, c, rfl⟩
  rintro S ⟨a, b, c, rfl⟩
  have hfl := List.length_filter_le (minB R) (CX.sets (N.mergeSort le))
  (try simp only [↓k_guard, k_no, k_I, k_S, k_B, k_N, k_G, k_Y, k_V, k_W, k_O, g0_z, g0_s, gA_z, gA_s, g1_z, g1_s, k_1, k_2, k_n, k_c, k_T, k_L, k_C, k_f1, k_f2, k_App, k_M, k_P, k_3, k_tB, k_tT, k_toB, k_tNo, k_tA, k_tO, k_tY, k_And, k_Or, k_Not, k_eIf, k_nil, k_seq, k_set, k_own, k_drop, k_ret, k_retN, k_retO, k_if, k_fz, fz_z, fz_s, k_gN, k_gsN, k_gsC, k_gT, k_asg, k_for, k_fnil, k_fcons, k_app, oL_z, oL_s, k_par, k_run, k_runN, k_fld, oO_z, k_add, k_addL, k_sub, k_mul, k_div, k_mod, k_pow, k_neg, k_lt, k_le, k_gt, k_ge, k_eqI, k_neI, k_int, k_intB, k_abs, k_lenL, k_lenT, k_lenC, k_tru, k_tupL, k_tupT, k_items_l, k_items_t, k_rng1, k_ixL, k_ixT, k_ixC, k_fldD, ok_nox, ok_ok, ok_bind, List.set_cons_zero, List.set_cons_succ, startS, startN, List.map_cons, List.map_nil, List.cons_append, List.nil_append, List.append_nil, List.length_cons, List.length_nil, List.replicate, Nat.reduceSub, Nat.reduceAdd, Nat.reduceLeDiff, Nat.zero_add, true_and, and_true, false_implies, true_implies, implies_true, forall_const, reduceCtorEq, Bool.not_true, Bool.not_false, Bool.not_eq_true'])
  refine k_lcM (f := keyD) (g := stD) (CX.lawList le kle (minB R) N) ?_ ?_ (fun T hT => ?_) ⟨_, rfl, rfl⟩
  · (try simp only [↓k_guard, k_no, k_I, k_S, k_B, k_N, k_G, k_Y, k_V, k_W, k_O, g0_z, g0_s, gA_z, gA_s, g1_z, g1_s, k_1, k_2, k_n, k_c, k_T, k_L, k_C, k_f1, k_f2, k_App, k_M, k_P, k_3, k_tB, k_tT, k_toB, k_tNo, k_tA, k_tO, k_tY, k_And, k_Or, k_Not, k_eIf, k_nil, k_seq, k_set, k_own, k_drop, k_ret, k_retN, k_retO, k_if, k_fz, fz_z, fz_s, k_gN, k_gsN, k_gsC, k_gT, k_asg, k_for, k_fnil, k_fcons, k_app, oL_z, oL_s, k_par, k_run, k_runN, k_fld, oO_z, k_add, k_addL, k_sub, k_mul, k_div, k_mod, k_pow, k_neg, k_lt, k_le, k_gt, k_ge, k_eqI, k_neI, k_int, k_intB, k_abs, k_lenL, k_lenT, k_lenC, k_tru, k_tupL, k_tupT, k_items_l, k_items_t, k_rng1, k_ixL, k_ixT, k_ixC, k_fldD, ok_nox, ok_ok, ok_bind, List.set_cons_zero, List.set_cons_succ, startS, startN, List.map_cons, List.map_nil, List.cons_append, List.nil_append, List.append_nil, List.length_cons, List.length_nil, List.replicate, Nat.reduceSub, Nat.reduceAdd, Nat.reduceLeDiff, Nat.zero_add, true_and, and_true, false_implies, true_implies, implies_true, forall_const, reduceCtorEq, Bool.not_true, Bool.not_false, Bool.not_eq_true'])
    rw [k_srtK fun T hT => (hsub T (List.mem_filter.mp hT).1).2]
    (try simp only [↓k_guard, k_no, k_I, k_S, k_B, k_N, k_G, k_Y, k_V, k_W, k_O, g0_z, g0_s, gA_z, gA_s, g1_z, g1_s, k_1, k_2, k_n, k_c, k_T, k_L, k_C, k_f1, k_f2, k_App, k_M, k_P, k_3, k_tB, k_tT, k_toB, k_tNo, k_tA, k_tO, k_tY, k_And, k_Or, k_Not, k_eIf, k_nil, k_seq, k_set, k_own, k_drop, k_ret, k_retN, k_retO, k_if, k_fz, fz_z, fz_s, k_gN, k_gsN, k_gsC, k_gT, k_asg, k_for, k_fnil, k_fcons, k_app, oL_z, oL_s, k_par, k_run, k_runN, k_fld, oO_z, k_add, k_addL, k_sub, k_mul, k_div, k_mod, k_pow, k_neg, k_lt, k_le, k_gt, k_ge, k_eqI, k_neI, k_int, k_intB, k_abs, k_lenL, k_lenT, k_lenC, k_tru, k_tupL, k_tupT, k_items_l, k_items_t, k_rng1, k_ixL, k_ixT, k_ixC, k_fldD, ok_nox, ok_ok, ok_bind, List.set_cons_zero, List.set_cons_succ, startS, startN, List.map_cons, List.map_nil, List.cons_append, List.nil_append, List.append_nil, List.length_cons, List.length_nil, List.replicate, Nat.reduceSub, Nat.reduceAdd, Nat.reduceLeDiff, Nat.zero_add, true_and, and_true, false_implies, true_implies, implies_true, forall_const, reduceCtorEq, Bool.not_true, Bool.not_false, Bool.not_eq_true'])
    rfl
  · unfold CX.lawList
    rw [List.length_mergeSort]; omega
  · (try simp only [↓k_guard, k_no, k_I, k_S, k_B, k_N, k_G, k_Y, k_V, k_W, k_O, g0_z, g0_s, gA_z, gA_s, g1_z, g1_s, k_1, k_2, k_n, k_c, k_T, k_L, k_C, k_f1, k_f2, k_App, k_M, k_P, k_3, k_tB, k_tT, k_toB, k_tNo, k_tA, k_tO, k_tY, k_And, k_Or, k_Not, k_eIf, k_nil, k_seq, k_set, k_own, k_drop, k_ret, k_retN, k_retO, k_if, k_fz, fz_z, fz_s, k_gN, k_gsN, k_gsC, k_gT, k_asg, k_for, k_fnil, k_fcons, k_app, oL_z, oL_s, k_par, k_run, k_runN, k_fld, oO_z, k_add, k_addL, k_sub, k_mul, k_div, k_mod, k_pow, k_neg, k_lt, k_le, k_gt, k_ge, k_eqI, k_neI, k_int, k_intB, k_abs, k_lenL, k_lenT, k_lenC, k_tru, k_tupL, k_tupT, k_items_l, k_items_t, k_rng1, k_ixL, k_ixT, k_ixC, k_fldD, ok_nox, ok_ok, ok_bind, List.set_cons_zero, List.set_cons_succ, startS, startN, List.map_cons, List.map_nil, List.cons_append, List.nil_append, List.append_nil, List.length_cons, List.length_nil, List.replicate, Nat.reduceSub, Nat.reduceAdd, Nat.reduceLeDiff, Nat.zero_add, true_and, and_true, false_implies, true_implies, implies_true, forall_const, reduceCtorEq, Bool.not_true, Bool.not_false, Bool.not_eq_true', wipeS])
    show Ok (ixD (.tup [.int T.length, stD T]) (.int 1)) _
    rw [k_ixT]
    exact ⟨_, rfl, rfl⟩
end Pf
set_option Elab.async false
set_option linter.all false
set_option maxRecDepth 100000
namespace Pf
open M PySem L2
theorem k_CB {den : List D → R D} {fa : FA} {S : M.Env} {Q : D → Prop} : Ok (eCB den fa S) Q ↔ Ok (fa S) fun ds => Ok (den ds) fun d => flatD d = true ∧ Q d := by
  unfold eCB; simp only [ok_bind, ok_nox, ok_if, ok_ok]
theorem k_lstL {xs : List D} {Q : D → Prop} : Ok (lstD (.lst xs)) Q ↔ Q (.lst xs) := ok_ok
theorem p_same (L : List (List Str)) (h : ∀ T ∈ L, T ⊆ WD ∧ T.length ≤ 1000) : Ok (d__law_same [.lst (L.map stD), .lst (L.map stD)]) fun d => d = .bl true := by
  have hs := size_ge
  have hd : dok 60 (.lst (L.map stD)) = true := doks_map _ _ _ fun T hT => dok_st (h T hT).1
  unfold d__law_same m__law_same
  rw [ok_nox, k_run]
  refine Ok.mono (P := fun z => ∃ d, z.1 = .rt d ∧ d = .bl true) ?_ fun z ⟨d, e, h⟩ => by rw [e]; exact h
  refine pass_if (by (try simp only [↓k_guard, k_no, k_I, k_S, k_B, k_N, k_G, k_Y, k_V, k_W, k_O, g0_z, g0_s, gA_z, gA_s, g1_z, g1_s, k_1, k_2, k_n, k_c, k_T, k_L, k_C, k_f1, k_f2, k_App, k_M, k_P, k_3, k_tB, k_tT, k_toB, k_tNo, k_tA, k_tO, k_tY, k_And, k_Or, k_Not, k_eIf, k_nil, k_seq, k_set, k_own, k_drop, k_ret, k_retN, k_retO, k_if, k_fz, fz_z, fz_s, k_gN, k_gsN, k_gsC, k_gT, k_asg, k_for, k_fnil, k_fcons, k_app, oL_z, oL_s, k_par, k_run, k_runN, k_fld, oO_z, k_add, k_addL, k_sub, k_mul, k_div, k_mod, k_pow, k_neg, k_lt, k_le, k_gt, k_ge, k_eqI, k_neI, k_int, k_intB, k_abs, k_lenL, k_lenT, k_lenC, k_tru, k_tupL, k_tupT, k_items_l, k_items_t, k_rng1, k_ixL, k_ixT, k_ixC, k_fldD, ok_nox, ok_ok, ok_bind, List.set_cons_zero, List.set_cons_succ, startS, startN, List.map_cons, List.map_nil, List.cons_append, List.nil_append, List.append_nil, List.length_cons, List.length_nil, List.replicate, Nat.reduceSub, Nat.reduceAdd, Nat.reduceLeDiff, Nat.zero_add, true_and, and_true, false_implies, true_implies, implies_true, forall_const, reduceCtorEq, Bool.not_true, Bool.not_false, Bool.not_eq_true', k_isL, k_neS hd])) ?_
  refine seq_cut (fun S => ∃ a b : Option Sl, S = [(some (Sl.mk false (.lst (L.map stD)))), (some (Sl.mk false (.lst (L.map stD)))), a, b]) ?_ ?_
  · (try simp only [↓k_guard, k_no, k_I, k_S, k_B, k_N, k_G, k_Y, k_V, k_W, k_O, g0_z, g0_s, gA_z, gA_s, g1_z, g1_s, k_1, k_2, k_n, k_c, k_T, k_L, k_C, k_f1, k_f2, k_App, k_M, k_P, k_3, k_tB, k_tT, k_toB, k_tNo, k_tA, k_tO, k_tY, k_And, k_Or, k_Not, k_eIf, k_nil, k_seq, k_set, k_own, k_drop, k_ret, k_retN, k_retO, k_if, k_fz, fz_z, fz_s, k_gN, k_gsN, k_gsC, k_gT, k_asg, k_for, k_fnil, k_fcons, k_app, oL_z, oL_s, k_par, k_run, k_runN, k_fld, oO_z, k_add, k_addL, k_sub, k_mul, k_div, k_mod, k_pow, k_neg, k_lt, k_le, k_gt, k_ge, k_eqI, k_neI, k_int, k_intB, k_abs, k_lenL, k_lenT, k_lenC, k_tru, k_tupL, k_tupT, k_items_l, k_items_t, k_rng1, k_ixL, k_ixT, k_ixC, k_fldD, ok_nox, ok_ok, ok_bind, List.set_cons_zero, List.set_cons_succ, startS, startN, List.map_cons, List.map_nil, List.cons_append, List.nil_append, List.append_nil, List.length_cons, List.length_nil, List.replicate, Nat.reduceSub, Nat.reduceAdd, Nat.reduceLeDiff, Nat.zero_add, true_and, and_true, false_implies, true_implies, implies_true, forall_const, reduceCtorEq, Bool.not_true, Bool.not_false, Bool.not_eq_true'])
    refine for_typed (f := stD) (fun done S => ∃ a b : Option Sl, S = [(some (Sl.mk false (.lst (L.map stD)))), (some (Sl.mk false (.lst (L.map stD)))), a, b]) L _ ⟨none, none, rfl⟩ ?_ ?_
    · rintro done T rest S e ⟨a, b, rfl⟩
      have hT := h T (by rw [e]; simp)
      have ki : ∀ Q : D → Prop, Ok (isiD (stD T) (.ty "tuple")) Q ↔ Q (.bl true) := fun Q => k_isT
      (try simp only [↓k_guard, k_no, k_I, k_S, k_B, k_N, k_G, k_Y, k_V, k_W, k_O, g0_z, g0_s, gA_z, gA_s, g1_z, g1_s, k_1, k_2, k_n, k_c, k_T, k_L, k_C, k_f1, k_f2, k_App, k_M, k_P, k_3, k_tB, k_tT, k_toB, k_tNo, k_tA, k_tO, k_tY, k_And, k_Or, k_Not, k_eIf, k_nil, k_seq, k_set, k_own, k_drop, k_ret, k_retN, k_retO, k_if, k_fz, fz_z, fz_s, k_gN, k_gsN, k_gsC, k_gT, k_asg, k_for, k_fnil, k_fcons, k_app, oL_z, oL_s, k_par, k_run, k_runN, k_fld, oO_z, k_add, k_addL, k_sub, k_mul, k_div, k_mod, k_pow, k_neg, k_lt, k_le, k_gt, k_ge, k_eqI, k_neI, k_int, k_intB, k_abs, k_lenL, k_lenT, k_lenC, k_tru, k_tupL, k_tupT, k_items_l, k_items_t, k_rng1, k_ixL, k_ixT, k_ixC, k_fldD, ok_nox, ok_ok, ok_bind, List.set_cons_zero, List.set_cons_succ, startS, startN, List.map_cons, List.map_nil, List.cons_append, List.nil_append, List.append_nil, List.length_cons, List.length_nil, List.replicate, Nat.reduceSub, Nat.reduceAdd, Nat.reduceLeDiff, Nat.zero_add, true_and, and_true, false_implies, true_implies, implies_true, forall_const, reduceCtorEq, Bool.not_true, Bool.not_false, Bool.not_eq_true', ki])
      refine k_lcT (f := D.str) (p := fun _ => false) (g := D.str) T (by (try simp only [↓k_guard, k_no, k_I, k_S, k_B, k_N, k_G, k_Y, k_V, k_W, k_O, g0_z, g0_s, gA_z, gA_s, g1_z, g1_s, k_1, k_2, k_n, k_c, k_T, k_L, k_C, k_f1, k_f2, k_App, k_M, k_P, k_3, k_tB, k_tT, k_toB, k_tNo, k_tA, k_tO, k_tY, k_And, k_Or, k_Not, k_eIf, k_nil, k_seq, k_set, k_own, k_drop, k_ret, k_retN, k_retO, k_if, k_fz, fz_z, fz_s, k_gN, k_gsN, k_gsC, k_gT, k_asg, k_for, k_fnil, k_fcons, k_app, oL_z, oL_s, k_par, k_run, k_runN, k_fld, oO_z, k_add, k_addL, k_sub, k_mul, k_div, k_mod, k_pow, k_neg, k_lt, k_le, k_gt, k_ge, k_eqI, k_neI, k_int, k_intB, k_abs, k_lenL, k_lenT, k_lenC, k_tru, k_tupL, k_tupT, k_items_l, k_items_t, k_rng1, k_ixL, k_ixT, k_ixC, k_fldD, ok_nox, ok_ok, ok_bind, List.set_cons_zero, List.set_cons_succ, startS, startN, List.map_cons, List.map_nil, List.cons_append, List.nil_append, List.append_nil, List.length_cons, List.length_nil, List.replicate, Nat.reduceSub, Nat.reduceAdd, Nat.reduceLeDiff, Nat.zero_add, true_and, and_true, false_implies, true_implies, implies_true, forall_const, reduceCtorEq, Bool.not_true, Bool.not_false, Bool.not_eq_true', k_itT])) (by omega) (fun x hx => ?_) ?_
      · (try simp only [↓k_guard, k_no, k_I, k_S, k_B, k_N, k_G, k_Y, k_V, k_W, k_O, g0_z, g0_s, gA_z, gA_s, g1_z, g1_s, k_1, k_2, k_n, k_c, k_T, k_L, k_C, k_f1, k_f2, k_App, k_M, k_P, k_3, k_tB, k_tT, k_toB, k_tNo, k_tA, k_tO, k_tY, k_And, k_Or, k_Not, k_eIf, k_nil, k_seq, k_set, k_own, k_drop, k_ret, k_retN, k_retO, k_if, k_fz, fz_z, fz_s, k_gN, k_gsN, k_gsC, k_gT, k_asg, k_for, k_fnil, k_fcons, k_app, oL_z, oL_s, k_par, k_run, k_runN, k_fld, oO_z, k_add, k_addL, k_sub, k_mul, k_div, k_mod, k_pow, k_neg, k_lt, k_le, k_gt, k_ge, k_eqI, k_neI, k_int, k_intB, k_abs, k_lenL, k_lenT, k_lenC, k_tru, k_tupL, k_tupT, k_items_l, k_items_t, k_rng1, k_ixL, k_ixT, k_ixC, k_fldD, ok_nox, ok_ok, ok_bind, List.set_cons_zero, List.set_cons_succ, startS, startN, List.map_cons, List.map_nil, List.cons_append, List.nil_append, List.append_nil, List.length_cons, List.length_nil, List.replicate, Nat.reduceSub, Nat.reduceAdd, Nat.reduceLeDiff, Nat.zero_add, true_and, and_true, false_implies, true_implies, implies_true, forall_const, reduceCtorEq, Bool.not_true, Bool.not_false, Bool.not_eq_true', wipeS, k_isS])
      · (try simp only [↓k_guard, k_no, k_I, k_S, k_B, k_N, k_G, k_Y, k_V, k_W, k_O, g0_z, g0_s, gA_z, gA_s, g1_z, g1_s, k_1, k_2, k_n, k_c, k_T, k_L, k_C, k_f1, k_f2, k_App, k_M, k_P, k_3, k_tB, k_tT, k_toB, k_tNo, k_tA, k_tO, k_tY, k_And, k_Or, k_Not, k_eIf, k_nil, k_seq, k_set, k_own, k_drop, k_ret, k_retN, k_retO, k_if, k_fz, fz_z, fz_s, k_gN, k_gsN, k_gsC, k_gT, k_asg, k_for, k_fnil, k_fcons, k_app, oL_z, oL_s, k_par, k_run, k_runN, k_fld, oO_z, k_add, k_addL, k_sub, k_mul, k_div, k_mod, k_pow, k_neg, k_lt, k_le, k_gt, k_ge, k_eqI, k_neI, k_int, k_intB, k_abs, k_lenL, k_lenT, k_lenC, k_tru, k_tupL, k_tupT, k_items_l, k_items_t, k_rng1, k_ixL, k_ixT, k_ixC, k_fldD, ok_nox, ok_ok, ok_bind, List.set_cons_zero, List.set_cons_succ, startS, startN, List.map_cons, List.map_nil, List.cons_append, List.nil_append, List.append_nil, List.length_cons, List.length_nil, List.replicate, Nat.reduceSub, Nat.reduceAdd, Nat.reduceLeDiff, Nat.zero_add, true_and, and_true, false_implies, true_implies, implies_true, forall_const, reduceCtorEq, Bool.not_true, Bool.not_false, Bool.not_eq_true'])
        have : (T.filter fun _ => false) = [] := by simp
        rw [this]
        refine ⟨fun h => ?_, fun _ => ⟨_, _, rfl⟩⟩
        simp at h
    · rintro S ⟨a, b, rfl⟩
      exact ⟨rfl, a, b, rfl⟩
  rintro S ⟨a, b, rfl⟩
  (try simp only [↓k_guard, k_no, k_I, k_S, k_B, k_N, k_G, k_Y, k_V, k_W, k_O, g0_z, g0_s, gA_z, gA_s, g1_z, g1_s, k_1, k_2, k_n, k_c, k_T, k_L, k_C, k_f1, k_f2, k_App, k_M, k_P, k_3, k_tB, k_tT, k_toB, k_tNo, k_tA, k_tO, k_tY, k_And, k_Or, k_Not, k_eIf, k_nil, k_seq, k_set, k_own, k_drop, k_ret, k_retN, k_retO, k_if, k_fz, fz_z, fz_s, k_gN, k_gsN, k_gsC, k_gT, k_asg, k_for, k_fnil, k_fcons, k_app, oL_z, oL_s, k_par, k_run, k_runN, k_fld, oO_z, k_add, k_addL, k_sub, k_mul, k_div, k_mod, k_pow, k_neg, k_lt, k_le, k_gt, k_ge, k_eqI, k_neI, k_int, k_intB, k_abs, k_lenL, k_lenT, k_lenC, k_tru, k_tupL, k_tupT, k_items_l, k_items_t, k_rng1, k_ixL, k_ixT, k_ixC, k_fldD, ok_nox, ok_ok, ok_bind, List.set_cons_zero, List.set_cons_succ, startS, startN, List.map_cons, List.map_nil, List.cons_append, List.nil_append, List.append_nil, List.length_cons, List.length_nil, List.replicate, Nat.reduceSub, Nat.reduceAdd, Nat.reduceLeDiff, Nat.zero_add, true_and, and_true, false_implies, true_implies, implies_true, forall_const, reduceCtorEq, Bool.not_true, Bool.not_false, Bool.not_eq_true'])
  exact ⟨_, rfl, rfl⟩
def wd (i : Int) : Str := WD.getD (i % 12).toNat ""
theorem wd_ix {i : Int} {Q : D → Prop} (h : Q (.str (wd i))) : Ok (ixD (slD' WD) (.int (i % 12))) Q := by
  show Ok (ixD (.lst (WD.map .str)) (.int (i % 12))) Q
  have hm := mod_b i (m := 12) (by omega)
  rw [k_ixL]
  refine ⟨.str (wd i), ?_, h⟩
  unfold L2.atI ixN
  have hl : (WD.map D.str).length = 12 := rfl
  rw [if_pos hm.1, if_pos (by rw [hl]; omega)]
  have : (i % 12).toNat < WD.length := by show _ < 12; omega
  show (WD.map D.str)[(i % 12).toNat]? = _
  rw [List.getElem?_map, List.getElem?_eq_getElem this]
  unfold wd
  rw [List.getD_eq_getElem?_getD, List.getElem?_eq_getElem this]
  rfl
theorem wd_mem (i : Int) : wd i ∈ WD := by
  have hm := mod_b i (m := 12) (by omega)
  have : (i % 12).toNat < WD.length := by show _ < 12; omega
  unfold wd
  rw [List.getD_eq_getElem?_getD, List.getElem?_eq_getElem this]
  exact List.getElem_mem ..
theorem WD_nd : WD.Nodup := by decide +kernel
theorem wd_inj {i j : Int} (h : wd i = wd j) : i % 12 = j % 12 := by
  have hm := mod_b i (m := 12) (by omega)
  have hn := mod_b j (m := 12) (by omega)
  have h1 : (i % 12).toNat < WD.length := by show _ < 12; omega
  have h2 : (j % 12).toNat < WD.length := by show _ < 12; omega
  unfold wd at h
  rw [List.getD_eq_getElem?_getD, List.getD_eq_getElem?_getD, List.getElem?_eq_getElem h1, List.getElem?_eq_getElem h2] at h
  have := (List.getElem_inj WD_nd).mp (show WD[(i % 12).toNat] = WD[(j % 12).toNat] from h)
  omega
def nms (d : Int) (c : Nat) : List Str := (List.range c).map fun k : Nat => wd (d + (k : Int) * 5)
theorem nms_nd (d : Int) (c : Nat) (hc : c ≤ 8) : (nms d c).Nodup := by
  unfold nms
  refine List.pairwise_map.mpr ((List.pairwise_lt_range (n := c)).imp_of_mem fun {a b} ha hb hab h => ?_)
  rw [List.mem_range] at ha hb
  have := wd_inj h
  omega
theorem nms_wd (d : Int) (c : Nat) : nms d c ⊆ WD := fun x hx => by
  obtain ⟨k, _, rfl⟩ := List.mem_map.mp hx
  exact wd_mem _
theorem nms_len (d : Int) (c : Nat) : (nms d c).length = c := by unfold nms; simp
theorem pure_law : ∀ ns : List Int, ns.length ≤ 63 → (∀ z ∈ ns, Builtin.Int.intBits z ≤ 1048576) → d_law [.scr ns] = .ok (.bl true) := by
  intro ns hn hbits
  have hs := size_ge
  refine Ok.eq ?_
  unfold d_law m_law
  rw [ok_nox, k_run]
  refine Ok.mono (P := fun z => ∃ d, z.1 = .rt d ∧ d = .bl true) ?_ fun z ⟨d, e, h⟩ => by rw [e]; exact h
  refine seq_cut (fun S => ∃ d, drawn 6 d ∧ S = [(some (Sl.mk false (.scr ns))), (some (Sl.mk false (d))), none, none, none, none, none, none, none, none, none, none]) ?_ ?_
  · (try simp only [↓k_guard, k_no, k_I, k_S, k_B, k_N, k_G, k_Y, k_V, k_W, k_O, g0_z, g0_s, gA_z, gA_s, g1_z, g1_s, k_1, k_2, k_n, k_c, k_T, k_L, k_C, k_f1, k_f2, k_App, k_M, k_P, k_3, k_tB, k_tT, k_toB, k_tNo, k_tA, k_tO, k_tY, k_And, k_Or, k_Not, k_eIf, k_nil, k_seq, k_set, k_own, k_drop, k_ret, k_retN, k_retO, k_if, k_fz, fz_z, fz_s, k_gN, k_gsN, k_gsC, k_gT, k_asg, k_for, k_fnil, k_fcons, k_app, oL_z, oL_s, k_par, k_run, k_runN, k_fld, oO_z, k_add, k_addL, k_sub, k_mul, k_div, k_mod, k_pow, k_neg, k_lt, k_le, k_gt, k_ge, k_eqI, k_neI, k_int, k_intB, k_abs, k_lenL, k_lenT, k_lenC, k_tru, k_tupL, k_tupT, k_items_l, k_items_t, k_rng1, k_ixL, k_ixT, k_ixC, k_fldD, ok_nox, ok_ok, ok_bind, List.set_cons_zero, List.set_cons_succ, startS, startN, List.map_cons, List.map_nil, List.cons_append, List.nil_append, List.append_nil, List.length_cons, List.length_nil, List.replicate, Nat.reduceSub, Nat.reduceAdd, Nat.reduceLeDiff, Nat.zero_add, true_and, and_true, false_implies, true_implies, implies_true, forall_const, reduceCtorEq, Bool.not_true, Bool.not_false, Bool.not_eq_true'])
    exact (p_draws ns 0 6 (by omega) (by omega) (by omega)).mono fun d hd => ⟨d, hd, rfl⟩
  rintro S ⟨d, hd, rfl⟩
  refine seq_cut (fun S => ∃ e, drawn 14 e ∧ S = [(some (Sl.mk false (.scr ns))), (some (Sl.mk false (d))), (some (Sl.mk false (e))), none, none, none, none, none, none, none, none, none]) ?_ ?_
  · (try simp only [↓k_guard, k_no, k_I, k_S, k_B, k_N, k_G, k_Y, k_V, k_W, k_O, g0_z, g0_s, gA_z, gA_s, g1_z, g1_s, k_1, k_2, k_n, k_c, k_T, k_L, k_C, k_f1, k_f2, k_App, k_M, k_P, k_3, k_tB, k_tT, k_toB, k_tNo, k_tA, k_tO, k_tY, k_And, k_Or, k_Not, k_eIf, k_nil, k_seq, k_set, k_own, k_drop, k_ret, k_retN, k_retO, k_if, k_fz, fz_z, fz_s, k_gN, k_gsN, k_gsC, k_gT, k_asg, k_for, k_fnil, k_fcons, k_app, oL_z, oL_s, k_par, k_run, k_runN, k_fld, oO_z, k_add, k_addL, k_sub, k_mul, k_div, k_mod, k_pow, k_neg, k_lt, k_le, k_gt, k_ge, k_eqI, k_neI, k_int, k_intB, k_abs, k_lenL, k_lenT, k_lenC, k_tru, k_tupL, k_tupT, k_items_l, k_items_t, k_rng1, k_ixL, k_ixT, k_ixC, k_fldD, ok_nox, ok_ok, ok_bind, List.set_cons_zero, List.set_cons_succ, startS, startN, List.map_cons, List.map_nil, List.cons_append, List.nil_append, List.append_nil, List.length_cons, List.length_nil, List.replicate, Nat.reduceSub, Nat.reduceAdd, Nat.reduceLeDiff, Nat.zero_add, true_and, and_true, false_implies, true_implies, implies_true, forall_const, reduceCtorEq, Bool.not_true, Bool.not_false, Bool.not_eq_true'])
    exact (p_draws ns 1 14 (by omega) (by omega) (by omega)).mono fun d hd => ⟨d, hd, rfl⟩
  rintro S ⟨e, he, rfl⟩
  refine seq_cut (fun S => S = [(some (Sl.mk false (.scr ns))), (some (Sl.mk false (d))), (some (Sl.mk false (e))), (some (Sl.mk false (slD' WD))), none, none, none, none, none, none, none, none]) ?_ ?_
  · (try simp only [↓k_guard, k_no, k_I, k_S, k_B, k_N, k_G, k_Y, k_V, k_W, k_O, g0_z, g0_s, gA_z, gA_s, g1_z, g1_s, k_1, k_2, k_n, k_c, k_T, k_L, k_C, k_f1, k_f2, k_App, k_M, k_P, k_3, k_tB, k_tT, k_toB, k_tNo, k_tA, k_tO, k_tY, k_And, k_Or, k_Not, k_eIf, k_nil, k_seq, k_set, k_own, k_drop, k_ret, k_retN, k_retO, k_if, k_fz, fz_z, fz_s, k_gN, k_gsN, k_gsC, k_gT, k_asg, k_for, k_fnil, k_fcons, k_app, oL_z, oL_s, k_par, k_run, k_runN, k_fld, oO_z, k_add, k_addL, k_sub, k_mul, k_div, k_mod, k_pow, k_neg, k_lt, k_le, k_gt, k_ge, k_eqI, k_neI, k_int, k_intB, k_abs, k_lenL, k_lenT, k_lenC, k_tru, k_tupL, k_tupT, k_items_l, k_items_t, k_rng1, k_ixL, k_ixT, k_ixC, k_fldD, ok_nox, ok_ok, ok_bind, List.set_cons_zero, List.set_cons_succ, startS, startN, List.map_cons, List.map_nil, List.cons_append, List.nil_append, List.append_nil, List.length_cons, List.length_nil, List.replicate, Nat.reduceSub, Nat.reduceAdd, Nat.reduceLeDiff, Nat.zero_add, true_and, and_true, false_implies, true_implies, implies_true, forall_const, reduceCtorEq, Bool.not_true, Bool.not_false, Bool.not_eq_true'])
    exact ⟨by omega, rfl⟩
  rintro S rfl
  refine seq_cut (fun S => ∃ c : Nat, (1 ≤ c ∧ c ≤ 5) ∧ S = [(some (Sl.mk false (.scr ns))), (some (Sl.mk false (d))), (some (Sl.mk false (e))), (some (Sl.mk false (slD' WD))), (some (Sl.mk false (.int c))), none, none, none, none, none, none, none]) ?_ ?_
  · (try simp only [↓k_guard, k_no, k_I, k_S, k_B, k_N, k_G, k_Y, k_V, k_W, k_O, g0_z, g0_s, gA_z, gA_s, g1_z, g1_s, k_1, k_2, k_n, k_c, k_T, k_L, k_C, k_f1, k_f2, k_App, k_M, k_P, k_3, k_tB, k_tT, k_toB, k_tNo, k_tA, k_tO, k_tY, k_And, k_Or, k_Not, k_eIf, k_nil, k_seq, k_set, k_own, k_drop, k_ret, k_retN, k_retO, k_if, k_fz, fz_z, fz_s, k_gN, k_gsN, k_gsC, k_gT, k_asg, k_for, k_fnil, k_fcons, k_app, oL_z, oL_s, k_par, k_run, k_runN, k_fld, oO_z, k_add, k_addL, k_sub, k_mul, k_div, k_mod, k_pow, k_neg, k_lt, k_le, k_gt, k_ge, k_eqI, k_neI, k_int, k_intB, k_abs, k_lenL, k_lenT, k_lenC, k_tru, k_tupL, k_tupT, k_items_l, k_items_t, k_rng1, k_ixL, k_ixT, k_ixC, k_fldD, ok_nox, ok_ok, ok_bind, List.set_cons_zero, List.set_cons_succ, startS, startN, List.map_cons, List.map_nil, List.cons_append, List.nil_append, List.append_nil, List.length_cons, List.length_nil, List.replicate, Nat.reduceSub, Nat.reduceAdd, Nat.reduceLeDiff, Nat.zero_add, true_and, and_true, false_implies, true_implies, implies_true, forall_const, reduceCtorEq, Bool.not_true, Bool.not_false, Bool.not_eq_true'])
    refine (hd.ix (by omega) (by omega)).mono ?_
    rintro _ ⟨x, rfl, hx⟩
    (try simp only [↓k_guard, k_no, k_I, k_S, k_B, k_N, k_G, k_Y, k_V, k_W, k_O, g0_z, g0_s, gA_z, gA_s, g1_z, g1_s, k_1, k_2, k_n, k_c, k_T, k_L, k_C, k_f1, k_f2, k_App, k_M, k_P, k_3, k_tB, k_tT, k_toB, k_tNo, k_tA, k_tO, k_tY, k_And, k_Or, k_Not, k_eIf, k_nil, k_seq, k_set, k_own, k_drop, k_ret, k_retN, k_retO, k_if, k_fz, fz_z, fz_s, k_gN, k_gsN, k_gsC, k_gT, k_asg, k_for, k_fnil, k_fcons, k_app, oL_z, oL_s, k_par, k_run, k_runN, k_fld, oO_z, k_add, k_addL, k_sub, k_mul, k_div, k_mod, k_pow, k_neg, k_lt, k_le, k_gt, k_ge, k_eqI, k_neI, k_int, k_intB, k_abs, k_lenL, k_lenT, k_lenC, k_tru, k_tupL, k_tupT, k_items_l, k_items_t, k_rng1, k_ixL, k_ixT, k_ixC, k_fldD, ok_nox, ok_ok, ok_bind, List.set_cons_zero, List.set_cons_succ, startS, startN, List.map_cons, List.map_nil, List.cons_append, List.nil_append, List.append_nil, List.length_cons, List.length_nil, List.replicate, Nat.reduceSub, Nat.reduceAdd, Nat.reduceLeDiff, Nat.zero_add, true_and, and_true, false_implies, true_implies, implies_true, forall_const, reduceCtorEq, Bool.not_true, Bool.not_false, Bool.not_eq_true'])
    have := mod_b x (m := 5) (by omega)
    refine ⟨by omega, (1 + x % 5).toNat, by omega, ?_⟩
    rw [Int.toNat_of_nonneg (by omega)]
  rintro S ⟨c, hc, rfl⟩
  refine seq_cut (fun S => ∃ c : Nat, (1 ≤ c ∧ c ≤ 8) ∧ S = [(some (Sl.mk false (.scr ns))), (some (Sl.mk false (d))), (some (Sl.mk false (e))), (some (Sl.mk false (slD' WD))), (some (Sl.mk false (.int c))), none, none, none, none, none, none, none]) ?_ ?_
  · (try simp only [↓k_guard, k_no, k_I, k_S, k_B, k_N, k_G, k_Y, k_V, k_W, k_O, g0_z, g0_s, gA_z, gA_s, g1_z, g1_s, k_1, k_2, k_n, k_c, k_T, k_L, k_C, k_f1, k_f2, k_App, k_M, k_P, k_3, k_tB, k_tT, k_toB, k_tNo, k_tA, k_tO, k_tY, k_And, k_Or, k_Not, k_eIf, k_nil, k_seq, k_set, k_own, k_drop, k_ret, k_retN, k_retO, k_if, k_fz, fz_z, fz_s, k_gN, k_gsN, k_gsC, k_gT, k_asg, k_for, k_fnil, k_fcons, k_app, oL_z, oL_s, k_par, k_run, k_runN, k_fld, oO_z, k_add, k_addL, k_sub, k_mul, k_div, k_mod, k_pow, k_neg, k_lt, k_le, k_gt, k_ge, k_eqI, k_neI, k_int, k_intB, k_abs, k_lenL, k_lenT, k_lenC, k_tru, k_tupL, k_tupT, k_items_l, k_items_t, k_rng1, k_ixL, k_ixT, k_ixC, k_fldD, ok_nox, ok_ok, ok_bind, List.set_cons_zero, List.set_cons_succ, startS, startN, List.map_cons, List.map_nil, List.cons_append, List.nil_append, List.append_nil, List.length_cons, List.length_nil, List.replicate, Nat.reduceSub, Nat.reduceAdd, Nat.reduceLeDiff, Nat.zero_add, true_and, and_true, false_implies, true_implies, implies_true, forall_const, reduceCtorEq, Bool.not_true, Bool.not_false, Bool.not_eq_true'])
    refine (hd.ix (by omega) (by omega)).mono ?_
    rintro _ ⟨x, rfl, hx⟩
    (try simp only [↓k_guard, k_no, k_I, k_S, k_B, k_N, k_G, k_Y, k_V, k_W, k_O, g0_z, g0_s, gA_z, gA_s, g1_z, g1_s, k_1, k_2, k_n, k_c, k_T, k_L, k_C, k_f1, k_f2, k_App, k_M, k_P, k_3, k_tB, k_tT, k_toB, k_tNo, k_tA, k_tO, k_tY, k_And, k_Or, k_Not, k_eIf, k_nil, k_seq, k_set, k_own, k_drop, k_ret, k_retN, k_retO, k_if, k_fz, fz_z, fz_s, k_gN, k_gsN, k_gsC, k_gT, k_asg, k_for, k_fnil, k_fcons, k_app, oL_z, oL_s, k_par, k_run, k_runN, k_fld, oO_z, k_add, k_addL, k_sub, k_mul, k_div, k_mod, k_pow, k_neg, k_lt, k_le, k_gt, k_ge, k_eqI, k_neI, k_int, k_intB, k_abs, k_lenL, k_lenT, k_lenC, k_tru, k_tupL, k_tupT, k_items_l, k_items_t, k_rng1, k_ixL, k_ixT, k_ixC, k_fldD, ok_nox, ok_ok, ok_bind, List.set_cons_zero, List.set_cons_succ, startS, startN, List.map_cons, List.map_nil, List.cons_append, List.nil_append, List.append_nil, List.length_cons, List.length_nil, List.replicate, Nat.reduceSub, Nat.reduceAdd, Nat.reduceLeDiff, Nat.zero_add, true_and, and_true, false_implies, true_implies, implies_true, forall_const, reduceCtorEq, Bool.not_true, Bool.not_false, Bool.not_eq_true'])
    exact ⟨div_c (by omega) (by omega), by omega, fun _ => ⟨8, by omega, rfl⟩, fun _ => ⟨c, by omega, rfl⟩⟩
  rintro S ⟨c, hc, rfl⟩
  refine seq_cut (fun S => ∃ d1 : Int, S = [(some (Sl.mk false (.scr ns))), (some (Sl.mk false (d))), (some (Sl.mk false (e))), (some (Sl.mk false (slD' WD))), (some (Sl.mk false (.int c))), none, (some (Sl.mk false (slD' (nms d1 c)))), none, none, none, none, none]) ?_ ?_
  · obtain ⟨_, e1, d1, rfl, hd1⟩ := hd.ix (i := 1) (by omega) (by omega)
    (try simp only [↓k_guard, k_no, k_I, k_S, k_B, k_N, k_G, k_Y, k_V, k_W, k_O, g0_z, g0_s, gA_z, gA_s, g1_z, g1_s, k_1, k_2, k_n, k_c, k_T, k_L, k_C, k_f1, k_f2, k_App, k_M, k_P, k_3, k_tB, k_tT, k_toB, k_tNo, k_tA, k_tO, k_tY, k_And, k_Or, k_Not, k_eIf, k_nil, k_seq, k_set, k_own, k_drop, k_ret, k_retN, k_retO, k_if, k_fz, fz_z, fz_s, k_gN, k_gsN, k_gsC, k_gT, k_asg, k_for, k_fnil, k_fcons, k_app, oL_z, oL_s, k_par, k_run, k_runN, k_fld, oO_z, k_add, k_addL, k_sub, k_mul, k_div, k_mod, k_pow, k_neg, k_lt, k_le, k_gt, k_ge, k_eqI, k_neI, k_int, k_intB, k_abs, k_lenL, k_lenT, k_lenC, k_tru, k_tupL, k_tupT, k_items_l, k_items_t, k_rng1, k_ixL, k_ixT, k_ixC, k_fldD, ok_nox, ok_ok, ok_bind, List.set_cons_zero, List.set_cons_succ, startS, startN, List.map_cons, List.map_nil, List.cons_append, List.nil_append, List.append_nil, List.length_cons, List.length_nil, List.replicate, Nat.reduceSub, Nat.reduceAdd, Nat.reduceLeDiff, Nat.zero_add, true_and, and_true, false_implies, true_implies, implies_true, forall_const, reduceCtorEq, Bool.not_true, Bool.not_false, Bool.not_eq_true'])
    refine k_lcM (f := fun k : Nat => D.int (0 + (k : Int))) (g := fun k : Nat => .str (wd (d1 + (k : Int) * 5))) (List.range c) ?_ (by rw [List.length_range]; omega) (fun k hk => ?_) ⟨d1, ?_⟩
    · (try simp only [↓k_guard, k_no, k_I, k_S, k_B, k_N, k_G, k_Y, k_V, k_W, k_O, g0_z, g0_s, gA_z, gA_s, g1_z, g1_s, k_1, k_2, k_n, k_c, k_T, k_L, k_C, k_f1, k_f2, k_App, k_M, k_P, k_3, k_tB, k_tT, k_toB, k_tNo, k_tA, k_tO, k_tY, k_And, k_Or, k_Not, k_eIf, k_nil, k_seq, k_set, k_own, k_drop, k_ret, k_retN, k_retO, k_if, k_fz, fz_z, fz_s, k_gN, k_gsN, k_gsC, k_gT, k_asg, k_for, k_fnil, k_fcons, k_app, oL_z, oL_s, k_par, k_run, k_runN, k_fld, oO_z, k_add, k_addL, k_sub, k_mul, k_div, k_mod, k_pow, k_neg, k_lt, k_le, k_gt, k_ge, k_eqI, k_neI, k_int, k_intB, k_abs, k_lenL, k_lenT, k_lenC, k_tru, k_tupL, k_tupT, k_items_l, k_items_t, k_rng1, k_ixL, k_ixT, k_ixC, k_fldD, ok_nox, ok_ok, ok_bind, List.set_cons_zero, List.set_cons_succ, startS, startN, List.map_cons, List.map_nil, List.cons_append, List.nil_append, List.append_nil, List.length_cons, List.length_nil, List.replicate, Nat.reduceSub, Nat.reduceAdd, Nat.reduceLeDiff, Nat.zero_add, true_and, and_true, false_implies, true_implies, implies_true, forall_const, reduceCtorEq, Bool.not_true, Bool.not_false, Bool.not_eq_true'])
      exact ⟨⟨by omega, by omega⟩, rfl⟩
    · rw [List.mem_range] at hk
      (try simp only [↓k_guard, k_no, k_I, k_S, k_B, k_N, k_G, k_Y, k_V, k_W, k_O, g0_z, g0_s, gA_z, gA_s, g1_z, g1_s, k_1, k_2, k_n, k_c, k_T, k_L, k_C, k_f1, k_f2, k_App, k_M, k_P, k_3, k_tB, k_tT, k_toB, k_tNo, k_tA, k_tO, k_tY, k_And, k_Or, k_Not, k_eIf, k_nil, k_seq, k_set, k_own, k_drop, k_ret, k_retN, k_retO, k_if, k_fz, fz_z, fz_s, k_gN, k_gsN, k_gsC, k_gT, k_asg, k_for, k_fnil, k_fcons, k_app, oL_z, oL_s, k_par, k_run, k_runN, k_fld, oO_z, k_add, k_addL, k_sub, k_mul, k_div, k_mod, k_pow, k_neg, k_lt, k_le, k_gt, k_ge, k_eqI, k_neI, k_int, k_intB, k_abs, k_lenL, k_lenT, k_lenC, k_tru, k_tupL, k_tupT, k_items_l, k_items_t, k_rng1, k_ixL, k_ixT, k_ixC, k_fldD, ok_nox, ok_ok, ok_bind, List.set_cons_zero, List.set_cons_succ, startS, startN, List.map_cons, List.map_nil, List.cons_append, List.nil_append, List.append_nil, List.length_cons, List.length_nil, List.replicate, Nat.reduceSub, Nat.reduceAdd, Nat.reduceLeDiff, Nat.zero_add, true_and, and_true, false_implies, true_implies, implies_true, forall_const, reduceCtorEq, Bool.not_true, Bool.not_false, Bool.not_eq_true', wipeS])
      rw [ok_eq e1]
      (try simp only [↓k_guard, k_no, k_I, k_S, k_B, k_N, k_G, k_Y, k_V, k_W, k_O, g0_z, g0_s, gA_z, gA_s, g1_z, g1_s, k_1, k_2, k_n, k_c, k_T, k_L, k_C, k_f1, k_f2, k_App, k_M, k_P, k_3, k_tB, k_tT, k_toB, k_tNo, k_tA, k_tO, k_tY, k_And, k_Or, k_Not, k_eIf, k_nil, k_seq, k_set, k_own, k_drop, k_ret, k_retN, k_retO, k_if, k_fz, fz_z, fz_s, k_gN, k_gsN, k_gsC, k_gT, k_asg, k_for, k_fnil, k_fcons, k_app, oL_z, oL_s, k_par, k_run, k_runN, k_fld, oO_z, k_add, k_addL, k_sub, k_mul, k_div, k_mod, k_pow, k_neg, k_lt, k_le, k_gt, k_ge, k_eqI, k_neI, k_int, k_intB, k_abs, k_lenL, k_lenT, k_lenC, k_tru, k_tupL, k_tupT, k_items_l, k_items_t, k_rng1, k_ixL, k_ixT, k_ixC, k_fldD, ok_nox, ok_ok, ok_bind, List.set_cons_zero, List.set_cons_succ, startS, startN, List.map_cons, List.map_nil, List.cons_append, List.nil_append, List.append_nil, List.length_cons, List.length_nil, List.replicate, Nat.reduceSub, Nat.reduceAdd, Nat.reduceLeDiff, Nat.zero_add, true_and, and_true, false_implies, true_implies, implies_true, forall_const, reduceCtorEq, Bool.not_true, Bool.not_false, Bool.not_eq_true'])
      refine ⟨mul_r (by omega) (by omega), by omega, ?_⟩
      rw [show d1 + (0 + (k : Int)) * 5 = d1 + (k : Int) * 5 by omega]
      exact wd_ix rfl
    · unfold nms slD'
      rw [List.map_map]; rfl
  rintro S ⟨d1, rfl⟩
  have nN := nms_nd d1 c hc.2
  have nW := nms_wd d1 c
  have nL := nms_len d1 c
  generalize nms d1 c = N at nN nW nL
  refine seq_cut (fun S => S = [(some (Sl.mk false (.scr ns))), (some (Sl.mk false (d))), (some (Sl.mk false (e))), (some (Sl.mk false (slD' WD))), (some (Sl.mk false (.int c))), none, (some (Sl.mk false (slD' N))), (some (Sl.mk true (.lst []))), none, none, none, none]) (by (try simp only [↓k_guard, k_no, k_I, k_S, k_B, k_N, k_G, k_Y, k_V, k_W, k_O, g0_z, g0_s, gA_z, gA_s, g1_z, g1_s, k_1, k_2, k_n, k_c, k_T, k_L, k_C, k_f1, k_f2, k_App, k_M, k_P, k_3, k_tB, k_tT, k_toB, k_tNo, k_tA, k_tO, k_tY, k_And, k_Or, k_Not, k_eIf, k_nil, k_seq, k_set, k_own, k_drop, k_ret, k_retN, k_retO, k_if, k_fz, fz_z, fz_s, k_gN, k_gsN, k_gsC, k_gT, k_asg, k_for, k_fnil, k_fcons, k_app, oL_z, oL_s, k_par, k_run, k_runN, k_fld, oO_z, k_add, k_addL, k_sub, k_mul, k_div, k_mod, k_pow, k_neg, k_lt, k_le, k_gt, k_ge, k_eqI, k_neI, k_int, k_intB, k_abs, k_lenL, k_lenT, k_lenC, k_tru, k_tupL, k_tupT, k_items_l, k_items_t, k_rng1, k_ixL, k_ixT, k_ixC, k_fldD, ok_nox, ok_ok, ok_bind, List.set_cons_zero, List.set_cons_succ, startS, startN, List.map_cons, List.map_nil, List.cons_append, List.nil_append, List.append_nil, List.length_cons, List.length_nil, List.replicate, Nat.reduceSub, Nat.reduceAdd, Nat.reduceLeDiff, Nat.zero_add, true_and, and_true, false_implies, true_implies, implies_true, forall_const, reduceCtorEq, Bool.not_true, Bool.not_false, Bool.not_eq_true']); omega) ?_
  rintro S rfl
  refine seq_cut (fun S => ∃ (R : List (List Str)) (k : Option Sl), (R.length ≤ 6 ∧ ∀ r ∈ R, r ⊆ N ∧ r.length ≤ 9) ∧ S = [(some (Sl.mk false (.scr ns))), (some (Sl.mk false (d))), (some (Sl.mk false (e))), (some (Sl.mk false (slD' WD))), (some (Sl.mk false (.int c))), k, (some (Sl.mk false (slD' N))), (some (Sl.mk true (.lst (R.map stD)))), none, none, none, none]) ?_ ?_
  · (try simp only [↓k_guard, k_no, k_I, k_S, k_B, k_N, k_G, k_Y, k_V, k_W, k_O, g0_z, g0_s, gA_z, gA_s, g1_z, g1_s, k_1, k_2, k_n, k_c, k_T, k_L, k_C, k_f1, k_f2, k_App, k_M, k_P, k_3, k_tB, k_tT, k_toB, k_tNo, k_tA, k_tO, k_tY, k_And, k_Or, k_Not, k_eIf, k_nil, k_seq, k_set, k_own, k_drop, k_ret, k_retN, k_retO, k_if, k_fz, fz_z, fz_s, k_gN, k_gsN, k_gsC, k_gT, k_asg, k_for, k_fnil, k_fcons, k_app, oL_z, oL_s, k_par, k_run, k_runN, k_fld, oO_z, k_add, k_addL, k_sub, k_mul, k_div, k_mod, k_pow, k_neg, k_lt, k_le, k_gt, k_ge, k_eqI, k_neI, k_int, k_intB, k_abs, k_lenL, k_lenT, k_lenC, k_tru, k_tupL, k_tupT, k_items_l, k_items_t, k_rng1, k_ixL, k_ixT, k_ixC, k_fldD, ok_nox, ok_ok, ok_bind, List.set_cons_zero, List.set_cons_succ, startS, startN, List.map_cons, List.map_nil, List.cons_append, List.nil_append, List.append_nil, List.length_cons, List.length_nil, List.replicate, Nat.reduceSub, Nat.reduceAdd, Nat.reduceLeDiff, Nat.zero_add, true_and, and_true, false_implies, true_implies, implies_true, forall_const, reduceCtorEq, Bool.not_true, Bool.not_false, Bool.not_eq_true'])
    refine (hd.ix (by omega) (by omega)).mono ?_
    rintro _ ⟨x, rfl, hx⟩
    have hm := mod_b x (m := 7) (by omega)
    (try simp only [↓k_guard, k_no, k_I, k_S, k_B, k_N, k_G, k_Y, k_V, k_W, k_O, g0_z, g0_s, gA_z, gA_s, g1_z, g1_s, k_1, k_2, k_n, k_c, k_T, k_L, k_C, k_f1, k_f2, k_App, k_M, k_P, k_3, k_tB, k_tT, k_toB, k_tNo, k_tA, k_tO, k_tY, k_And, k_Or, k_Not, k_eIf, k_nil, k_seq, k_set, k_own, k_drop, k_ret, k_retN, k_retO, k_if, k_fz, fz_z, fz_s, k_gN, k_gsN, k_gsC, k_gT, k_asg, k_for, k_fnil, k_fcons, k_app, oL_z, oL_s, k_par, k_run, k_runN, k_fld, oO_z, k_add, k_addL, k_sub, k_mul, k_div, k_mod, k_pow, k_neg, k_lt, k_le, k_gt, k_ge, k_eqI, k_neI, k_int, k_intB, k_abs, k_lenL, k_lenT, k_lenC, k_tru, k_tupL, k_tupT, k_items_l, k_items_t, k_rng1, k_ixL, k_ixT, k_ixC, k_fldD, ok_nox, ok_ok, ok_bind, List.set_cons_zero, List.set_cons_succ, startS, startN, List.map_cons, List.map_nil, List.cons_append, List.nil_append, List.append_nil, List.length_cons, List.length_nil, List.replicate, Nat.reduceSub, Nat.reduceAdd, Nat.reduceLeDiff, Nat.zero_add, true_and, and_true, false_implies, true_implies, implies_true, forall_const, reduceCtorEq, Bool.not_true, Bool.not_false, Bool.not_eq_true'])
    refine ⟨by omega, ⟨by omega, by omega⟩, ?_⟩
    refine for_inv (fun i S => ∃ (R : List (List Str)) (k : Option Sl), (R.length = i ∧ ∀ r ∈ R, r ⊆ N ∧ r.length ≤ 9) ∧ S = [(some (Sl.mk false (.scr ns))), (some (Sl.mk false (d))), (some (Sl.mk false (e))), (some (Sl.mk false (slD' WD))), (some (Sl.mk false (.int c))), k, (some (Sl.mk false (slD' N))), (some (Sl.mk true (.lst (R.map stD)))), none, none, none, none]) _ 0 _ ⟨[], none, by simp, rfl⟩ ?_ ?_
    · rintro i z S hz ⟨R, k, hR, rfl⟩
      obtain ⟨hi, rfl⟩ := rngL_get hz
      rw [Nat.zero_add] at hR
      (try simp only [↓k_guard, k_no, k_I, k_S, k_B, k_N, k_G, k_Y, k_V, k_W, k_O, g0_z, g0_s, gA_z, gA_s, g1_z, g1_s, k_1, k_2, k_n, k_c, k_T, k_L, k_C, k_f1, k_f2, k_App, k_M, k_P, k_3, k_tB, k_tT, k_toB, k_tNo, k_tA, k_tO, k_tY, k_And, k_Or, k_Not, k_eIf, k_nil, k_seq, k_set, k_own, k_drop, k_ret, k_retN, k_retO, k_if, k_fz, fz_z, fz_s, k_gN, k_gsN, k_gsC, k_gT, k_asg, k_for, k_fnil, k_fcons, k_app, oL_z, oL_s, k_par, k_run, k_runN, k_fld, oO_z, k_add, k_addL, k_sub, k_mul, k_div, k_mod, k_pow, k_neg, k_lt, k_le, k_gt, k_ge, k_eqI, k_neI, k_int, k_intB, k_abs, k_lenL, k_lenT, k_lenC, k_tru, k_tupL, k_tupT, k_items_l, k_items_t, k_rng1, k_ixL, k_ixT, k_ixC, k_fldD, ok_nox, ok_ok, ok_bind, List.set_cons_zero, List.set_cons_succ, startS, startN, List.map_cons, List.map_nil, List.cons_append, List.nil_append, List.append_nil, List.length_cons, List.length_nil, List.replicate, Nat.reduceSub, Nat.reduceAdd, Nat.reduceLeDiff, Nat.zero_add, true_and, and_true, false_implies, true_implies, implies_true, forall_const, reduceCtorEq, Bool.not_true, Bool.not_false, Bool.not_eq_true'])
      refine ⟨mul_l (by omega) (by omega), (he.ix (by omega) (by omega)).mono ?_⟩
      rintro _ ⟨y1, rfl, hy1⟩
      refine ⟨mul_l (by omega) (by omega), (he.ix (by omega) (by omega)).mono ?_⟩
      rintro _ ⟨y2, rfl, hy2⟩
      refine (p_members N (by omega) (by omega) y1 y2 (by omega) (by omega) (by omega)).mono ?_
      rintro _ ⟨l, rfl, h1, h2⟩
      refine ⟨by rw [List.length_map]; omega, R ++ [l], _, ⟨by simp [hR.1], fun r hr => ?_⟩, by rw [List.map_append]; rfl⟩
      rcases List.mem_append.mp hr with q | q
      · exact hR.2 r q
      · rw [List.mem_singleton] at q; subst q; exact ⟨h1, h2⟩
    · rintro S ⟨R, k, hR, rfl⟩
      rw [rngL_len, Nat.zero_add] at hR
      exact ⟨rfl, R, k, ⟨by omega, hR.2⟩, rfl⟩
  rintro S ⟨R, k, hR, rfl⟩
  have rW : ∀ r ∈ R, r ⊆ WD ∧ r.length ≤ 1000 := fun r hr => ⟨fun x hx => nW ((hR.2 r hr).1 hx), by have := (hR.2 r hr).2; omega⟩
  refine seq_cut (fun S => S = [(some (Sl.mk false (.scr ns))), (some (Sl.mk false (d))), (some (Sl.mk false (e))), (some (Sl.mk false (slD' WD))), (some (Sl.mk false (.int c))), k, (some (Sl.mk false (slD' N))), (some (Sl.mk true (.lst (R.map stD)))), (some (Sl.mk false (.lst (R.map stD)))), none, none, none]) (by (try simp only [↓k_guard, k_no, k_I, k_S, k_B, k_N, k_G, k_Y, k_V, k_W, k_O, g0_z, g0_s, gA_z, gA_s, g1_z, g1_s, k_1, k_2, k_n, k_c, k_T, k_L, k_C, k_f1, k_f2, k_App, k_M, k_P, k_3, k_tB, k_tT, k_toB, k_tNo, k_tA, k_tO, k_tY, k_And, k_Or, k_Not, k_eIf, k_nil, k_seq, k_set, k_own, k_drop, k_ret, k_retN, k_retO, k_if, k_fz, fz_z, fz_s, k_gN, k_gsN, k_gsC, k_gT, k_asg, k_for, k_fnil, k_fcons, k_app, oL_z, oL_s, k_par, k_run, k_runN, k_fld, oO_z, k_add, k_addL, k_sub, k_mul, k_div, k_mod, k_pow, k_neg, k_lt, k_le, k_gt, k_ge, k_eqI, k_neI, k_int, k_intB, k_abs, k_lenL, k_lenT, k_lenC, k_tru, k_tupL, k_tupT, k_items_l, k_items_t, k_rng1, k_ixL, k_ixT, k_ixC, k_fldD, ok_nox, ok_ok, ok_bind, List.set_cons_zero, List.set_cons_succ, startS, startN, List.map_cons, List.map_nil, List.cons_append, List.nil_append, List.append_nil, List.length_cons, List.length_nil, List.replicate, Nat.reduceSub, Nat.reduceAdd, Nat.reduceLeDiff, Nat.zero_add, true_and, and_true, false_implies, true_implies, implies_true, forall_const, reduceCtorEq, Bool.not_true, Bool.not_false, Bool.not_eq_true', k_lstL])) ?_
  rintro S rfl
  have law_ok : ∀ R : List (List Str), R.length ≤ 7 → (∀ r ∈ R, r ⊆ N ∧ r.length ≤ 9) → Ok (d__law_crossing [slD' N, .lst (R.map stD)]) fun d => d = .lst ((CX.cross le kle R).map stD) := fun R h1 h2 => by
    refine (p_lawcross N nN (by omega) nW R (by omega) fun r hr => (h2 r hr).2).mono ?_
    rintro _ rfl
    rw [← CX.main LE KLE le_an kle_len kle_an nN (CX.cross_ok LE KLE fun r hr => (h2 r hr).1) fun T hT => min_iff]
  have cr_w : ∀ R : List (List Str), (∀ r ∈ R, r ⊆ N ∧ r.length ≤ 9) → ∀ T ∈ CX.cross le kle R, T ⊆ WD ∧ T.length ≤ 1000 := fun R h2 T hT => by
    obtain ⟨_, q, r⟩ := (CX.cross_ok LE KLE (names := N) fun r hr => (h2 r hr).1).as T hT
    have := q.length_le_of_subset r
    exact ⟨fun x hx => nW (r hx), by omega⟩
  have cr_l : ∀ R : List (List Str), (∀ r ∈ R, r ⊆ N ∧ r.length ≤ 9) → (CX.cross le kle R).length ≤ 256 := fun R h2 => by
    have := CX.inv_len LE le_an nN (CX.cross_ok LE KLE (names := N) fun r hr => (h2 r hr).1)
    have h256 : 2 ^ N.length ≤ 2 ^ 8 := Nat.pow_le_pow_right (by omega) (by omega)
    omega
  have cr_rev : CX.cross le kle R.reverse = CX.cross le kle R := by
    have h1 := CX.main LE KLE le_an kle_len kle_an nN (CX.cross_ok LE KLE fun r hr => (hR.2 r hr).1) fun T hT => min_iff (R := R)
    have h2 := CX.main LE KLE le_an kle_len kle_an nN (CX.cross_ok LE KLE (rows := R.reverse) fun r hr => (hR.2 r (List.mem_reverse.mp hr)).1) (p := minB R) fun T hT => by
      rw [min_iff]
      unfold CX.Min CX.Hit
      simp only [List.mem_reverse]
    rw [h1, h2]
  refine seq_cut (fun S => S = [(some (Sl.mk false (.scr ns))), (some (Sl.mk false (d))), (some (Sl.mk false (e))), (some (Sl.mk false (slD' WD))), (some (Sl.mk false (.int c))), k, (some (Sl.mk false (slD' N))), (some (Sl.mk true (.lst (R.map stD)))), (some (Sl.mk false (.lst (R.map stD)))), (some (Sl.mk false (.lst ((CX.cross le kle R).map stD)))), none, none]) ?_ ?_
  · (try simp only [↓k_guard, k_no, k_I, k_S, k_B, k_N, k_G, k_Y, k_V, k_W, k_O, g0_z, g0_s, gA_z, gA_s, g1_z, g1_s, k_1, k_2, k_n, k_c, k_T, k_L, k_C, k_f1, k_f2, k_App, k_M, k_P, k_3, k_tB, k_tT, k_toB, k_tNo, k_tA, k_tO, k_tY, k_And, k_Or, k_Not, k_eIf, k_nil, k_seq, k_set, k_own, k_drop, k_ret, k_retN, k_retO, k_if, k_fz, fz_z, fz_s, k_gN, k_gsN, k_gsC, k_gT, k_asg, k_for, k_fnil, k_fcons, k_app, oL_z, oL_s, k_par, k_run, k_runN, k_fld, oO_z, k_add, k_addL, k_sub, k_mul, k_div, k_mod, k_pow, k_neg, k_lt, k_le, k_gt, k_ge, k_eqI, k_neI, k_int, k_intB, k_abs, k_lenL, k_lenT, k_lenC, k_tru, k_tupL, k_tupT, k_items_l, k_items_t, k_rng1, k_ixL, k_ixT, k_ixC, k_fldD, ok_nox, ok_ok, ok_bind, List.set_cons_zero, List.set_cons_succ, startS, startN, List.map_cons, List.map_nil, List.cons_append, List.nil_append, List.append_nil, List.length_cons, List.length_nil, List.replicate, Nat.reduceSub, Nat.reduceAdd, Nat.reduceLeDiff, Nat.zero_add, true_and, and_true, false_implies, true_implies, implies_true, forall_const, reduceCtorEq, Bool.not_true, Bool.not_false, Bool.not_eq_true'])
    refine (law_ok R (by omega) hR.2).mono ?_
    rintro _ rfl; rfl
  rintro S rfl
  refine seq_cut (fun S => S = [(some (Sl.mk false (.scr ns))), (some (Sl.mk false (d))), (some (Sl.mk false (e))), (some (Sl.mk false (slD' WD))), (some (Sl.mk false (.int c))), k, (some (Sl.mk false (slD' N))), (some (Sl.mk false (.lst (R.map stD)))), (some (Sl.mk false (.lst (R.map stD)))), (some (Sl.mk false (.lst ((CX.cross le kle R).map stD)))), (some (Sl.mk true (.lst ((CX.cross le kle R).map stD)))), none]) ?_ ?_
  · (try simp only [↓k_guard, k_no, k_I, k_S, k_B, k_N, k_G, k_Y, k_V, k_W, k_O, g0_z, g0_s, gA_z, gA_s, g1_z, g1_s, k_1, k_2, k_n, k_c, k_T, k_L, k_C, k_f1, k_f2, k_App, k_M, k_P, k_3, k_tB, k_tT, k_toB, k_tNo, k_tA, k_tO, k_tY, k_And, k_Or, k_Not, k_eIf, k_nil, k_seq, k_set, k_own, k_drop, k_ret, k_retN, k_retO, k_if, k_fz, fz_z, fz_s, k_gN, k_gsN, k_gsC, k_gT, k_asg, k_for, k_fnil, k_fcons, k_app, oL_z, oL_s, k_par, k_run, k_runN, k_fld, oO_z, k_add, k_addL, k_sub, k_mul, k_div, k_mod, k_pow, k_neg, k_lt, k_le, k_gt, k_ge, k_eqI, k_neI, k_int, k_intB, k_abs, k_lenL, k_lenT, k_lenC, k_tru, k_tupL, k_tupT, k_items_l, k_items_t, k_rng1, k_ixL, k_ixT, k_ixC, k_fldD, ok_nox, ok_ok, ok_bind, List.set_cons_zero, List.set_cons_succ, startS, startN, List.map_cons, List.map_nil, List.cons_append, List.nil_append, List.append_nil, List.length_cons, List.length_nil, List.replicate, Nat.reduceSub, Nat.reduceAdd, Nat.reduceLeDiff, Nat.zero_add, true_and, and_true, false_implies, true_implies, implies_true, forall_const, reduceCtorEq, Bool.not_true, Bool.not_false, Bool.not_eq_true'])
    refine (p_crossing N nN (by omega) nW R hR.2).mono ?_
    rintro _ rfl; rfl
  rintro S rfl
  have kR : dok 60 (.lst (R.map stD)) = true := doks_map _ _ _ fun T hT => dok_st (rW T hT).1
  refine pass_if ?_ ?_
  · (try simp only [↓k_guard, k_no, k_I, k_S, k_B, k_N, k_G, k_Y, k_V, k_W, k_O, g0_z, g0_s, gA_z, gA_s, g1_z, g1_s, k_1, k_2, k_n, k_c, k_T, k_L, k_C, k_f1, k_f2, k_App, k_M, k_P, k_3, k_tB, k_tT, k_toB, k_tNo, k_tA, k_tO, k_tY, k_And, k_Or, k_Not, k_eIf, k_nil, k_seq, k_set, k_own, k_drop, k_ret, k_retN, k_retO, k_if, k_fz, fz_z, fz_s, k_gN, k_gsN, k_gsC, k_gT, k_asg, k_for, k_fnil, k_fcons, k_app, oL_z, oL_s, k_par, k_run, k_runN, k_fld, oO_z, k_add, k_addL, k_sub, k_mul, k_div, k_mod, k_pow, k_neg, k_lt, k_le, k_gt, k_ge, k_eqI, k_neI, k_int, k_intB, k_abs, k_lenL, k_lenT, k_lenC, k_tru, k_tupL, k_tupT, k_items_l, k_items_t, k_rng1, k_ixL, k_ixT, k_ixC, k_fldD, ok_nox, ok_ok, ok_bind, List.set_cons_zero, List.set_cons_succ, startS, startN, List.map_cons, List.map_nil, List.cons_append, List.nil_append, List.append_nil, List.length_cons, List.length_nil, List.replicate, Nat.reduceSub, Nat.reduceAdd, Nat.reduceLeDiff, Nat.zero_add, true_and, and_true, false_implies, true_implies, implies_true, forall_const, reduceCtorEq, Bool.not_true, Bool.not_false, Bool.not_eq_true'])
    rw [k_CB]
    (try simp only [↓k_guard, k_no, k_I, k_S, k_B, k_N, k_G, k_Y, k_V, k_W, k_O, g0_z, g0_s, gA_z, gA_s, g1_z, g1_s, k_1, k_2, k_n, k_c, k_T, k_L, k_C, k_f1, k_f2, k_App, k_M, k_P, k_3, k_tB, k_tT, k_toB, k_tNo, k_tA, k_tO, k_tY, k_And, k_Or, k_Not, k_eIf, k_nil, k_seq, k_set, k_own, k_drop, k_ret, k_retN, k_retO, k_if, k_fz, fz_z, fz_s, k_gN, k_gsN, k_gsC, k_gT, k_asg, k_for, k_fnil, k_fcons, k_app, oL_z, oL_s, k_par, k_run, k_runN, k_fld, oO_z, k_add, k_addL, k_sub, k_mul, k_div, k_mod, k_pow, k_neg, k_lt, k_le, k_gt, k_ge, k_eqI, k_neI, k_int, k_intB, k_abs, k_lenL, k_lenT, k_lenC, k_tru, k_tupL, k_tupT, k_items_l, k_items_t, k_rng1, k_ixL, k_ixT, k_ixC, k_fldD, ok_nox, ok_ok, ok_bind, List.set_cons_zero, List.set_cons_succ, startS, startN, List.map_cons, List.map_nil, List.cons_append, List.nil_append, List.append_nil, List.length_cons, List.length_nil, List.replicate, Nat.reduceSub, Nat.reduceAdd, Nat.reduceLeDiff, Nat.zero_add, true_and, and_true, false_implies, true_implies, implies_true, forall_const, reduceCtorEq, Bool.not_true, Bool.not_false, Bool.not_eq_true'])
    refine (p_same _ (cr_w R hR.2)).mono ?_
    rintro _ rfl
    refine ⟨rfl, ?_⟩
    (try simp only [↓k_guard, k_no, k_I, k_S, k_B, k_N, k_G, k_Y, k_V, k_W, k_O, g0_z, g0_s, gA_z, gA_s, g1_z, g1_s, k_1, k_2, k_n, k_c, k_T, k_L, k_C, k_f1, k_f2, k_App, k_M, k_P, k_3, k_tB, k_tT, k_toB, k_tNo, k_tA, k_tO, k_tY, k_And, k_Or, k_Not, k_eIf, k_nil, k_seq, k_set, k_own, k_drop, k_ret, k_retN, k_retO, k_if, k_fz, fz_z, fz_s, k_gN, k_gsN, k_gsC, k_gT, k_asg, k_for, k_fnil, k_fcons, k_app, oL_z, oL_s, k_par, k_run, k_runN, k_fld, oO_z, k_add, k_addL, k_sub, k_mul, k_div, k_mod, k_pow, k_neg, k_lt, k_le, k_gt, k_ge, k_eqI, k_neI, k_int, k_intB, k_abs, k_lenL, k_lenT, k_lenC, k_tru, k_tupL, k_tupT, k_items_l, k_items_t, k_rng1, k_ixL, k_ixT, k_ixC, k_fldD, ok_nox, ok_ok, ok_bind, List.set_cons_zero, List.set_cons_succ, startS, startN, List.map_cons, List.map_nil, List.cons_append, List.nil_append, List.append_nil, List.length_cons, List.length_nil, List.replicate, Nat.reduceSub, Nat.reduceAdd, Nat.reduceLeDiff, Nat.zero_add, true_and, and_true, false_implies, true_implies, implies_true, forall_const, reduceCtorEq, Bool.not_true, Bool.not_false, Bool.not_eq_true', k_neS kR])
  refine seq_cut (fun S => ∃ t, S = [(some (Sl.mk false (.scr ns))), (some (Sl.mk false (d))), (some (Sl.mk false (e))), (some (Sl.mk false (slD' WD))), (some (Sl.mk false (.int c))), k, (some (Sl.mk false (slD' N))), (some (Sl.mk false (.lst (R.map stD)))), (some (Sl.mk false (.lst (R.map stD)))), (some (Sl.mk false (.lst ((CX.cross le kle R).map stD)))), t, none]) ?_ ?_
  · have := cr_l R hR.2
    (try simp only [↓k_guard, k_no, k_I, k_S, k_B, k_N, k_G, k_Y, k_V, k_W, k_O, g0_z, g0_s, gA_z, gA_s, g1_z, g1_s, k_1, k_2, k_n, k_c, k_T, k_L, k_C, k_f1, k_f2, k_App, k_M, k_P, k_3, k_tB, k_tT, k_toB, k_tNo, k_tA, k_tO, k_tY, k_And, k_Or, k_Not, k_eIf, k_nil, k_seq, k_set, k_own, k_drop, k_ret, k_retN, k_retO, k_if, k_fz, fz_z, fz_s, k_gN, k_gsN, k_gsC, k_gT, k_asg, k_for, k_fnil, k_fcons, k_app, oL_z, oL_s, k_par, k_run, k_runN, k_fld, oO_z, k_add, k_addL, k_sub, k_mul, k_div, k_mod, k_pow, k_neg, k_lt, k_le, k_gt, k_ge, k_eqI, k_neI, k_int, k_intB, k_abs, k_lenL, k_lenT, k_lenC, k_tru, k_tupL, k_tupT, k_items_l, k_items_t, k_rng1, k_ixL, k_ixT, k_ixC, k_fldD, ok_nox, ok_ok, ok_bind, List.set_cons_zero, List.set_cons_succ, startS, startN, List.map_cons, List.map_nil, List.cons_append, List.nil_append, List.append_nil, List.length_cons, List.length_nil, List.replicate, Nat.reduceSub, Nat.reduceAdd, Nat.reduceLeDiff, Nat.zero_add, true_and, and_true, false_implies, true_implies, implies_true, forall_const, reduceCtorEq, Bool.not_true, Bool.not_false, Bool.not_eq_true'])
    exact ⟨by omega, by rw [List.length_map]; omega, _, rfl⟩
  rintro S ⟨t, rfl⟩
  refine seq_cut (fun S => ∃ R2 : List (List Str), (R2.length ≤ 7 ∧ ∀ r ∈ R2, r ⊆ N ∧ r.length ≤ 9) ∧ S = [(some (Sl.mk false (.scr ns))), (some (Sl.mk false (d))), (some (Sl.mk false (e))), (some (Sl.mk false (slD' WD))), (some (Sl.mk false (.int c))), k, (some (Sl.mk false (slD' N))), (some (Sl.mk false (.lst (R.map stD)))), (some (Sl.mk false (.lst (R.map stD)))), (some (Sl.mk false (.lst ((CX.cross le kle R).map stD)))), t, (some (Sl.mk false (.lst (R2.map stD))))]) ?_ ?_
  · (try simp only [↓k_guard, k_no, k_I, k_S, k_B, k_N, k_G, k_Y, k_V, k_W, k_O, g0_z, g0_s, gA_z, gA_s, g1_z, g1_s, k_1, k_2, k_n, k_c, k_T, k_L, k_C, k_f1, k_f2, k_App, k_M, k_P, k_3, k_tB, k_tT, k_toB, k_tNo, k_tA, k_tO, k_tY, k_And, k_Or, k_Not, k_eIf, k_nil, k_seq, k_set, k_own, k_drop, k_ret, k_retN, k_retO, k_if, k_fz, fz_z, fz_s, k_gN, k_gsN, k_gsC, k_gT, k_asg, k_for, k_fnil, k_fcons, k_app, oL_z, oL_s, k_par, k_run, k_runN, k_fld, oO_z, k_add, k_addL, k_sub, k_mul, k_div, k_mod, k_pow, k_neg, k_lt, k_le, k_gt, k_ge, k_eqI, k_neI, k_int, k_intB, k_abs, k_lenL, k_lenT, k_lenC, k_tru, k_tupL, k_tupT, k_items_l, k_items_t, k_rng1, k_ixL, k_ixT, k_ixC, k_fldD, ok_nox, ok_ok, ok_bind, List.set_cons_zero, List.set_cons_succ, startS, startN, List.map_cons, List.map_nil, List.cons_append, List.nil_append, List.append_nil, List.length_cons, List.length_nil, List.replicate, Nat.reduceSub, Nat.reduceAdd, Nat.reduceLeDiff, Nat.zero_add, true_and, and_true, false_implies, true_implies, implies_true, forall_const, reduceCtorEq, Bool.not_true, Bool.not_false, Bool.not_eq_true'])
    refine (hd.ix (by omega) (by omega)).mono ?_
    rintro _ ⟨y1, rfl, hy1⟩
    refine (hd.ix (by omega) (by omega)).mono ?_
    rintro _ ⟨y2, rfl, hy2⟩
    refine (p_members N (by omega) (by omega) y1 y2 (by omega) (by omega) (by omega)).mono ?_
    rintro _ ⟨l, rfl, h1, h2⟩
    refine ⟨by omega, ?_⟩
    (try simp only [↓k_guard, k_no, k_I, k_S, k_B, k_N, k_G, k_Y, k_V, k_W, k_O, g0_z, g0_s, gA_z, gA_s, g1_z, g1_s, k_1, k_2, k_n, k_c, k_T, k_L, k_C, k_f1, k_f2, k_App, k_M, k_P, k_3, k_tB, k_tT, k_toB, k_tNo, k_tA, k_tO, k_tY, k_And, k_Or, k_Not, k_eIf, k_nil, k_seq, k_set, k_own, k_drop, k_ret, k_retN, k_retO, k_if, k_fz, fz_z, fz_s, k_gN, k_gsN, k_gsC, k_gT, k_asg, k_for, k_fnil, k_fcons, k_app, oL_z, oL_s, k_par, k_run, k_runN, k_fld, oO_z, k_add, k_addL, k_sub, k_mul, k_div, k_mod, k_pow, k_neg, k_lt, k_le, k_gt, k_ge, k_eqI, k_neI, k_int, k_intB, k_abs, k_lenL, k_lenT, k_lenC, k_tru, k_tupL, k_tupT, k_items_l, k_items_t, k_rng1, k_ixL, k_ixT, k_ixC, k_fldD, ok_nox, ok_ok, ok_bind, List.set_cons_zero, List.set_cons_succ, startS, startN, List.map_cons, List.map_nil, List.cons_append, List.nil_append, List.append_nil, List.length_cons, List.length_nil, List.replicate, Nat.reduceSub, Nat.reduceAdd, Nat.reduceLeDiff, Nat.zero_add, true_and, and_true, false_implies, true_implies, implies_true, forall_const, reduceCtorEq, Bool.not_true, Bool.not_false, Bool.not_eq_true'])
    refine ⟨by rw [List.length_map]; omega, R ++ [l], ⟨by rw [List.length_append, List.length_cons, List.length_nil]; omega, fun r hr => ?_⟩, by rw [List.map_append]; rfl⟩
    rcases List.mem_append.mp hr with q | q
    · exact hR.2 r q
    · rw [List.mem_singleton] at q; subst q; exact ⟨h1, h2⟩
  rintro S ⟨R2, hR2, rfl⟩
  refine pass_if ?_ ?_
  · (try simp only [↓k_guard, k_no, k_I, k_S, k_B, k_N, k_G, k_Y, k_V, k_W, k_O, g0_z, g0_s, gA_z, gA_s, g1_z, g1_s, k_1, k_2, k_n, k_c, k_T, k_L, k_C, k_f1, k_f2, k_App, k_M, k_P, k_3, k_tB, k_tT, k_toB, k_tNo, k_tA, k_tO, k_tY, k_And, k_Or, k_Not, k_eIf, k_nil, k_seq, k_set, k_own, k_drop, k_ret, k_retN, k_retO, k_if, k_fz, fz_z, fz_s, k_gN, k_gsN, k_gsC, k_gT, k_asg, k_for, k_fnil, k_fcons, k_app, oL_z, oL_s, k_par, k_run, k_runN, k_fld, oO_z, k_add, k_addL, k_sub, k_mul, k_div, k_mod, k_pow, k_neg, k_lt, k_le, k_gt, k_ge, k_eqI, k_neI, k_int, k_intB, k_abs, k_lenL, k_lenT, k_lenC, k_tru, k_tupL, k_tupT, k_items_l, k_items_t, k_rng1, k_ixL, k_ixT, k_ixC, k_fldD, ok_nox, ok_ok, ok_bind, List.set_cons_zero, List.set_cons_succ, startS, startN, List.map_cons, List.map_nil, List.cons_append, List.nil_append, List.append_nil, List.length_cons, List.length_nil, List.replicate, Nat.reduceSub, Nat.reduceAdd, Nat.reduceLeDiff, Nat.zero_add, true_and, and_true, false_implies, true_implies, implies_true, forall_const, reduceCtorEq, Bool.not_true, Bool.not_false, Bool.not_eq_true'])
    rw [k_CB]
    (try simp only [↓k_guard, k_no, k_I, k_S, k_B, k_N, k_G, k_Y, k_V, k_W, k_O, g0_z, g0_s, gA_z, gA_s, g1_z, g1_s, k_1, k_2, k_n, k_c, k_T, k_L, k_C, k_f1, k_f2, k_App, k_M, k_P, k_3, k_tB, k_tT, k_toB, k_tNo, k_tA, k_tO, k_tY, k_And, k_Or, k_Not, k_eIf, k_nil, k_seq, k_set, k_own, k_drop, k_ret, k_retN, k_retO, k_if, k_fz, fz_z, fz_s, k_gN, k_gsN, k_gsC, k_gT, k_asg, k_for, k_fnil, k_fcons, k_app, oL_z, oL_s, k_par, k_run, k_runN, k_fld, oO_z, k_add, k_addL, k_sub, k_mul, k_div, k_mod, k_pow, k_neg, k_lt, k_le, k_gt, k_ge, k_eqI, k_neI, k_int, k_intB, k_abs, k_lenL, k_lenT, k_lenC, k_tru, k_tupL, k_tupT, k_items_l, k_items_t, k_rng1, k_ixL, k_ixT, k_ixC, k_fldD, ok_nox, ok_ok, ok_bind, List.set_cons_zero, List.set_cons_succ, startS, startN, List.map_cons, List.map_nil, List.cons_append, List.nil_append, List.append_nil, List.length_cons, List.length_nil, List.replicate, Nat.reduceSub, Nat.reduceAdd, Nat.reduceLeDiff, Nat.zero_add, true_and, and_true, false_implies, true_implies, implies_true, forall_const, reduceCtorEq, Bool.not_true, Bool.not_false, Bool.not_eq_true', k_rev])
    rw [← List.map_reverse]
    refine (p_crossing N nN (by omega) nW R.reverse fun r hr => hR.2 r (List.mem_reverse.mp hr)).mono ?_
    rintro _ rfl
    rw [cr_rev]
    refine (p_same _ (cr_w R hR.2)).mono ?_
    rintro _ rfl
    refine ⟨rfl, ?_⟩
    (try simp only [↓k_guard, k_no, k_I, k_S, k_B, k_N, k_G, k_Y, k_V, k_W, k_O, g0_z, g0_s, gA_z, gA_s, g1_z, g1_s, k_1, k_2, k_n, k_c, k_T, k_L, k_C, k_f1, k_f2, k_App, k_M, k_P, k_3, k_tB, k_tT, k_toB, k_tNo, k_tA, k_tO, k_tY, k_And, k_Or, k_Not, k_eIf, k_nil, k_seq, k_set, k_own, k_drop, k_ret, k_retN, k_retO, k_if, k_fz, fz_z, fz_s, k_gN, k_gsN, k_gsC, k_gT, k_asg, k_for, k_fnil, k_fcons, k_app, oL_z, oL_s, k_par, k_run, k_runN, k_fld, oO_z, k_add, k_addL, k_sub, k_mul, k_div, k_mod, k_pow, k_neg, k_lt, k_le, k_gt, k_ge, k_eqI, k_neI, k_int, k_intB, k_abs, k_lenL, k_lenT, k_lenC, k_tru, k_tupL, k_tupT, k_items_l, k_items_t, k_rng1, k_ixL, k_ixT, k_ixC, k_fldD, ok_nox, ok_ok, ok_bind, List.set_cons_zero, List.set_cons_succ, startS, startN, List.map_cons, List.map_nil, List.cons_append, List.nil_append, List.append_nil, List.length_cons, List.length_nil, List.replicate, Nat.reduceSub, Nat.reduceAdd, Nat.reduceLeDiff, Nat.zero_add, true_and, and_true, false_implies, true_implies, implies_true, forall_const, reduceCtorEq, Bool.not_true, Bool.not_false, Bool.not_eq_true'])
  · (try simp only [↓k_guard, k_no, k_I, k_S, k_B, k_N, k_G, k_Y, k_V, k_W, k_O, g0_z, g0_s, gA_z, gA_s, g1_z, g1_s, k_1, k_2, k_n, k_c, k_T, k_L, k_C, k_f1, k_f2, k_App, k_M, k_P, k_3, k_tB, k_tT, k_toB, k_tNo, k_tA, k_tO, k_tY, k_And, k_Or, k_Not, k_eIf, k_nil, k_seq, k_set, k_own, k_drop, k_ret, k_retN, k_retO, k_if, k_fz, fz_z, fz_s, k_gN, k_gsN, k_gsC, k_gT, k_asg, k_for, k_fnil, k_fcons, k_app, oL_z, oL_s, k_par, k_run, k_runN, k_fld, oO_z, k_add, k_addL, k_sub, k_mul, k_div, k_mod, k_pow, k_neg, k_lt, k_le, k_gt, k_ge, k_eqI, k_neI, k_int, k_intB, k_abs, k_lenL, k_lenT, k_lenC, k_tru, k_tupL, k_tupT, k_items_l, k_items_t, k_rng1, k_ixL, k_ixT, k_ixC, k_fldD, ok_nox, ok_ok, ok_bind, List.set_cons_zero, List.set_cons_succ, startS, startN, List.map_cons, List.map_nil, List.cons_append, List.nil_append, List.append_nil, List.length_cons, List.length_nil, List.replicate, Nat.reduceSub, Nat.reduceAdd, Nat.reduceLeDiff, Nat.zero_add, true_and, and_true, false_implies, true_implies, implies_true, forall_const, reduceCtorEq, Bool.not_true, Bool.not_false, Bool.not_eq_true'])
    rw [k_CB]
    (try simp only [↓k_guard, k_no, k_I, k_S, k_B, k_N, k_G, k_Y, k_V, k_W, k_O, g0_z, g0_s, gA_z, gA_s, g1_z, g1_s, k_1, k_2, k_n, k_c, k_T, k_L, k_C, k_f1, k_f2, k_App, k_M, k_P, k_3, k_tB, k_tT, k_toB, k_tNo, k_tA, k_tO, k_tY, k_And, k_Or, k_Not, k_eIf, k_nil, k_seq, k_set, k_own, k_drop, k_ret, k_retN, k_retO, k_if, k_fz, fz_z, fz_s, k_gN, k_gsN, k_gsC, k_gT, k_asg, k_for, k_fnil, k_fcons, k_app, oL_z, oL_s, k_par, k_run, k_runN, k_fld, oO_z, k_add, k_addL, k_sub, k_mul, k_div, k_mod, k_pow, k_neg, k_lt, k_le, k_gt, k_ge, k_eqI, k_neI, k_int, k_intB, k_abs, k_lenL, k_lenT, k_lenC, k_tru, k_tupL, k_tupT, k_items_l, k_items_t, k_rng1, k_ixL, k_ixT, k_ixC, k_fldD, ok_nox, ok_ok, ok_bind, List.set_cons_zero, List.set_cons_succ, startS, startN, List.map_cons, List.map_nil, List.cons_append, List.nil_append, List.append_nil, List.length_cons, List.length_nil, List.replicate, Nat.reduceSub, Nat.reduceAdd, Nat.reduceLeDiff, Nat.zero_add, true_and, and_true, false_implies, true_implies, implies_true, forall_const, reduceCtorEq, Bool.not_true, Bool.not_false, Bool.not_eq_true'])
    refine (p_crossing N nN (by omega) nW R2 hR2.2).mono ?_
    rintro _ rfl
    refine (law_ok R2 hR2.1 hR2.2).mono ?_
    rintro _ rfl
    refine (p_same _ (cr_w R2 hR2.2)).mono ?_
    rintro _ rfl
    exact ⟨rfl, _, rfl, rfl⟩
end Pf
set_option Elab.async false
set_option linter.all false
set_option maxRecDepth 100000
set_option maxHeartbeats 0
namespace Pf
open PySem L2 M
def dd_by_size : Dx := ⟨.glo "by_size", ⟨("", none), "by_size", "by_size", defArgs st_by_size, defBody st_by_size, defScope st_by_size, [], []⟩⟩
def dd_includes : Dx := ⟨.glo "includes", ⟨("", none), "includes", "includes", defArgs st_includes, defBody st_includes, defScope st_includes, [], []⟩⟩
def dd_least_of : Dx := ⟨.glo "least_of", ⟨("", none), "least_of", "least_of", defArgs st_least_of, defBody st_least_of, defScope st_least_of, [], []⟩⟩
def dd_crossing : Dx := ⟨.glo "crossing", ⟨("", none), "crossing", "crossing", defArgs st_crossing, defBody st_crossing, defScope st_crossing, [], []⟩⟩
def dd__law_cell : Dx := ⟨.glo "_law_cell", ⟨("", none), "_law_cell", "_law_cell", defArgs st__law_cell, defBody st__law_cell, defScope st__law_cell, [], []⟩⟩
def dd__law_draws : Dx := ⟨.glo "_law_draws", ⟨("", none), "_law_draws", "_law_draws", defArgs st__law_draws, defBody st__law_draws, defScope st__law_draws, [], []⟩⟩
def dd__law_hits : Dx := ⟨.glo "_law_hits", ⟨("", none), "_law_hits", "_law_hits", defArgs st__law_hits, defBody st__law_hits, defScope st__law_hits, [], []⟩⟩
def dd__law_crossing : Dx := ⟨.glo "_law_crossing", ⟨("", none), "_law_crossing", "_law_crossing", defArgs st__law_crossing, defBody st__law_crossing, defScope st__law_crossing, [], []⟩⟩
def dd__law_members : Dx := ⟨.glo "_law_members", ⟨("", none), "_law_members", "_law_members", defArgs st__law_members, defBody st__law_members, defScope st__law_members, [], []⟩⟩
def dd__law_same : Dx := ⟨.glo "_law_same", ⟨("", none), "_law_same", "_law_same", defArgs st__law_same, defBody st__law_same, defScope st__law_same, [], []⟩⟩
def dd_law : Dx := ⟨.glo "law", ⟨("", none), "law", "law", defArgs st_law, defBody st_law, defScope st_law, [], []⟩⟩
def fn : List Dx := [dd_by_size, dd_includes, dd_least_of, dd_crossing, dd__law_cell, dd__law_draws, dd__law_hits, dd__law_crossing, dd__law_members, dd__law_same, dd_law]
def ftab : List TabI := []
def fx : Fy := ⟨[.glo "by_size", .glo "includes", .glo "least_of", .glo "crossing", .glo "_law_cell", .glo "_law_draws", .glo "_law_hits", .glo "_law_crossing", .glo "_law_members", .glo "_law_same", .glo "law", .free "abs", .free "all", .free "any", .free "int", .free "isinstance", .free "len", .free "list", .free "range", .free "sorted", .free "str", .free "tuple"], [], [], []⟩
def clK (K : PySem.W.Frag) : Nat → Option (Addr × List Str) := fun i => none
def looseN : List Str := (["by_size", "includes", "least_of", "crossing", "_law_cell", "_law_draws", "_law_hits", "_law_crossing", "_law_members", "_law_same"] : List Str)
abbrev Rw : PySem.W.OpenRow := PySem.W.OpenLaw.row PySem.Challenge.rw_firstbreach_k41_crossing
abbrev hk : PySem.W.Hook := hookZ 5 fx ftab fn
def ob (s : PySem.W.SharedT) : AlZ := obsZG 5 fx ftab fn (HandSHeadRun.getT s)
theorem ob_eq (s : PySem.W.SharedT) : ob s = hk.obs s.abs := obsZG_eq (HandSHeadRun.getT_eq s)
theorem run (w : World) : HandSHeadRun.RunEq Rw (PySem.W.view Rw.prog [13]) hk ob 4000 looseN w := by
  intro os
  kernel_rfl
theorem facts {P : Program} {w : World} {K : PySem.W.Frag} {h : Heap} {mg : Str → Option Value} {f : Addr} (X : K.In h) (Gn : h.Ns mainGlobals mg) (hfa : mg ("law" : Str) = some (.ref f)) (cz : SaysZ fx ftab fn w K) :
    ∃ fd : FuncData, (∀ (s : Shared) (v : Value), BindsTo s fd ⟨[v], []⟩ [("_law_script", v)]) ∧ ∀ base : Heap, K.In base → base.Ns mainGlobals mg → FnOk P w K mg base CX0 5 f fd ["_law_script"] (SpF ⟨K, clK K⟩ false 1 d_law) := by
  have c := cz.y
  have B : Bt mg := ⟨He.free_ok X Gn (c.fact 11 (f := .free "abs") rfl), He.free_ok X Gn (c.fact 12 (f := .free "all") rfl), He.free_ok X Gn (c.fact 13 (f := .free "any") rfl), He.free_ok X Gn (c.fact 14 (f := .free "int") rfl), He.free_ok X Gn (c.fact 15 (f := .free "isinstance") rfl), He.free_ok X Gn (c.fact 16 (f := .free "len") rfl), He.free_ok X Gn (c.fact 17 (f := .free "list") rfl), He.free_ok X Gn (c.fact 18 (f := .free "range") rfl), He.free_ok X Gn (c.fact 19 (f := .free "sorted") rfl), He.free_ok X Gn (c.fact 20 (f := .free "str") rfl), He.free_ok X Gn (c.fact 21 (f := .free "tuple") rfl)⟩
  obtain ⟨fd_by_size, F_by_size⟩ := c.def_ 0 (d := dd_by_size) rfl
  obtain ⟨fd_includes, F_includes⟩ := c.def_ 1 (d := dd_includes) rfl
  obtain ⟨fd_least_of, F_least_of⟩ := c.def_ 2 (d := dd_least_of) rfl
  obtain ⟨fd_crossing, F_crossing⟩ := c.def_ 3 (d := dd_crossing) rfl
  obtain ⟨fd__law_cell, F__law_cell⟩ := c.def_ 4 (d := dd__law_cell) rfl
  obtain ⟨fd__law_draws, F__law_draws⟩ := c.def_ 5 (d := dd__law_draws) rfl
  obtain ⟨fd__law_hits, F__law_hits⟩ := c.def_ 6 (d := dd__law_hits) rfl
  obtain ⟨fd__law_crossing, F__law_crossing⟩ := c.def_ 7 (d := dd__law_crossing) rfl
  obtain ⟨fd__law_members, F__law_members⟩ := c.def_ 8 (d := dd__law_members) rfl
  obtain ⟨fd__law_same, F__law_same⟩ := c.def_ 9 (d := dd__law_same) rfl
  obtain ⟨fd_law, F_law⟩ := c.def_ 10 (d := dd_law) rfl
  have e := hfa.symm.trans (He.glo_ok X Gn (c.fact 10 (f := .glo "law") rfl))
  cases e
  have b := FunD.bindsA (ps := ["_law_script"]) F_law fun _ _ _ _ _ _ us hl => match us, hl with | [_], _ => rfl
  refine ⟨fd_law, fun s v => b s [v] rfl, fun base _ _ => ?_⟩
  have h_by_size : Callee P w K mg base ⟨K, clK K⟩ 1 "by_size" 1 false d_by_size := ok_by_size F_by_size (He.glo_ok X Gn (c.fact 0 (f := .glo "by_size") rfl)) B 
  have h_includes : Callee P w K mg base ⟨K, clK K⟩ 1 "includes" 2 false d_includes := ok_includes F_includes (He.glo_ok X Gn (c.fact 1 (f := .glo "includes") rfl)) B 
  have h_least_of : Callee P w K mg base ⟨K, clK K⟩ 3 "least_of" 1 true d_least_of := ok_least_of F_least_of (He.glo_ok X Gn (c.fact 2 (f := .glo "least_of") rfl)) B h_by_size h_includes
  have h_crossing : Callee P w K mg base ⟨K, clK K⟩ 4 "crossing" 1 true d_crossing := ok_crossing F_crossing (He.glo_ok X Gn (c.fact 3 (f := .glo "crossing") rfl)) B h_least_of
  have h__law_cell : Callee P w K mg base ⟨K, clK K⟩ 1 "_law_cell" 2 false d__law_cell := ok__law_cell F__law_cell (He.glo_ok X Gn (c.fact 4 (f := .glo "_law_cell") rfl)) B 
  have h__law_draws : Callee P w K mg base ⟨K, clK K⟩ 2 "_law_draws" 3 false d__law_draws := ok__law_draws F__law_draws (He.glo_ok X Gn (c.fact 5 (f := .glo "_law_draws") rfl)) B h__law_cell
  have h__law_hits : Callee P w K mg base ⟨K, clK K⟩ 1 "_law_hits" 2 false d__law_hits := ok__law_hits F__law_hits (He.glo_ok X Gn (c.fact 6 (f := .glo "_law_hits") rfl)) B 
  have h__law_crossing : Callee P w K mg base ⟨K, clK K⟩ 2 "_law_crossing" 2 false d__law_crossing := ok__law_crossing F__law_crossing (He.glo_ok X Gn (c.fact 7 (f := .glo "_law_crossing") rfl)) B h__law_hits
  have h__law_members : Callee P w K mg base ⟨K, clK K⟩ 1 "_law_members" 3 false d__law_members := ok__law_members F__law_members (He.glo_ok X Gn (c.fact 8 (f := .glo "_law_members") rfl)) B 
  have h__law_same : Callee P w K mg base ⟨K, clK K⟩ 1 "_law_same" 2 false d__law_same := ok__law_same F__law_same (He.glo_ok X Gn (c.fact 9 (f := .glo "_law_same") rfl)) B 
  exact ok_law F_law (He.glo_ok X Gn (c.fact 10 (f := .glo "law") rfl)) B h__law_draws h__law_members h__law_crossing h_crossing h__law_same
end Pf
set_option Elab.async false
set_option linter.all false
set_option maxRecDepth 100000
set_option maxHeartbeats 0
open PySem PySem.W PySem.Calls PyProof.Rows
theorem PySem.Challenge.cw_firstbreach_k41_crossing_holds : PySem.Challenge.rw_firstbreach_k41_crossing.Holds := by
  w_on; o_law
  refine HandSHeadRun.head_any (r := OpenLaw.row PySem.Challenge.rw_firstbreach_k41_crossing) (q := view (OpenLaw.row PySem.Challenge.rw_firstbreach_k41_crossing).prog [13]) (H := Pf.hk) (ob := Pf.ob) (M := 4000) (loose := Pf.looseN) (d := HandSHeadRun.topDef (OpenLaw.row PySem.Challenge.rw_firstbreach_k41_crossing).prog 13) (kwd := []) Pf.ob_eq
    (by kernel_rfl) (fun s => by kernel_rfl) Pf.run (by kernel_rfl) (by kernel_rfl) (by kernel_rfl) (by rfl) (by first | assumption | decide +kernel) (by decide +kernel) ⟨rfl, rfl, rfl, rfl, rfl, by decide +kernel⟩ ?hw ?hc
  case hw => w_witness2
  case hc =>
    refine M.walk_ofX (l := PySem.Challenge.rw_firstbreach_k41_crossing) (n := 63) (k := 5) (x := "_law_script") (den := Pf.d_law) rfl (by decide) (by kernel_rfl) ⟨rfl, by decide, by decide⟩ ?F Pf.pure_law
    intro w mg fa h Y G hmg0
    obtain ⟨K, KX, c⟩ := Y
    have hmg : mg ("law" : PySem.Str) = some (.ref fa) := by
      have e : (HandSHeadRun.topDef (OpenLaw.row PySem.Challenge.rw_firstbreach_k41_crossing).prog 13).name = ("law" : PySem.Str) := by kernel_rfl
      rw [← e]
      exact hmg0
    obtain ⟨fd, hb, hF⟩ := Pf.facts (P := (PySem.Challenge.rw_firstbreach_k41_crossing).prog) (w := w) KX G hmg c
    exact ⟨K, fd, Pf.clK K, KX, hb, hF⟩
