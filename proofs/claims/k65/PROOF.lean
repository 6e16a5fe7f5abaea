import PyProof.Rows.All
import HandS.ForMost
import HandS.Flow
import HandS.Deep
import HandS.Evl
import HandS.WordsExc
import HandS.Exc
import HandS.TupAny
import HandS.TupMul
import HandS.TupLe
import HandS.WideBits
import HandS.Zip
import HandS.Defaults
import HandS.IsInst
import HandS.Strs
import KE.SortData
import HandS.Text
import HandS.Style
import HandS.MakeKwOnly
import HandS.MakeKw
import HandS.SetBool
import HandS.TupSets
import KE.GoesEnum
import KE.GoesMore
import HandS.Property
import HandS.Head0
import HandS.Head1
import HandS.Head2
import HandS.HeadEnd
import HandS.HeadHook1
import HandS.HeadHook2
import HandS.EndBits
import KE.DataAny
import HandS.Conv
import HandS.More
import HandS.HeadHook3
import PyProof.RulesMatch
import PySem.Challenge.RW_firstbreach_k65_row_texts_read_back
set_option Elab.async false
set_option linter.all false
set_option maxRecDepth 100000
set_option maxHeartbeats 4000000
/-! A plain by-value semantics over the hand layer: values D, results R, slots with an owner's flag. -/
namespace M
open PySem L2
/-! ### values, results -/
inductive D where
  | non | bl (b : Bool) | int (i : Int) | str (x : Str) | ty (n : String)
  | tup (xs : List D) | lst (xs : List D) | dic (ks : List Key) (vs : List D) | dit (ks : List (List Key)) (vs : List D)
  | obj (c : Nat) (fs : List D) | scr (ns : List Int) | cls (c : Nat)
  deriving Inhabited
structure Exc where
  c : Nat
  fs : List D
inductive R (α : Type) where
  | ok (a : α) | exc (x : Exc) | fail
def R.bind {α β : Type} (r : R α) (f : α → R β) : R β := match r with
  | .ok a => f a
  | .exc x => .exc x
  | .fail => .fail
instance : Monad R where
  pure := .ok
  bind := R.bind
@[simp] theorem R.pure_eq {α : Type} (a : α) : (pure a : R α) = .ok a := rfl
@[simp] theorem R.ok_bind {α β : Type} (a : α) (f : α → R β) : (R.ok a >>= f) = f a := rfl
@[simp] theorem R.exc_bind {α β : Type} (x : Exc) (f : α → R β) : (R.exc x >>= f) = .exc x := rfl
@[simp] theorem R.fail_bind {α β : Type} (f : α → R β) : (R.fail >>= f) = .fail := rfl
/-- an exception may not leave here -/
def R.nox {α : Type} : R α → R α
  | .exc _ => .fail
  | r => r
@[simp] theorem R.nox_ok {α : Type} (a : α) : (R.ok a).nox = .ok a := rfl
@[simp] theorem R.nox_fail {α : Type} : (R.fail : R α).nox = .fail := rfl
/-- a guard -/
def R.need (b : Bool) : R Unit := if b then .ok () else .fail
@[simp] theorem R.need_true : R.need true = .ok () := rfl
structure Sl where
  own : Bool
  d : D
abbrev Env := List (Option Sl)
abbrev FE := Env → R D
abbrev FT := Env → R Bool
abbrev FA := Env → R (List D)
inductive Fl where
  | nx | bk | ct | rt (d : D)
abbrev FS := Env → R (Fl × Env)
abbrev FG := D → Env → R Env
/-- a value: stable; borrowed from a slot that owns it; new -/
inductive Kd where
  | st | bo | fr
/-! ### heaps -/
def Ex (H H' : Hp) : Prop := ∀ a o, H a = some o → H' a = some o
theorem Ex.refl (H : Hp) : Ex H H := fun _ _ h => h
theorem Ex.trans {H H1 H2 : Hp} (a : Ex H H1) (b : Ex H1 H2) : Ex H H2 := fun x o h => b x o (a x o h)
theorem Ex.new {H : Hp} {p : Addr} {o : HO} (h : H p = none) : Ex H (upd H p o) := fun a u e => by
  rw [upd_ne (ne_of_none e h)]; exact e
theorem Ex.upd {H H' : Hp} {p : Addr} {o : HO} (e : Ex H H') (h : H p = none) : Ex H (upd H' p o) := fun a u q => by
  rw [upd_ne (ne_of_none q h)]; exact e a u q
theorem Ex.upd2 {H H' : Hp} {p : Addr} {o : HO} (e : Ex H H') (h : H' p = some o) : Ex (L2.upd H p o) H' := fun a u q => by
  by_cases ha : a = p
  · subst ha; rw [upd_same] at q; cases q; exact h
  · rw [upd_ne ha] at q; exact e a u q
theorem Ex.free {H H' : Hp} (e : Ex H H') {l : Addr} (h : H' l = none) : H l = none := by
  cases q : H l with
  | none => rfl
  | some o => rw [e l o q] at h; cases h
theorem Ex.sqL {K : PySem.W.Frag} {H H' : Hp} {a : Addr} {xs : List V} (e : Ex H H') (h : SqL K H a xs) : SqL K H' a xs := by
  rcases h with (h | ⟨o, h⟩) | h
  · exact .inl (.inl (e _ _ h))
  · exact .inl (.inr ⟨o, e _ _ h⟩)
  · exact .inr h
theorem Ex.sqT {K : PySem.W.Frag} {H H' : Hp} {a : Addr} {xs : List V} (e : Ex H H') (h : SqT K H a xs) : SqT K H' a xs := by
  rcases h with (h | ⟨o, h⟩) | h
  · exact .inl (.inl (e _ _ h))
  · exact .inl (.inr ⟨o, e _ _ h⟩)
  · exact .inr h
/-- a tuple that is tracked, or a constant of the text -/
def SqU (K : PySem.W.Frag) (H : Hp) (a : Addr) (xs : List V) : Prop := H a = some (.tup xs) ∨ ∃ (o : Obj) (its : Array Value) (n : Nat), K.lookup a = some o ∧ o.cls = .type "tuple" ∧ o.data = .seq its n ∧ its.size ≤ sizeLine ∧ Vals xs its.toList
theorem SqU.t {K : PySem.W.Frag} {H : Hp} {a : Addr} {xs : List V} (h : SqU K H a xs) : SqT K H a xs := by
  rcases h with h | h
  · exact SqT.of h
  · exact .inr h
theorem SqU.of {K : PySem.W.Frag} {H : Hp} {a : Addr} {xs : List V} (h : H a = some (.tup xs)) : SqU K H a xs := .inl h
theorem Ex.sqU {K : PySem.W.Frag} {H H' : Hp} {a : Addr} {xs : List V} (e : Ex H H') (h : SqU K H a xs) : SqU K H' a xs := by
  rcases h with h | h
  · exact .inl (e _ _ h)
  · exact .inr h
/-- the stable part G within H grows by what is new alone -/
structure Step (G H G' H' : Hp) : Prop where
  g : Ex G G'
  h : Ex H H'
  gh : Ex G' H'
  gr : ∀ b o, G' b = some o → G b = some o ∨ H b = none
theorem Step.refl {G H : Hp} (e : Ex G H) : Step G H G H := ⟨Ex.refl _, Ex.refl _, e, fun _ _ h => .inl h⟩
theorem Step.trans {G H G1 H1 G2 H2 : Hp} (a : Step G H G1 H1) (b : Step G1 H1 G2 H2) : Step G H G2 H2 :=
  ⟨a.g.trans b.g, a.h.trans b.h, b.gh, fun x o q => by
    rcases b.gr x o q with q | q
    · exact a.gr x o q
    · exact .inr (a.h.free q)⟩
/-- a new object, stable at once -/
theorem Step.new {G H : Hp} {p : Addr} {o : HO} (e : Ex G H) (h : H p = none) : Step G H (upd G p o) (upd H p o) :=
  ⟨Ex.new (e.free h), Ex.new h, fun a u q => by
    by_cases ha : a = p
    · subst ha; rw [upd_same] at q ⊢; exact q
    · rw [upd_ne ha] at q ⊢; exact e a u q, fun b u q => by
    by_cases hb : b = p
    · subst hb; exact .inr h
    · rw [upd_ne hb] at q; exact .inl q⟩
/-- a new object, not stable -/
theorem Step.new' {G H : Hp} {p : Addr} {o : HO} (e : Ex G H) (h : H p = none) : Step G H G (upd H p o) :=
  ⟨Ex.refl _, Ex.new h, e.upd (e.free h), fun _ _ q => .inl q⟩
/-- what is new becomes stable -/
theorem Step.frz {G0 H0 G H : Hp} {p : Addr} {o : HO} (s : Step G0 H0 G H) (h : H p = some o) (h0 : H0 p = none) (hg : G p = none) : Step G0 H0 (upd G p o) H :=
  ⟨s.g.trans (Ex.new hg), s.h, s.gh.upd2 h, fun b u q => by
    by_cases hb : b = p
    · subst hb; exact .inr h0
    · rw [upd_ne hb] at q; exact s.gr b u q⟩
/-! ### the relation of values -/
/-- what is known of the text: its written part; the classes by number: address, names of the fields -/
structure Kn where
  K : PySem.W.Frag
  cl : Nat → Option (Addr × List Str)
mutual
inductive RD (k : Kn) (G : Hp) : D → V → Prop where
  | non : RD k G .non .non
  | bl (b : Bool) : RD k G (.bl b) (.bl b)
  | int (i : Int) : RD k G (.int i) (.int i)
  | str (x : Str) : RD k G (.str x) (.str x)
  | ty (n : String) : RD k G (.ty n) (.ty n)
  | tup {ds : List D} {a : Addr} {vs : List V} : SqU k.K G a vs → RDs k G ds vs → RD k G (.tup ds) (.ref a)
  | lst {ds : List D} {a : Addr} {vs : List V} : G a = some (.lst vs) → RDs k G ds vs → RD k G (.lst ds) (.ref a)
  | cls {c : Nat} {C : Addr} {nm : List Str} : k.cl c = some (C, nm) → RD k G (.cls c) (.ref C)
  | scr {ns : List Int} {a : Addr} : SqL k.K G a (ns.map V.int) → RD k G (.scr ns) (.ref a)
  | dic {ks : List Key} {ds : List D} {a : Addr} {vs : List V} : G a = some (.dK (ks.zip vs)) → ks.length = ds.length → RDs k G ds vs → RD k G (.dic ks ds) (.ref a)
  | dit {ks : List (List Key)} {ds : List D} {a : Addr} {vs : List V} : G a = some (.dT (ks.zip vs)) → ks.length = ds.length → RDs k G ds vs → RD k G (.dit ks ds) (.ref a)
  | obj {c : Nat} {ds : List D} {a C dx : Addr} {nm : List Str} {vs : List V} : k.cl c = some (C, nm) → G a = some (.ins C dx (nm.zip vs)) → RDs k G ds vs → RD k G (.obj c ds) (.ref a)
inductive RDs (k : Kn) (G : Hp) : List D → List V → Prop where
  | nil : RDs k G [] []
  | cons {d : D} {ds : List D} {v : V} {vs : List V} : RD k G d v → RDs k G ds vs → RDs k G (d :: ds) (v :: vs)
end
mutual
theorem RD.mono {k : Kn} {G G' : Hp} (e : Ex G G') : ∀ {d : D} {v : V}, RD k G d v → RD k G' d v
  | _, _, .non => .non
  | _, _, .bl b => .bl b
  | _, _, .int i => .int i
  | _, _, .str x => .str x
  | _, _, .ty n => .ty n
  | _, _, .tup h r => .tup (e.sqU h) (RDs.mono e r)
  | _, _, .lst h r => .lst (e _ _ h) (RDs.mono e r)
  | _, _, .scr h => .scr (e.sqL h)
  | _, _, .cls h => .cls h
  | _, _, .dic h l r => .dic (e _ _ h) l (RDs.mono e r)
  | _, _, .dit h l r => .dit (e _ _ h) l (RDs.mono e r)
  | _, _, .obj c h r => .obj c (e _ _ h) (RDs.mono e r)
theorem RDs.mono {k : Kn} {G G' : Hp} (e : Ex G G') : ∀ {ds : List D} {vs : List V}, RDs k G ds vs → RDs k G' ds vs
  | _, _, .nil => .nil
  | _, _, .cons a b => .cons (RD.mono e a) (RDs.mono e b)
end
section
variable {k : Kn} {G H : Hp}
theorem RDs.length : ∀ {ds : List D} {vs : List V}, RDs k G ds vs → ds.length = vs.length
  | _, _, .nil => rfl
  | _, _, .cons _ b => by simp [RDs.length b]
theorem RDs.append : ∀ {ds es : List D} {vs us : List V}, RDs k G ds vs → RDs k G es us → RDs k G (ds ++ es) (vs ++ us)
  | _, _, _, _, .nil, s => s
  | _, _, _, _, .cons a b, s => .cons a (RDs.append b s)
theorem RDs.get : ∀ {ds : List D} {vs : List V} {i : Nat} {d : D}, RDs k G ds vs → ds[i]? = some d → ∃ v, vs[i]? = some v ∧ RD k G d v
  | _, _, _, _, .nil, h => by simp at h
  | _, _, 0, _, .cons a _, h => by simp at h; subst h; exact ⟨_, rfl, a⟩
  | _, _, i + 1, d, .cons _ b, h => by
    obtain ⟨v, h1, h2⟩ := RDs.get (i := i) (d := d) b (by simpa using h)
    exact ⟨v, by simpa using h1, h2⟩
theorem RDs.getV {ds : List D} {vs : List V} {i : Nat} {v : V} (r : RDs k G ds vs) (h : vs[i]? = some v) : ∃ d, ds[i]? = some d ∧ RD k G d v := by
  have hl := r.length
  have hi : i < ds.length := by rw [hl]; exact (List.getElem?_eq_some_iff.mp h).1
  obtain ⟨v', h1, h2⟩ := r.get (List.getElem?_eq_getElem hi)
  rw [h] at h1; cases h1
  exact ⟨_, List.getElem?_eq_getElem hi, h2⟩
theorem RDs.take : ∀ {ds : List D} {vs : List V} (n : Nat), RDs k G ds vs → RDs k G (ds.take n) (vs.take n)
  | _, _, 0, _ => by simpa using .nil
  | _, _, _ + 1, .nil => .nil
  | _, _, n + 1, .cons r t => .cons r (RDs.take n t)
theorem RDs.drop : ∀ {ds : List D} {vs : List V} (n : Nat), RDs k G ds vs → RDs k G (ds.drop n) (vs.drop n)
  | _, _, 0, r => r
  | _, _, _ + 1, .nil => .nil
  | _, _, n + 1, .cons _ t => RDs.drop n t
theorem RDs.reverse : ∀ {ds : List D} {vs : List V}, RDs k G ds vs → RDs k G ds.reverse vs.reverse
  | _, _, .nil => .nil
  | _, _, .cons a b => by rw [List.reverse_cons, List.reverse_cons]; exact RDs.append (RDs.reverse b) (.cons a .nil)
theorem RDs.set : ∀ {ds : List D} {vs : List V} (i : Nat) {d : D} {v : V}, RDs k G ds vs → RD k G d v → RDs k G (ds.set i d) (vs.set i v)
  | _, _, _, _, _, .nil, _ => .nil
  | _, _, 0, _, _, .cons _ t, r => .cons r t
  | _, _, i + 1, _, _, .cons q t, r => .cons q (RDs.set i t r)
theorem RDs.ints : ∀ (ns : List Int), RDs k G (ns.map D.int) (ns.map V.int)
  | [] => .nil
  | n :: ns => .cons (.int n) (RDs.ints ns)
end
/-- an object and what it holds, one level: what may be owned -/
inductive Cont (k : Kn) (G : Hp) : D → HO → Prop where
  | lst {ds : List D} {vs : List V} : RDs k G ds vs → Cont k G (.lst ds) (.lst vs)
  | dic {ks : List Key} {ds : List D} {vs : List V} : ks.length = ds.length → RDs k G ds vs → Cont k G (.dic ks ds) (.dK (ks.zip vs))
  | dit {ks : List (List Key)} {ds : List D} {vs : List V} : ks.length = ds.length → RDs k G ds vs → Cont k G (.dit ks ds) (.dT (ks.zip vs))
  | obj {c : Nat} {ds : List D} {C dx : Addr} {nm : List Str} {vs : List V} : k.cl c = some (C, nm) → RDs k G ds vs → Cont k G (.obj c ds) (.ins C dx (nm.zip vs))
theorem Cont.mono {k : Kn} {G G' : Hp} (e : Ex G G') {d : D} {o : HO} (c : Cont k G d o) : Cont k G' d o := by
  cases c with
  | lst r => exact .lst (r.mono e)
  | dic l r => exact .dic l (r.mono e)
  | dit l r => exact .dit l (r.mono e)
  | obj h r => exact .obj h (r.mono e)
theorem Cont.rd {k : Kn} {G : Hp} {d : D} {o : HO} {a : Addr} (c : Cont k G d o) (h : G a = some o) : RD k G d (.ref a) := by
  cases c with
  | lst r => exact .lst h r
  | dic l r => exact .dic h l r
  | dit l r => exact .dit h l r
  | obj q r => exact .obj q h r
/-! ### the state of a frame -/
/-- the frame: the text, the heap at the entry, its stable part, what is wanted of an exception -/
structure Cf where
  k : Kn
  H0 : Hp
  G0 : Hp
  W : XK
def OwnAt (S : Env) (σ : St) (i : Nat) (a : Addr) : Prop := (∃ d, S[i]? = some (some ⟨true, d⟩)) ∧ σ[i]? = some (some (.ref a))
structure Rel (c : Cf) (G : Hp) (S : Env) (σ : St) (H : Hp) : Prop where
  st : Step c.G0 c.H0 G H
  len : S.length = σ.length
  fz : ∀ (i : Nat) (d : D), S[i]? = some (some ⟨false, d⟩) → ∃ v, σ[i]? = some (some v) ∧ RD c.k G d v
  ow : ∀ (i : Nat) (d : D), S[i]? = some (some ⟨true, d⟩) → ∃ a o, σ[i]? = some (some (.ref a)) ∧ G a = none ∧ c.H0 a = none ∧ H a = some o ∧ Cont c.k G d o
  nd : ∀ (i j : Nat) (a : Addr), OwnAt S σ i a → OwnAt S σ j a → i = j
section
variable {c : Cf} {G G' H H' : Hp} {S : Env} {σ : St}
theorem Rel.own (r : Rel c G S σ H) {i : Nat} {a : Addr} (h : OwnAt S σ i a) : G a = none ∧ c.H0 a = none ∧ ∃ o d, H a = some o ∧ S[i]? = some (some ⟨true, d⟩) ∧ Cont c.k G d o := by
  obtain ⟨⟨d, hd⟩, hs⟩ := h
  obtain ⟨a', o, e, g, h0, ho, ct⟩ := r.ow i d hd
  rw [hs] at e; cases e
  exact ⟨g, h0, o, d, ho, hd, ct⟩
theorem Rel.grow (r : Rel c G S σ H) (s : Step G H G' H') : Rel c G' S σ H' where
  st := r.st.trans s
  len := r.len
  fz := fun i d h => let ⟨v, e, q⟩ := r.fz i d h; ⟨v, e, q.mono s.g⟩
  ow := fun i d h => by
    obtain ⟨a, o, e, g, h0, ho, ct⟩ := r.ow i d h
    refine ⟨a, o, e, ?_, h0, s.h _ _ ho, ct.mono s.g⟩
    cases q : G' a with
    | none => rfl
    | some u =>
      rcases s.gr a u q with z | z
      · rw [g] at z; cases z
      · rw [ho] at z; cases z
  nd := r.nd
/-- an owned object is frozen -/
theorem Rel.frz (r : Rel c G S σ H) {i : Nat} {d : D} (h : S[i]? = some (some ⟨true, d⟩)) : ∃ G', Ex G G' ∧ Rel c G' (S.set i (some ⟨false, d⟩)) σ H := by
  obtain ⟨a, o, e, g, h0, ho, ct⟩ := r.ow i d h
  have ow : OwnAt S σ i a := ⟨⟨d, h⟩, e⟩
  have ex : Ex G (upd G a o) := Ex.new g
  have hi : i < S.length := (List.getElem?_eq_some_iff.mp h).1
  refine ⟨upd G a o, ex, ⟨r.st.frz ho h0 g, by rw [List.length_set]; exact r.len, fun j d' q => ?_, fun j d' q => ?_, fun j l b q1 q2 => ?_⟩⟩
  · by_cases hj : i = j
    · subst hj
      rw [List.getElem?_set_self hi] at q; cases q
      exact ⟨_, e, (ct.mono ex).rd upd_same⟩
    · rw [List.getElem?_set_ne hj] at q
      obtain ⟨v, e', q'⟩ := r.fz j d' q
      exact ⟨v, e', q'.mono ex⟩
  · by_cases hj : i = j
    · subst hj
      rw [List.getElem?_set_self hi] at q; cases q
    · rw [List.getElem?_set_ne hj] at q
      obtain ⟨b, u, e', g', h0', ho', ct'⟩ := r.ow j d' q
      have hb : b ≠ a := fun z => hj (r.nd i j a ow ⟨⟨d', q⟩, by rw [← z]; exact e'⟩)
      exact ⟨b, u, e', by rw [upd_ne hb]; exact g', h0', ho', ct'.mono ex⟩
  · have back : ∀ {m : Nat}, OwnAt (S.set i (some ⟨false, d⟩)) σ m b → OwnAt S σ m b := fun {m} hm => by
      obtain ⟨⟨d', q⟩, z⟩ := hm
      by_cases hj : i = m
      · subst hj; rw [List.getElem?_set_self hi] at q; cases q
      · rw [List.getElem?_set_ne hj] at q; exact ⟨⟨d', q⟩, z⟩
    exact r.nd j l b (back q1) (back q2)
/-- a slot takes a stable value -/
theorem Rel.setS (r : Rel c G S σ H) {d : D} {v : V} (i : Nat) (h : RD c.k G d v) : Rel c G (S.set i (some ⟨false, d⟩)) (σ.set i (some v)) H where
  st := r.st
  len := by rw [List.length_set, List.length_set]; exact r.len
  fz := fun j d' q => by
    by_cases hj : i = j
    · subst hj
      have hi : i < S.length := by have := (List.getElem?_eq_some_iff.mp q).1; rwa [List.length_set] at this
      rw [List.getElem?_set_self hi] at q; cases q
      exact ⟨v, List.getElem?_set_self (by rw [← r.len]; exact hi), h⟩
    · rw [List.getElem?_set_ne hj] at q ⊢; exact r.fz j d' q
  ow := fun j d' q => by
    by_cases hj : i = j
    · subst hj
      have hi : i < S.length := by have := (List.getElem?_eq_some_iff.mp q).1; rwa [List.length_set] at this
      rw [List.getElem?_set_self hi] at q; cases q
    · rw [List.getElem?_set_ne hj] at q ⊢; exact r.ow j d' q
  nd := fun j l b q1 q2 => by
    have back : ∀ {m : Nat}, OwnAt (S.set i (some ⟨false, d⟩)) (σ.set i (some v)) m b → OwnAt S σ m b := fun {m} hm => by
      obtain ⟨⟨d', q⟩, z⟩ := hm
      by_cases hj : i = m
      · subst hj
        have hi : i < S.length := by have := (List.getElem?_eq_some_iff.mp q).1; rwa [List.length_set] at this
        rw [List.getElem?_set_self hi] at q; cases q
      · rw [List.getElem?_set_ne hj] at q z; exact ⟨⟨d', q⟩, z⟩
    exact r.nd j l b (back q1) (back q2)
/-- a slot takes a new object that nobody else has; the heap may have changed at it -/
theorem Rel.setO (r : Rel c G S σ H) {d : D} {a : Addr} {o : HO} (i : Nat) (ha : H' a = some o) (hg : G a = none) (h0 : c.H0 a = none) (ct : Cont c.k G d o) (hn : ∀ j, OwnAt S σ j a → j = i) (hh : ∀ b, b ≠ a → H' b = H b) :
    Rel c G (S.set i (some ⟨true, d⟩)) (σ.set i (some (.ref a))) H' where
  st := ⟨r.st.g, fun b u q => by rw [hh b (ne_of_none q h0)]; exact r.st.h b u q, fun b u q => by rw [hh b (ne_of_none q hg)]; exact r.st.gh b u q, r.st.gr⟩
  len := by rw [List.length_set, List.length_set]; exact r.len
  fz := fun j d' q => by
    by_cases hj : i = j
    · subst hj
      have hi : i < S.length := by have := (List.getElem?_eq_some_iff.mp q).1; rwa [List.length_set] at this
      rw [List.getElem?_set_self hi] at q; cases q
    · rw [List.getElem?_set_ne hj] at q ⊢; exact r.fz j d' q
  ow := fun j d' q => by
    by_cases hj : i = j
    · subst hj
      have hi : i < S.length := by have := (List.getElem?_eq_some_iff.mp q).1; rwa [List.length_set] at this
      rw [List.getElem?_set_self hi] at q; cases q
      exact ⟨a, o, List.getElem?_set_self (by rw [← r.len]; exact hi), hg, h0, ha, ct⟩
    · rw [List.getElem?_set_ne hj] at q ⊢
      obtain ⟨b, u, e', g', h0', ho', ct'⟩ := r.ow j d' q
      have hb : b ≠ a := fun z => hj (hn j ⟨⟨d', q⟩, by rw [← z]; exact e'⟩).symm
      exact ⟨b, u, e', g', h0', by rw [hh b hb]; exact ho', ct'⟩
  nd := fun j l b q1 q2 => by
    have back : ∀ {m : Nat}, OwnAt (S.set i (some ⟨true, d⟩)) (σ.set i (some (.ref a))) m b → (m = i ∧ b = a) ∨ (m ≠ i ∧ OwnAt S σ m b) := fun {m} hm => by
      obtain ⟨⟨d', q⟩, z⟩ := hm
      by_cases hj : i = m
      · subst hj
        have hi : i < S.length := by have := (List.getElem?_eq_some_iff.mp q).1; rwa [List.length_set] at this
        rw [List.getElem?_set_self (by rw [← r.len]; exact hi)] at z; cases z
        exact .inl ⟨rfl, rfl⟩
      · rw [List.getElem?_set_ne hj] at q z; exact .inr ⟨Ne.symm hj, ⟨d', q⟩, z⟩
    rcases back q1 with ⟨h1, e1⟩ | ⟨n1, o1⟩ <;> rcases back q2 with ⟨h2, e2⟩ | ⟨n2, o2⟩
    · rw [h1, h2]
    · exact absurd (hn l (by rw [← e1]; exact o2)) n2
    · exact absurd (hn j (by rw [← e2]; exact o1)) n1
    · exact r.nd j l b o1 o2
/-- a slot is forgotten -/
theorem Rel.unset (r : Rel c G S σ H) (i : Nat) : Rel c G (S.set i none) (σ.set i none) H where
  st := r.st
  len := by rw [List.length_set, List.length_set]; exact r.len
  fz := fun j d' q => by
    by_cases hj : i = j
    · subst hj
      have hi : i < S.length := by have := (List.getElem?_eq_some_iff.mp q).1; rwa [List.length_set] at this
      rw [List.getElem?_set_self hi] at q; cases q
    · rw [List.getElem?_set_ne hj] at q ⊢; exact r.fz j d' q
  ow := fun j d' q => by
    by_cases hj : i = j
    · subst hj
      have hi : i < S.length := by have := (List.getElem?_eq_some_iff.mp q).1; rwa [List.length_set] at this
      rw [List.getElem?_set_self hi] at q; cases q
    · rw [List.getElem?_set_ne hj] at q ⊢; exact r.ow j d' q
  nd := fun j l b q1 q2 => by
    have back : ∀ {m : Nat}, OwnAt (S.set i none) (σ.set i none) m b → OwnAt S σ m b := fun {m} hm => by
      obtain ⟨⟨d', q⟩, z⟩ := hm
      by_cases hj : i = m
      · subst hj
        have hi : i < S.length := by have := (List.getElem?_eq_some_iff.mp q).1; rwa [List.length_set] at this
        rw [List.getElem?_set_self hi] at q; cases q
      · rw [List.getElem?_set_ne hj] at q z; exact ⟨⟨d', q⟩, z⟩
    exact r.nd j l b (back q1) (back q2)
end
def wipeS (S : Env) : List Nat → Env
  | [] => S
  | v :: vs => (wipeS S vs).set v none
theorem Rel.wipe {c : Cf} {G H : Hp} {S : Env} {σ : St} (r : Rel c G S σ H) : ∀ vs : List Nat, Rel c G (wipeS S vs) (L2.wipe σ vs) H
  | [] => r
  | v :: vs => (Rel.wipe r vs).unset v
/-- a slot's own object is changed -/
theorem Rel.mut {c : Cf} {G H : Hp} {S : Env} {σ : St} (r : Rel c G S σ H) {i : Nat} {a : Addr} {d' : D} {o' : HO} (ow : OwnAt S σ i a) (ct : Cont c.k G d' o') : Rel c G (S.set i (some ⟨true, d'⟩)) σ (upd H a o') := by
  obtain ⟨g, h0, _⟩ := r.own ow
  have q := r.setO (H' := upd H a o') i upd_same g h0 ct (fun j oj => r.nd j i a oj ow) (fun b hb => upd_ne hb)
  have e : σ.set i (some (.ref a)) = σ := by
    apply List.ext_getElem?
    intro j
    by_cases hj : i = j
    · subst hj; rw [List.getElem?_set_self (List.getElem?_eq_some_iff.mp ow.2).1, ow.2]
    · rw [List.getElem?_set_ne hj]
  rw [e] at q; exact q
/-! ### readings -/
/-- a value as it stands now: stable, or an object of its own whose parts are stable -/
def Now (k : Kn) (G H : Hp) (d : D) (v : V) : Prop := RD k G d v ∨ ∃ a o, v = .ref a ∧ H a = some o ∧ Cont k G d o
inductive Nows (k : Kn) (G H : Hp) : List D → List V → Prop where
  | nil : Nows k G H [] []
  | cons {d : D} {ds : List D} {v : V} {vs : List V} : Now k G H d v → Nows k G H ds vs → Nows k G H (d :: ds) (v :: vs)
section
variable {k : Kn} {G G' H H' : Hp}
theorem Now.grow {d : D} {v : V} (n : Now k G H d v) (s : Step G H G' H') : Now k G' H' d v := by
  rcases n with n | ⟨a, o, e, h, ct⟩
  · exact .inl (n.mono s.g)
  · exact .inr ⟨a, o, e, s.h _ _ h, ct.mono s.g⟩
theorem Nows.grow (s : Step G H G' H') : ∀ {ds : List D} {vs : List V}, Nows k G H ds vs → Nows k G' H' ds vs
  | _, _, .nil => .nil
  | _, _, .cons a b => .cons (a.grow s) (Nows.grow s b)
theorem Nows.of : ∀ {ds : List D} {vs : List V}, RDs k G ds vs → Nows k G H ds vs
  | _, _, .nil => .nil
  | _, _, .cons a b => .cons (.inl a) (Nows.of b)
theorem Now.rd {d : D} {v : V} (e : Ex G H) (n : Now k G H d v) : RD k H d v := by
  rcases n with n | ⟨a, o, rfl, h, ct⟩
  · exact n.mono e
  · exact (ct.mono e).rd h
theorem Nows.rd (e : Ex G H) : ∀ {ds : List D} {vs : List V}, Nows k G H ds vs → RDs k H ds vs
  | _, _, .nil => .nil
  | _, _, .cons a b => .cons (a.rd e) (Nows.rd e b)
theorem Now.lst {ds : List D} {v : V} (e : Ex G H) (n : Now k G H (.lst ds) v) : ∃ a vs, v = .ref a ∧ H a = some (.lst vs) ∧ RDs k G ds vs := by
  rcases n with n | ⟨a, o, rfl, h, ct⟩
  · cases n with | lst h r => exact ⟨_, _, rfl, e _ _ h, r⟩
  · cases ct with | lst r => exact ⟨_, _, rfl, h, r⟩
theorem Now.tup {ds : List D} {v : V} (n : Now k G H (.tup ds) v) : ∃ a vs, v = .ref a ∧ SqU k.K G a vs ∧ RDs k G ds vs := by
  rcases n with n | ⟨a, o, rfl, h, ct⟩
  · cases n with | tup h r => exact ⟨_, _, rfl, h, r⟩
  · cases ct
theorem Now.scr {ns : List Int} {v : V} (n : Now k G H (.scr ns) v) : ∃ a, v = .ref a ∧ SqL k.K G a (ns.map V.int) := by
  rcases n with n | ⟨a, o, rfl, h, ct⟩
  · cases n with | scr h => exact ⟨_, rfl, h⟩
  · cases ct
theorem Now.dic {ks : List Key} {ds : List D} {v : V} (e : Ex G H) (n : Now k G H (.dic ks ds) v) : ∃ a vs, v = .ref a ∧ H a = some (.dK (ks.zip vs)) ∧ ks.length = ds.length ∧ RDs k G ds vs := by
  rcases n with n | ⟨a, o, rfl, h, ct⟩
  · cases n with | dic h l r => exact ⟨_, _, rfl, e _ _ h, l, r⟩
  · cases ct with | dic l r => exact ⟨_, _, rfl, h, l, r⟩
theorem Now.dit {ks : List (List Key)} {ds : List D} {v : V} (e : Ex G H) (n : Now k G H (.dit ks ds) v) : ∃ a vs, v = .ref a ∧ H a = some (.dT (ks.zip vs)) ∧ ks.length = ds.length ∧ RDs k G ds vs := by
  rcases n with n | ⟨a, o, rfl, h, ct⟩
  · cases n with | dit h l r => exact ⟨_, _, rfl, e _ _ h, l, r⟩
  · cases ct with | dit l r => exact ⟨_, _, rfl, h, l, r⟩
theorem Now.obj {c : Nat} {ds : List D} {v : V} (e : Ex G H) (n : Now k G H (.obj c ds) v) : ∃ a C dx nm vs, v = .ref a ∧ k.cl c = some (C, nm) ∧ H a = some (.ins C dx (nm.zip vs)) ∧ RDs k G ds vs := by
  rcases n with n | ⟨a, o, rfl, h, ct⟩
  · cases n with | obj q h r => exact ⟨_, _, _, _, _, rfl, q, e _ _ h, r⟩
  · cases ct with | obj q r => exact ⟨_, _, _, _, _, rfl, q, h, r⟩
theorem Now.int {i : Int} {v : V} (n : Now k G H (.int i) v) : v = .int i := by
  rcases n with n | ⟨a, o, rfl, h, ct⟩
  · cases n; rfl
  · cases ct
theorem Now.bl {i : Bool} {v : V} (n : Now k G H (.bl i) v) : v = .bl i := by
  rcases n with n | ⟨a, o, rfl, h, ct⟩
  · cases n; rfl
  · cases ct
theorem Now.str {i : Str} {v : V} (n : Now k G H (.str i) v) : v = .str i := by
  rcases n with n | ⟨a, o, rfl, h, ct⟩
  · cases n; rfl
  · cases ct
theorem Now.non {v : V} (n : Now k G H .non v) : v = .non := by
  rcases n with n | ⟨a, o, rfl, h, ct⟩
  · cases n; rfl
  · cases ct
theorem Now.ty {x : String} {v : V} (n : Now k G H (.ty x) v) : v = .ty x := by
  rcases n with n | ⟨a, o, rfl, h, ct⟩
  · cases n; rfl
  · cases ct
end
/-- what an expression gives: stable, as it stands, or new behind the heap H -/
def Res (k : Kn) (H : Hp) (G' H' : Hp) (d : D) (v : V) : Kd → Prop
  | .st => RD k G' d v
  | .bo => Now k G' H' d v
  | .fr => ∃ a o, v = .ref a ∧ G' a = none ∧ H a = none ∧ H' a = some o ∧ Cont k G' d o
section
variable {k : Kn} {H0 H G' H' G2 H2 : Hp} {d : D} {v : V} {kd : Kd}
theorem Res.mono (h : Res k H G' H' d v kd) (e : Ex H0 H) : Res k H0 G' H' d v kd := by
  cases kd with
  | st => exact h
  | bo => exact h
  | fr => obtain ⟨a, o, e', hg, h0, r⟩ := h; exact ⟨a, o, e', hg, e.free h0, r⟩
theorem Res.now (h : Res k H G' H' d v kd) : Now k G' H' d v := by
  cases kd with
  | st => exact .inl h
  | bo => exact h
  | fr => obtain ⟨a, o, e, _, _, h, ct⟩ := h; exact .inr ⟨a, o, e, h, ct⟩
end
def Args (k : Kn) (G H : Hp) (ds : List D) (vs : List V) : Bool → Prop
  | true => Nows k G H ds vs
  | false => RDs k G ds vs
theorem Args.nows {k : Kn} {G H : Hp} {ds : List D} {vs : List V} {b : Bool} (h : Args k G H ds vs b) : Nows k G H ds vs := by
  cases b with
  | true => exact h
  | false => exact Nows.of h
/-- how an exception lies -/
def XR (c : Cf) (G : Hp) (x : Exc) (cls : Value) (da : Option Addr) (H : Hp) : Prop :=
  ∃ C nm, c.k.cl x.c = some (C, nm) ∧ cls = .ref C ∧ ((nm = [] ∧ x.fs = [] ∧ da = none) ∨ ∃ d vs, da = some d ∧ H d = some (.xd (nm.zip vs)) ∧ RDs c.k G x.fs vs ∧ nm.length = vs.length)
def PX (c : Cf) (x : Exc) : Prop := ∀ cls da G' H', Step c.G0 c.H0 G' H' → XR c G' x cls da H' → c.W cls da H'
def PostE (c : Cf) (k : Kd) (G : Hp) (S : Env) (σ : St) (H : Hp) (Q : VK) : R D → Prop
  | .ok d => ∀ v G' H', Step G H G' H' → Res c.k H G' H' d v k → Q v H'
  | .exc x => PX c x
  | .fail => False
def RdE (c : Cf) (k : Kd) (f : FE) : TE := fun σ H Q => ∃ G S, Rel c G S σ H ∧ PostE c k G S σ H Q (f S)
def PostT (c : Cf) (G : Hp) (S : Env) (σ : St) (H : Hp) (Q : Bool → Hp → Prop) : R Bool → Prop
  | .ok b => ∀ G' H', Step G H G' H' → Q b H'
  | .exc x => PX c x
  | .fail => False
def RdT (c : Cf) (f : FT) : TT := fun σ H Q => ∃ G S, Rel c G S σ H ∧ PostT c G S σ H Q (f S)
/-- arguments: stable ones, or such as stand now -/
def PostA (c : Cf) (b : Bool) (G : Hp) (S : Env) (σ : St) (H : Hp) (Q : List V → Hp → Prop) : R (List D) → Prop
  | .ok ds => ∀ vs G' H', Step G H G' H' → Args c.k G' H' ds vs b → Q vs H'
  | .exc x => PX c x
  | .fail => False
def RdA (c : Cf) (b : Bool) (f : FA) : TA := fun σ H Q => ∃ G S, Rel c G S σ H ∧ PostA c b G S σ H Q (f S)
/-- what a statement leaves alone; i: slot i is stored, i + 1000: its own object is changed -/
structure Frm (as : List Nat) (S : Env) (σ : St) (H : Hp) (S' : Env) (σ' : St) (H' : Hp) : Prop where
  len : σ'.length = σ.length
  sg : ∀ (i : Nat), i ∉ as → σ'[i]? = σ[i]?
  sl : ∀ (i : Nat), i ∉ as → i + 1000 ∉ as → S'[i]? = S[i]?
  ow : ∀ (i : Nat) (a : Addr), i ∉ as → i + 1000 ∉ as → OwnAt S σ i a → H' a = H a
theorem Frm.refl (as : List Nat) (S : Env) (σ : St) (H : Hp) : Frm as S σ H S σ H := ⟨rfl, fun _ _ => rfl, fun _ _ _ => rfl, fun _ _ _ _ _ => rfl⟩
theorem Frm.trans {as bs : List Nat} {S S1 S2 : Env} {σ σ1 σ2 : St} {H H1 H2 : Hp} (a : Frm as S σ H S1 σ1 H1) (b : Frm bs S1 σ1 H1 S2 σ2 H2) : Frm (as ++ bs) S σ H S2 σ2 H2 where
  len := b.len.trans a.len
  sg := fun i h => by
    simp only [List.mem_append, not_or] at h
    exact (b.sg i h.2).trans (a.sg i h.1)
  sl := fun i h h' => by
    simp only [List.mem_append, not_or] at h h'
    exact (b.sl i h.2 h'.2).trans (a.sl i h.1 h'.1)
  ow := fun i x h h' o => by
    simp only [List.mem_append, not_or] at h h'
    have o' : OwnAt S1 σ1 i x := ⟨by obtain ⟨d, e⟩ := o.1; exact ⟨d, (a.sl i h.1 h'.1).trans e⟩, (a.sg i h.1).trans o.2⟩
    exact (b.ow i x h.2 h'.2 o').trans (a.ow i x h.1 h'.1 o)
theorem Frm.mono {as bs : List Nat} {S S1 : Env} {σ σ1 : St} {H H1 : Hp} (a : Frm as S σ H S1 σ1 H1) (h : ∀ i, i ∈ as → i ∈ bs) : Frm bs S σ H S1 σ1 H1 :=
  ⟨a.len, fun i q => a.sg i fun z => q (h i z), fun i q q' => a.sl i (fun z => q (h i z)) fun z => q' (h _ z), fun i x q q' => a.ow i x (fun z => q (h i z)) fun z => q' (h _ z)⟩
theorem Frm.step {c : Cf} {as : List Nat} {S : Env} {σ : St} {G H G' H' : Hp} (r : Rel c G S σ H) (s : Step G H G' H') : Frm as S σ H S σ H' :=
  ⟨rfl, fun _ _ => rfl, fun _ _ _ => rfl, fun i a _ _ o => by
    obtain ⟨_, _, u, _, h, _⟩ := r.own o
    rw [h, s.h a u h]⟩
theorem Frm.mut {c : Cf} {G H : Hp} {S : Env} {σ : St} (r : Rel c G S σ H) {i : Nat} {a : Addr} {x : Option Sl} {o' : HO} (ow : OwnAt S σ i a) : Frm [i + 1000] S σ H (S.set i x) σ (upd H a o') :=
  ⟨rfl, fun _ _ => rfl, fun j _ h => List.getElem?_set_ne (fun z => h (by simp [z])), fun j b _ h oj => upd_ne (fun z => h (by
    have : i = j := r.nd i j b (by rw [z]; exact ow) oj
    simp [this]))⟩
def RV (c : Cf) (fr : Bool) (G H : Hp) (d : D) (v : V) : Prop :=
  match fr with
  | true => ∃ a o, v = .ref a ∧ G a = none ∧ c.H0 a = none ∧ H a = some o ∧ Cont c.k G d o
  | false => RD c.k G d v
def PostS (c : Cf) (fr : Bool) (as : List Nat) (G : Hp) (S : Env) (σ : St) (H : Hp) (Dn : Ends) : R (Fl × Env) → Prop
  | .ok (.nx, S') => ∀ G' σ' H', Ex G G' → Rel c G' S' σ' H' → Frm as S σ H S' σ' H' → Dn.nx σ' H'
  | .ok (.bk, S') => ∀ G' σ' H', Ex G G' → Rel c G' S' σ' H' → Frm as S σ H S' σ' H' → Dn.bk σ' H'
  | .ok (.ct, S') => ∀ G' σ' H', Ex G G' → Rel c G' S' σ' H' → Frm as S σ H S' σ' H' → Dn.ct σ' H'
  | .ok (.rt d, _) => ∀ v G' H', Step c.G0 c.H0 G' H' → RV c fr G' H' d v → Dn.rt v H'
  | .exc x => PX c x
  | .fail => False
def RdS (c : Cf) (fr : Bool) (as : List Nat) (f : FS) : TS := fun Dn σ H => ∃ G S, Rel c G S σ H ∧ PostS c fr as G S σ H Dn (f S)
/-- a target -/
def PostG (c : Cf) (as : List Nat) (G : Hp) (S : Env) (σ : St) (H : Hp) (Q : St → Hp → Prop) : R Env → Prop
  | .ok S' => ∀ G' σ' H', Step G H G' H' → Rel c G' S' σ' H' → Frm as S σ H S' σ' H' → Q σ' H'
  | _ => False
def RdG (c : Cf) (as : List Nat) (g : FG) : TG := fun v σ H Q => ∃ G S d, Rel c G S σ H ∧ RD c.k G d v ∧ PostG c as G S σ H Q (g d S)
end M
set_option Elab.async false
set_option linter.all false
set_option maxRecDepth 100000
set_option maxHeartbeats 4000000
namespace M
open PySem L2
/-! ### weakening -/
section
variable {X : Cx}
theorem peI {e : Expr} {t t' : TE} (h : PE X e t) (i : ∀ σ H Q, t' σ H Q → t σ H Q) : PE X e t' := ⟨fun pins s σ H Q I q => h.run pins s σ H Q I (i σ H Q q)⟩
theorem ptI {e : Expr} {t t' : TT} (h : PT X e t) (i : ∀ σ H Q, t' σ H Q → t σ H Q) : PT X e t' := ⟨fun pins s σ H Q I q => h.run pins s σ H Q I (i σ H Q q)⟩
theorem pwI {e : Expr} {t t' : TT} (h : PW X e t) (i : ∀ σ H Q, t' σ H Q → t σ H Q) : PW X e t' := ⟨fun wh pins s σ H Q I q => h.run wh pins s σ H Q I (i σ H Q q)⟩
theorem paI {e : List Expr} {t t' : TA} (h : PA X e t) (i : ∀ σ H Q, t' σ H Q → t σ H Q) : PA X e t' := ⟨fun pos pins s σ H Q I q => h.run pos pins s σ H Q I (i σ H Q q)⟩
theorem psI {e : Stmt} {t t' : TS} (h : PS X e t) (i : ∀ D σ H, t' D σ H → t D σ H) : PS X e t' := ⟨fun pins s σ H D I q => h.run pins s σ H D I (i D σ H q)⟩
theorem pssI {e : List Stmt} {t t' : TS} (h : PSs X e t) (i : ∀ D σ H, t' D σ H → t D σ H) : PSs X e t' := ⟨fun pins s σ H D I q => h.run pins s σ H D I (i D σ H q)⟩
theorem pgI {e : Expr} {t t' : TG} (h : PG X e t) (i : ∀ v σ H Q, t' v σ H Q → t v σ H Q) : PG X e t' := ⟨fun pins s σ H v u Q I r q => h.run pins s σ H v u Q I r (i v σ H Q q)⟩
theorem pgsI {e : List Expr} {t t' : TGs} (h : PGs X e t) (i : ∀ v σ H Q, t' v σ H Q → t v σ H Q) : PGs X e t' := ⟨fun pins s σ H v u Q I r q => h.run pins s σ H v u Q I r (i v σ H Q q)⟩
theorem piI {tg e : Expr} {t t' : TI} (h : PI X tg e t) (i : ∀ σ H Q, t' σ H Q → t σ H Q) : PI X tg e t' := ⟨fun pins s σ H R I q => h.run pins s σ H R I (i σ H R q)⟩
theorem poI {e : Option Expr} {t t' : TO} (h : PO X e t) (i : ∀ σ H Q, t' σ H Q → t σ H Q) : PO X e t' := ⟨fun pins s σ H Q I q => h.run pins s σ H Q I (i σ H Q q)⟩
theorem ptsI {e : List Expr} {t t' : TT} (h : PTs X e t) (i : ∀ σ H Q, t' σ H Q → t σ H Q) : PTs X e t' := ⟨fun pins s σ H Q I q => h.run pins s σ H Q I (i σ H Q q)⟩
end
/-! ### expressions -/
section
variable {X : Cx} {c : Cf}
/-- the first part of an expression -/
theorem rdE_go {kd : Kd} {f : FE} {G H : Hp} {S : Env} {σ : St} {Q : VK} {β : Type} {g : D → R β} {Post : R β → Prop} (r : Rel c G S σ H) (p : Post (f S >>= g))
    (hx : ∀ x, Post (.exc x) → PX c x) (hf : Post .fail → False) (k : ∀ d v G' H', Step G H G' H' → Res c.k H G' H' d v kd → Post (g d) → Q v H') : RdE c kd f σ H Q := by
  refine ⟨G, S, r, ?_⟩
  cases e : f S with
  | ok d => rw [e] at p; exact fun v G' H' s h => k d v G' H' s h p
  | exc x => rw [e] at p; exact hx x p
  | fail => rw [e] at p; exact hf p
theorem rdT_go {f : FT} {G H : Hp} {S : Env} {σ : St} {Q : Bool → Hp → Prop} {β : Type} {g : Bool → R β} {Post : R β → Prop} (r : Rel c G S σ H) (p : Post (f S >>= g))
    (hx : ∀ x, Post (.exc x) → PX c x) (hf : Post .fail → False) (k : ∀ d G' H', Step G H G' H' → Post (g d) → Q d H') : RdT c f σ H Q := by
  refine ⟨G, S, r, ?_⟩
  cases e : f S with
  | ok d => rw [e] at p; exact fun G' H' s => k d G' H' s p
  | exc x => rw [e] at p; exact hx x p
  | fail => rw [e] at p; exact hf p
theorem rdA_go {b : Bool} {f : FA} {G H : Hp} {S : Env} {σ : St} {Q : List V → Hp → Prop} {β : Type} {g : List D → R β} {Post : R β → Prop} (r : Rel c G S σ H) (p : Post (f S >>= g))
    (hx : ∀ x, Post (.exc x) → PX c x) (hf : Post .fail → False) (k : ∀ ds vs G' H', Step G H G' H' → Args c.k G' H' ds vs b → Post (g ds) → Q vs H') : RdA c b f σ H Q := by
  refine ⟨G, S, r, ?_⟩
  cases e : f S with
  | ok d => rw [e] at p; exact fun v G' H' s h => k d v G' H' s h p
  | exc x => rw [e] at p; exact hx x p
  | fail => rw [e] at p; exact hf p
abbrev PE' (X : Cx) (c : Cf) (kd : Kd) (e : Expr) (f : FE) : Prop := PE X e (RdE c kd f)
abbrev PT' (X : Cx) (c : Cf) (e : Expr) (f : FT) : Prop := PT X e (RdT c f)
abbrev PA' (X : Cx) (c : Cf) (b : Bool) (es : List Expr) (f : FA) : Prop := PA X es (RdA c b f)
/-- a constant -/
theorem cst_of {e : Expr} {d : D} {v : V} (h : PE X e (tC v)) (r : ∀ G, RD c.k G d v) : PE' X c .st e (fun _ => .ok d) :=
  peI h fun σ H Q ⟨G, S, rel, p⟩ => p v G H (Step.refl rel.st.gh) (r G)
def eI (i : Int) : FE := fun _ => .ok (.int i)
def eS (x : Str) : FE := fun _ => .ok (.str x)
def eB (b : Bool) : FE := fun _ => .ok (.bl b)
def eN : FE := fun _ => .ok .non
theorem d_int {i j pos} : PE' X c .st (.Constant (.int i) j pos) (eI i) := cst_of pe_int fun _ => .int i
theorem d_str {i j pos} : PE' X c .st (.Constant (.str i) j pos) (eS i) := cst_of pe_str fun _ => .str i
theorem d_bl {i j pos} : PE' X c .st (.Constant (.bool i) j pos) (eB i) := cst_of pe_bl fun _ => .bl i
theorem d_non {j pos} : PE' X c .st (.Constant .none j pos) eN := cst_of pe_non fun _ => .non
/-- a name: its stable value; its value as it stands -/
def eV (i : Nat) : FE := fun S => match S[i]? with
  | some (some ⟨false, d⟩) => .ok d
  | _ => .fail
def eW (i : Nat) : FE := fun S => match S[i]? with
  | some (some ⟨_, d⟩) => .ok d
  | _ => .fail
theorem d_v (i : Nat) {x : Str} {pos : Pos} (hN : X.N[i]? = some x := by rfl) (hv : Vis X.env.scope x := by first | exact Or.inl rfl | exact Or.inr (Or.inl rfl) | exact Or.inr (Or.inr rfl)) (hd : (x == ("__debug__" : Str)) = false := by decide)
    (hcd : (x == ("__classdict__" : Str)) = false := by decide) : PE' X c .st (.Name x pos) (eV i) :=
  peI (pe_var hN hv hd hcd) fun σ H Q ⟨G, S, r, p⟩ => by
    unfold eV at p
    split at p
    · rename_i d e
      obtain ⟨v, e1, q⟩ := r.fz i d e
      exact ⟨v, e1, p v G H (Step.refl r.st.gh) q⟩
    · exact p.elim
theorem d_w (i : Nat) {x : Str} {pos : Pos} (hN : X.N[i]? = some x := by rfl) (hv : Vis X.env.scope x := by first | exact Or.inl rfl | exact Or.inr (Or.inl rfl) | exact Or.inr (Or.inr rfl)) (hd : (x == ("__debug__" : Str)) = false := by decide)
    (hcd : (x == ("__classdict__" : Str)) = false := by decide) : PE' X c .bo (.Name x pos) (eW i) :=
  peI (pe_var hN hv hd hcd) fun σ H Q ⟨G, S, r, p⟩ => by
    unfold eW at p
    split at p
    · rename_i b d e
      cases b with
      | false =>
        obtain ⟨v, e1, q⟩ := r.fz i d e
        exact ⟨v, e1, p v G H (Step.refl r.st.gh) (.inl q)⟩
      | true =>
        obtain ⟨a, o, e1, hg, h0, ho, ct⟩ := r.ow i d e
        exact ⟨_, e1, p _ G H (Step.refl r.st.gh) (.inr ⟨a, o, rfl, ho, ct⟩)⟩
    · exact p.elim
/-- a new value, taken as a stable one -/
theorem d_z {e : Expr} {f : FE} (h : PE' X c .fr e f) : PE' X c .st e f :=
  peI h fun σ H Q ⟨G, S, r, p⟩ => ⟨G, S, r, by
    cases e1 : f S with
    | ok d =>
      rw [e1] at p
      rintro v G' H' s ⟨a, o, rfl, hg, hn, ha, ct⟩
      exact p _ (upd G' a o) H' (s.frz ha hn hg) ((ct.mono (Ex.new hg)).rd upd_same)
    | exc x => rw [e1] at p; exact p
    | fail => rw [e1] at p; exact p⟩
/-- .. as it stands -/
theorem d_n {kd : Kd} {e : Expr} {f : FE} (h : PE' X c kd e f) : PE' X c .bo e f :=
  peI h fun σ H Q ⟨G, S, r, p⟩ => ⟨G, S, r, by
    cases e1 : f S with
    | ok d => rw [e1] at p; exact fun v G' H' s q => p v G' H' s q.now
    | exc x => rw [e1] at p; exact p
    | fail => rw [e1] at p; exact p⟩
/-! ### operations by values -/
/-- an operation on two values -/
def Op2 (X : Cx) (k : Kn) (f : Value → Value → Sem Value) (kd : Kd) (g : D → D → R D) : Prop :=
  ∃ r : R2, OpR X f r ∧ ∀ G H x y u v d, Ex G H → Now k G H x u → Now k G H y v → g x y = .ok d → ∀ Q : VK, (∀ w G' H', Step G H G' H' → Res k H G' H' d w kd → Q w H') → r u v H Q
/-- without exceptions -/
def NoX {α : Type} (r : R α) : Prop := ∀ x, r ≠ .exc x
variable {kd k1 k2 k3 : Kd} {a b : Expr} {f g h : FE} {pos : Pos}
def e2 (o : D → D → R D) (f g : FE) : FE := fun S => do
  let x ← f S
  let y ← g S
  (o x y).nox
/-- the meeting of two parts and an operation -/
theorem e2_go {o : D → D → R D} {σ : St} {H : Hp} {Q : VK} {r : R2} (hr : ∀ G H x y u v d, Ex G H → Now c.k G H x u → Now c.k G H y v → o x y = .ok d → ∀ Q : VK, (∀ w G' H', Step G H G' H' → Res c.k H G' H' d w kd → Q w H') → r u v H Q)
    (q : RdE c kd (e2 o f g) σ H Q) : RdE c k1 f σ H fun x H1 => RdE c k2 g σ H1 fun y H2 => r x y H2 Q := by
  obtain ⟨G, S, rel, p⟩ := q
  refine rdE_go (g := fun x => do let y ← g S; (o x y).nox) (Post := PostE c kd G S σ H Q) rel p (fun _ z => z) (fun z => z) fun d1 v1 G1 H1 s1 q1 p1 => ?_
  refine rdE_go (g := fun y => (o d1 y).nox) (Post := PostE c kd G S σ H Q) (rel.grow s1) p1 (fun _ z => z) (fun z => z) fun d2 v2 G2 H2 s2 q2 p2 => ?_
  cases e : o d1 d2 with
  | ok d =>
    rw [e] at p2
    exact hr G2 H2 d1 d2 v1 v2 d s2.gh (q1.now.grow s2) q2.now e Q fun w G3 H3 s3 q3 => p2 w G3 H3 ((s1.trans s2).trans s3) (q3.mono (s1.h.trans s2.h))
  | exc x => rw [e] at p2; exact p2.elim
  | fail => rw [e] at p2; exact p2.elim
theorem d_op {op : Operator} {o : D → D → R D} (ho : Op2 X c.k (binaryOp op) kd o) (ha : PE' X c k1 a f) (hb : PE' X c k2 b g) : PE' X c kd (.BinOp a op b pos) (e2 o f g) := by
  obtain ⟨r, h1, h2⟩ := ho
  exact peI (pe_op h1 ha hb) fun σ H Q q => e2_go h2 q
theorem d_cmp {op : CmpOp} {o : D → D → R D} (ho : Op2 X c.k (compareOp op) kd o) (ha : PE' X c k1 a f) (hb : PE' X c k2 b g) (hm : behindInMarks op b = false := by rfl) : PE' X c kd (.Compare a [op] [b] pos) (e2 o f g) := by
  obtain ⟨r, h1, h2⟩ := ho
  exact peI (pe_cmpR h1 ha hb hm) fun σ H Q q => e2_go h2 q
def Ix2 (X : Cx) (k : Kn) (g : D → D → R D) : Prop :=
  ∃ r : R2, IxR X r ∧ ∀ G H x y u v d, Ex G H → Now k G H x u → Now k G H y v → g x y = .ok d → ∀ Q : VK, (∀ w G' H', Step G H G' H' → Res k H G' H' d w .st → Q w H') → r u v H Q
theorem d_ix {o : D → D → R D} (ho : Ix2 X c.k o) (ha : PE' X c k1 a f) (hb : PE' X c k2 b g) (hi : PlainIx b := by exact fun _ _ => rfl) : PE' X c .st (.Subscript a b pos) (e2 o f g) := by
  obtain ⟨r, h1, h2⟩ := ho
  exact peI (pe_ix h1 ha hb hi) fun σ H Q q => e2_go h2 q
/-- an operation on one value -/
def e1 (o : D → R D) (f : FE) : FE := fun S => do
  let x ← f S
  (o x).nox
theorem e1_go {o : D → R D} {σ : St} {H : Hp} {Q : VK} {r : V → Hp → VK → Prop} (hr : ∀ G H x u d, Ex G H → Now c.k G H x u → o x = .ok d → ∀ Q : VK, (∀ w G' H', Step G H G' H' → Res c.k H G' H' d w kd → Q w H') → r u H Q)
    (q : RdE c kd (e1 o f) σ H Q) : RdE c k1 f σ H fun x H1 => r x H1 Q := by
  obtain ⟨G, S, rel, p⟩ := q
  refine rdE_go (g := fun x => (o x).nox) (Post := PostE c kd G S σ H Q) rel p (fun _ z => z) (fun z => z) fun d1 v1 G1 H1 s1 q1 p1 => ?_
  cases e : o d1 with
  | ok d =>
    rw [e] at p1
    exact hr G1 H1 d1 v1 d s1.gh q1.now e Q fun w G3 H3 s3 q3 => p1 w G3 H3 (s1.trans s3) (q3.mono s1.h)
  | exc x => rw [e] at p1; exact p1.elim
  | fail => rw [e] at p1; exact p1.elim
def Un1 (X : Cx) (k : Kn) (f : Value → Sem Value) (g : D → R D) : Prop :=
  ∃ r : V → Hp → VK → Prop, UnR X f r ∧ ∀ G H x u d, Ex G H → Now k G H x u → g x = .ok d → ∀ Q : VK, (∀ w G' H', Step G H G' H' → Res k H G' H' d w .st → Q w H') → r u H Q
theorem d_un {op : UnaryOp} {o : D → R D} (ho : Un1 X c.k (unaryOp op) o) (ha : PE' X c k1 a f) : PE' X c .st (.UnaryOp op a pos) (e1 o f) := by
  obtain ⟨r, h1, h2⟩ := ho
  exact peI (pe_un h1 ha) fun σ H Q q => e1_go h2 q
/-! ### arguments -/
def aN : FA := fun _ => .ok []
def aC (f : FE) (g : FA) : FA := fun S => do
  let x ← f S
  let xs ← g S
  .ok (x :: xs)
theorem d_an {b : Bool} : PA' X c b [] aN := paI pa_nil fun σ H Q ⟨G, S, r, p⟩ => p [] G H (Step.refl r.st.gh) (by cases b <;> exact .nil)
theorem d_ac {e : Expr} {es : List Expr} {ga : FA} (ha : PE' X c .st e f) (hr : PA' X c false es ga) (hs : starEach (e :: es) X.env = (false, eval e X.env) :: starEach es X.env := by rfl) : PA' X c false (e :: es) (aC f ga) :=
  paI (pa_cons ha hr hs) fun σ H Q ⟨G, S, rel, p⟩ => by
    refine rdE_go (g := fun x => do let xs ← ga S; .ok (x :: xs)) (Post := PostA c false G S σ H Q) rel p (fun _ z => z) (fun z => z) fun d1 v1 G1 H1 s1 q1 p1 => ?_
    refine rdA_go (g := fun xs => .ok (d1 :: xs)) (Post := PostA c false G S σ H Q) (rel.grow s1) p1 (fun _ z => z) (fun z => z) fun d2 v2 G2 H2 s2 q2 p2 => ?_
    exact p2 _ G2 H2 (s1.trans s2) (.cons (RD.mono s2.g q1) q2)
theorem d_ab {e : Expr} {es : List Expr} {ga : FA} (ha : PE' X c k1 e f) (hr : PA' X c true es ga) (hs : starEach (e :: es) X.env = (false, eval e X.env) :: starEach es X.env := by rfl) : PA' X c true (e :: es) (aC f ga) :=
  paI (pa_cons ha hr hs) fun σ H Q ⟨G, S, rel, p⟩ => by
    refine rdE_go (g := fun x => do let xs ← ga S; .ok (x :: xs)) (Post := PostA c true G S σ H Q) rel p (fun _ z => z) (fun z => z) fun d1 v1 G1 H1 s1 q1 p1 => ?_
    refine rdA_go (g := fun xs => .ok (d1 :: xs)) (Post := PostA c true G S σ H Q) (rel.grow s1) p1 (fun _ z => z) (fun z => z) fun d2 v2 G2 H2 s2 q2 p2 => ?_
    exact p2 _ G2 H2 (s1.trans s2) (.cons (q1.now.grow s2) q2)
/-- a tuple, a list displayed -/
def mkT (xs : List D) : R D := if xs.length ≤ sizeLine then .ok (.tup xs) else .fail
def mkL (xs : List D) : R D := if xs.length ≤ sizeLine then .ok (.lst xs) else .fail
def eT (g : FA) : FE := fun S => g S >>= mkT
def eL (g : FA) : FE := fun S => g S >>= mkL
theorem d_tup {es : List Expr} {ga : FA} {x1} (h : PA' X c false es ga) : PE' X c .st (.Tuple es x1 pos) (eT ga) :=
  peI (pe_tup h) fun σ H Q ⟨G, S, rel, p⟩ => by
    refine rdA_go (g := mkT) (Post := PostE c .st G S σ H Q) rel p (fun _ z => z) (fun z => z) fun ds vs G1 H1 s1 q1 p1 => ?_
    have q1 : RDs c.k G1 ds vs := q1
    by_cases hl : ds.length ≤ sizeLine
    · unfold mkT at p1; rw [if_pos hl] at p1
      exact ⟨by rw [← q1.length]; exact hl, fun p hp => p1 _ _ _ (s1.trans (Step.new s1.gh hp)) (.tup (SqU.of upd_same) (q1.mono (Ex.new (s1.gh.free hp))))⟩
    · unfold mkT at p1; rw [if_neg hl] at p1; exact p1.elim
theorem d_lst {es : List Expr} {ga : FA} (h : PA' X c false es ga) : PE' X c .fr (.List es pos) (eL ga) :=
  peI (pe_lst h) fun σ H Q ⟨G, S, rel, p⟩ => by
    refine rdA_go (g := mkL) (Post := PostE c .fr G S σ H Q) rel p (fun _ z => z) (fun z => z) fun ds vs G1 H1 s1 q1 p1 => ?_
    have q1 : RDs c.k G1 ds vs := q1
    by_cases hl : ds.length ≤ sizeLine
    · unfold mkL at p1; rw [if_pos hl] at p1
      exact ⟨by rw [← q1.length]; exact hl, fun p hp => p1 _ _ _ (s1.trans (Step.new' s1.gh hp)) ⟨p, _, rfl, s1.gh.free hp, s1.h.free hp, upd_same, .lst q1⟩⟩
    · unfold mkL at p1; rw [if_neg hl] at p1; exact p1.elim
/-- a built-in's call by values -/
def ClR (X : Cx) (k : Kn) (f : Value) (kd : Kd) (g : List D → R D) : Prop :=
  ∃ r : List V → Hp → VK → Prop, CallR X f r ∧ ∀ G H ds vs d, Ex G H → Nows k G H ds vs → g ds = .ok d → ∀ Q : VK, (∀ w G' H', Step G H G' H' → Res k H G' H' d w kd → Q w H') → r vs H Q
def eC (o : List D → R D) (g : FA) : FE := fun S => do
  let xs ← g S
  (o xs).nox
theorem eC_go {ba : Bool} {ga : FA} {o : List D → R D} {σ : St} {H : Hp} {Q : VK} {r : List V → Hp → VK → Prop} (hr : ∀ G H ds vs d, Ex G H → Nows c.k G H ds vs → o ds = .ok d → ∀ Q : VK, (∀ w G' H', Step G H G' H' → Res c.k H G' H' d w kd → Q w H') → r vs H Q)
    (q : RdE c kd (eC o ga) σ H Q) : RdA c ba ga σ H fun x H1 => r x H1 Q := by
  obtain ⟨G, S, rel, p⟩ := q
  refine rdA_go (g := fun x => (o x).nox) (Post := PostE c kd G S σ H Q) rel p (fun _ z => z) (fun z => z) fun d1 v1 G1 H1 s1 q1 p1 => ?_
  cases e : o d1 with
  | ok d =>
    rw [e] at p1
    exact hr G1 H1 d1 v1 d s1.gh q1.nows e Q fun w G3 H3 s3 q3 => p1 w G3 H3 (s1.trans s3) (q3.mono s1.h)
  | exc x => rw [e] at p1; exact p1.elim
  | fail => rw [e] at p1; exact p1.elim
theorem d_bltn {ba : Bool} {x : Str} {p : Pos} {e : Expr} {es : List Expr} {ga : FA} {id : String} {o : List D → R D} (ho : ClR X c.k (.builtin id) kd o) (hm : X.mg x = none) (ha : PA' X c ba (e :: es) ga) (hv : bootBuiltins x = some (.builtin id) := by decide +kernel) (hg : Gl X x := by rfl)
    (hn : x ≠ "__name__" := by decide) (hdb : (x == ("__debug__" : Str)) = false := by decide)
    (hs : starEach (e :: es) X.env = (false, eval e X.env) :: starEach es X.env := by rfl) (hs2 : ((backTo pos (starEach es X.env)).any fun x => x.1) = false := by rfl) :
    PE' X c kd (.Call (.Name x p) (e :: es) [] pos) (eC o ga) := by
  obtain ⟨r, h1, h2⟩ := ho
  exact peI (pe_callB h1 hg hm hv ha hn hdb hs hs2) fun σ H Q q => eC_go h2 q
theorem d_btyp {ba : Bool} {x : Str} {p : Pos} {e : Expr} {es : List Expr} {ga : FA} {id : String} {o : List D → R D} (ho : ClR X c.k (.type id) kd o) (hm : X.mg x = none) (ha : PA' X c ba (e :: es) ga) (hv : bootBuiltins x = some (.type id) := by decide +kernel) (hg : Gl X x := by rfl)
    (hn : x ≠ "__name__" := by decide) (hdb : (x == ("__debug__" : Str)) = false := by decide)
    (hs : starEach (e :: es) X.env = (false, eval e X.env) :: starEach es X.env := by rfl) (hs2 : ((backTo pos (starEach es X.env)).any fun x => x.1) = false := by rfl) :
    PE' X c kd (.Call (.Name x p) (e :: es) [] pos) (eC o ga) := by
  obtain ⟨r, h1, h2⟩ := ho
  exact peI (pe_callTy h1 hg hm hv ha hn hdb hs hs2) fun σ H Q q => eC_go h2 q
end
end M
set_option Elab.async false
set_option linter.all false
set_option maxRecDepth 100000
set_option maxHeartbeats 4000000
namespace M
open PySem L2
/-! ### equality of data -/
mutual
def D.toP : D → PyData
  | .bl b => .bool b
  | .int i => .int i
  | .str x => .str x
  | .tup xs => .tuple (D.toPs xs)
  | .lst xs => .list (D.toPs xs)
  | _ => .none
def D.toPs : List D → List PyData
  | [] => []
  | x :: xs => x.toP :: D.toPs xs
end
mutual
def deq : D → D → Bool
  | .non, .non => true
  | .bl a, .bl b => a == b
  | .bl a, .int j => (if a then 1 else 0) == j
  | .int i, .bl b => i == (if b then 1 else 0)
  | .int i, .int j => i == j
  | .str x, .str y => x == y
  | .lst xs, .lst ys => deqs xs ys
  | .tup xs, .tup ys => deqs xs ys
  | _, _ => false
def deqs : List D → List D → Bool
  | [], [] => true
  | x :: xs, y :: ys => deq x y && deqs xs ys
  | _, _ => false
end
mutual
/-- data that are compared: nested at most n deep -/
def dok : Nat → D → Bool
  | _, .non => true
  | _, .bl _ => true
  | _, .int _ => true
  | _, .str x => PyData.strOk x
  | n + 1, .tup xs => doks n xs
  | n + 1, .lst xs => doks n xs
  | _, _ => false
def doks : Nat → List D → Bool
  | _, [] => true
  | n, x :: xs => dok n x && doks n xs
end
mutual
theorem dok_lay : ∀ (n : Nat) (d : D), dok n d = true → PyData.canLay0 d.toP = true ∧ PyData.depth d.toP ≤ n
  | n, .non, _ => by simp [D.toP, PyData.canLay0, PyData.depth]
  | n, .bl _, _ => by simp [D.toP, PyData.canLay0, PyData.depth]
  | n, .int _, _ => by simp [D.toP, PyData.canLay0, PyData.depth]
  | n, .str x, h => by
    cases n <;> (simp only [dok] at h; simp [D.toP, PyData.canLay0, PyData.depth, h])
  | n + 1, .tup xs, h => by
    simp only [dok] at h
    have := doks_lay n xs h
    simp only [D.toP, PyData.canLay0, PyData.depth]
    exact ⟨this.1, by omega⟩
  | n + 1, .lst xs, h => by
    simp only [dok] at h
    have := doks_lay n xs h
    simp only [D.toP, PyData.canLay0, PyData.depth]
    exact ⟨this.1, by omega⟩
  | 0, .tup xs, h => by simp [dok] at h
  | 0, .lst xs, h => by simp [dok] at h
  | n, .ty _, h => by cases n <;> simp [dok] at h
  | n, .dic _ _, h => by cases n <;> simp [dok] at h
  | n, .dit _ _, h => by cases n <;> simp [dok] at h
  | n, .obj _ _, h => by cases n <;> simp [dok] at h
  | n, .scr _, h => by cases n <;> simp [dok] at h
  | n, .cls _, h => by cases n <;> simp [dok] at h
theorem doks_lay : ∀ (n : Nat) (ds : List D), doks n ds = true → PyData.canLayAll0 (D.toPs ds) = true ∧ PyData.depthAll (D.toPs ds) ≤ n
  | n, [], _ => by simp [D.toPs, PyData.canLayAll0, PyData.depthAll]
  | n, x :: xs, h => by
    simp only [doks, Bool.and_eq_true] at h
    have a := dok_lay n x h.1
    have b := doks_lay n xs h.2
    simp only [D.toPs, PyData.canLayAll0, PyData.depthAll, Bool.and_eq_true]
    exact ⟨⟨a.1, b.1⟩, by omega⟩
end
mutual
theorem deq_eqv : ∀ (n m : Nat) (x y : D), dok n x = true → dok m y = true → PyData.eqv x.toP y.toP = deq x y
  | n, m, .non, y, _, h => by cases y <;> first | (simp [D.toP, PyData.eqv, deq]; done) | (cases m <;> simp [dok] at h)
  | n, m, .bl _, y, _, h => by cases y <;> first | (simp [D.toP, PyData.eqv, deq]; done) | (cases m <;> simp [dok] at h)
  | n, m, .int _, y, _, h => by cases y <;> first | (simp [D.toP, PyData.eqv, deq]; done) | (cases m <;> simp [dok] at h)
  | n, m, .str _, y, _, h => by cases y <;> first | (simp [D.toP, PyData.eqv, deq]; done) | (cases m <;> simp [dok] at h)
  | n + 1, m, .tup xs, y, h1, h => by
    cases y with
    | tup ys =>
      cases m with
      | zero => simp [dok] at h
      | succ m =>
        simp only [dok] at h h1
        simp only [D.toP, PyData.eqv, deq]
        exact deqs_eqv n m xs ys h1 h
    | _ => first | (simp [D.toP, PyData.eqv, deq]; done) | (cases m <;> simp [dok] at h)
  | n + 1, m, .lst xs, y, h1, h => by
    cases y with
    | lst ys =>
      cases m with
      | zero => simp [dok] at h
      | succ m =>
        simp only [dok] at h h1
        simp only [D.toP, PyData.eqv, deq]
        exact deqs_eqv n m xs ys h1 h
    | _ => first | (simp [D.toP, PyData.eqv, deq]; done) | (cases m <;> simp [dok] at h)
  | 0, _, .tup xs, _, h, _ => by simp [dok] at h
  | 0, _, .lst xs, _, h, _ => by simp [dok] at h
  | n, _, .ty _, _, h, _ => by cases n <;> simp [dok] at h
  | n, _, .dic _ _, _, h, _ => by cases n <;> simp [dok] at h
  | n, _, .dit _ _, _, h, _ => by cases n <;> simp [dok] at h
  | n, _, .obj _ _, _, h, _ => by cases n <;> simp [dok] at h
  | n, _, .scr _, _, h, _ => by cases n <;> simp [dok] at h
  | n, _, .cls _, _, h, _ => by cases n <;> simp [dok] at h
theorem deqs_eqv : ∀ (n m : Nat) (xs ys : List D), doks n xs = true → doks m ys = true → PyData.eqvAll (D.toPs xs) (D.toPs ys) = deqs xs ys
  | n, m, [], [], _, _ => by simp [D.toPs, PyData.eqvAll, deqs]
  | n, m, [], _ :: _, _, _ => by simp [D.toPs, PyData.eqvAll, deqs]
  | n, m, _ :: _, [], _, _ => by simp [D.toPs, PyData.eqvAll, deqs]
  | n, m, x :: xs, y :: ys, h1, h2 => by
    simp only [doks, Bool.and_eq_true] at h1 h2
    simp only [D.toPs, PyData.eqvAll, deqs]
    rw [deq_eqv n m x y h1.1 h2.1, deqs_eqv n m xs ys h1.2 h2.2]
end
mutual
theorem RD.dp {k : Kn} {H : Hp} : ∀ {d : D} {v : V} (n : Nat), RD k H d v → dok n d = true → Dp k.K H v d.toP
  | _, _, _, .non, _ => by simp only [D.toP]; exact .non
  | _, _, _, .bl b, _ => by simp only [D.toP]; exact .bl b
  | _, _, _, .int b, _ => by simp only [D.toP]; exact .int b
  | _, _, _, .str b, _ => by simp only [D.toP]; exact .str b
  | _, _, n, .tup h r, e => by
    cases n with
    | zero => simp [dok] at e
    | succ n => simp only [dok] at e; simp only [D.toP]; exact .tup h.t (RDs.dp n r e)
  | _, _, n, .lst h r, e => by
    cases n with
    | zero => simp [dok] at e
    | succ n => simp only [dok] at e; simp only [D.toP]; exact .lst (SqL.of h) (RDs.dp n r e)
  | _, _, n, .ty _, e => by cases n <;> simp [dok] at e
  | _, _, n, .scr _, e => by cases n <;> simp [dok] at e
  | _, _, n, .cls _, e => by cases n <;> simp [dok] at e
  | _, _, n, .dic _ _ _, e => by cases n <;> simp [dok] at e
  | _, _, n, .dit _ _ _, e => by cases n <;> simp [dok] at e
  | _, _, n, .obj _ _ _, e => by cases n <;> simp [dok] at e
theorem RDs.dp {k : Kn} {H : Hp} : ∀ {ds : List D} {vs : List V} (n : Nat), RDs k H ds vs → doks n ds = true → DpAll k.K H vs (D.toPs ds)
  | _, _, _, .nil, _ => by simp only [D.toPs]; exact .nil
  | _, _, n, .cons a b, e => by
    simp only [doks, Bool.and_eq_true] at e
    simp only [D.toPs]
    exact .cons (RD.dp n a e.1) (RDs.dp n b e.2)
end
theorem dok_shaped {d : D} (h : dok 60 d = true) : SeqAt.shaped d.toP = true := by
  have := dok_lay 60 d h
  unfold SeqAt.shaped
  simp only [this.1, Bool.true_and, decide_eq_true_eq]
  omega
def eqD (a b : D) : R D := if dok 60 a && dok 60 b then .ok (.bl (deq a b)) else .fail
def neD (a b : D) : R D := if dok 60 a && dok 60 b then .ok (.bl (!deq a b)) else .fail
section
variable {X : Cx} {k : Kn}
theorem o_eq (hk : k.K = X.K) (hu : X.A.units + 64 < cLine) : Op2 X k (compareOp .Eq) .st eqD := by
  refine ⟨_, op_eqD hu, ?_⟩
  intro G H x y u v d e nx ny hg Q q
  unfold eqD at hg
  split at hg
  · rename_i h
    simp only [Bool.and_eq_true] at h
    cases hg
    refine ⟨x.toP, y.toP, hk ▸ (nx.rd e).dp 60 h.1, hk ▸ (ny.rd e).dp 60 h.2, dok_shaped h.1, dok_shaped h.2, ?_⟩
    rw [deq_eqv 60 60 x y h.1 h.2]
    exact q _ G H (Step.refl e) (.bl _)
  · cases hg
theorem o_ne (hk : k.K = X.K) (hu : X.A.units + 64 < cLine) : Op2 X k (compareOp .NotEq) .st neD := by
  refine ⟨_, op_neD hu, ?_⟩
  intro G H x y u v d e nx ny hg Q q
  unfold neD at hg
  split at hg
  · rename_i h
    simp only [Bool.and_eq_true] at h
    cases hg
    refine ⟨x.toP, y.toP, hk ▸ (nx.rd e).dp 60 h.1, hk ▸ (ny.rd e).dp 60 h.2, dok_shaped h.1, dok_shaped h.2, ?_⟩
    rw [deq_eqv 60 60 x y h.1 h.2]
    exact q _ G H (Step.refl e) (.bl _)
  · cases hg
/-! ### arithmetic, + -/
def addD : D → D → R D
  | .int i, .int j => .ok (.int (i + j))
  | .str x, .str y => if x.length + y.length ≤ sizeLine then .ok (.str (x ++ y)) else .fail
  | .lst xs, .lst ys => if xs.length + ys.length ≤ sizeLine then .ok (.lst (xs ++ ys)) else .fail
  | .tup xs, .tup ys => if xs.length + ys.length ≤ sizeLine then .ok (.tup (xs ++ ys)) else .fail
  | _, _ => .fail
theorem o_add (hk : k.K = X.K) : Op2 X k (binaryOp .Add) .st addD := by
  refine ⟨_, op_add.or (op_add_str.or (op_cat.or op_catA)), ?_⟩
  intro G H x y u v d e nx ny hg Q q
  unfold addD at hg
  split at hg
  · cases hg; obtain rfl := nx.int; obtain rfl := ny.int
    exact .inl ⟨_, _, rfl, rfl, q _ G H (Step.refl e) (.int _)⟩
  · split at hg
    · rename_i hl
      cases hg; obtain rfl := nx.str; obtain rfl := ny.str
      exact .inr (.inl ⟨_, _, rfl, rfl, hl, q _ G H (Step.refl e) (.str _)⟩)
    · cases hg
  · split at hg
    · rename_i hl
      cases hg
      obtain ⟨a, vs, rfl, ha, ra⟩ := nx.lst e
      obtain ⟨b, us, rfl, hb, rb⟩ := ny.lst e
      exact .inr (.inr (.inl ⟨a, b, vs, us, rfl, rfl, ha, hb, by rw [← ra.length, ← rb.length]; exact hl, fun p hp => q _ _ _ (Step.new e hp) (.lst upd_same ((ra.append rb).mono (Ex.new (e.free hp))))⟩))
    · cases hg
  · split at hg
    · rename_i hl
      cases hg
      obtain ⟨a, vs, rfl, ha, ra⟩ := nx.tup
      obtain ⟨b, us, rfl, hb, rb⟩ := ny.tup
      refine .inr (.inr (.inr ⟨a, b, vs, us, rfl, rfl, hk ▸ e.sqT ha.t, hk ▸ e.sqT hb.t, by rw [← ra.length, ← rb.length]; exact hl, fun z => ?_, fun z1 z2 => ?_, fun _ _ p hp => q _ _ _ (Step.new e hp) (.tup (SqU.of upd_same) ((ra.append rb).mono (Ex.new (e.free hp))))⟩))
      · subst z; cases ra; exact q _ _ _ (Step.refl e) (.tup hb rb)
      · subst z2; cases rb; rw [List.append_nil] at q; exact q _ _ _ (Step.refl e) (.tup ha ra)
    · cases hg
  · cases hg
/-- a list made by +, new -/
def addL : D → D → R D
  | .lst xs, .lst ys => if xs.length + ys.length ≤ sizeLine then .ok (.lst (xs ++ ys)) else .fail
  | _, _ => .fail
theorem o_addL : Op2 X k (binaryOp .Add) .fr addL := by
  refine ⟨_, op_cat, ?_⟩
  intro G H x y u v d e nx ny hg Q q
  unfold addL at hg
  split at hg
  · split at hg
    · rename_i hl
      cases hg
      obtain ⟨a, vs, rfl, ha, ra⟩ := nx.lst e
      obtain ⟨b, us, rfl, hb, rb⟩ := ny.lst e
      exact ⟨a, b, vs, us, rfl, rfl, ha, hb, by rw [← ra.length, ← rb.length]; exact hl, fun p hp => q _ _ _ (Step.new' e hp) ⟨p, _, rfl, e.free hp, hp, upd_same, .lst (ra.append rb)⟩⟩
    · cases hg
  · cases hg
/-- an operation on two ints -/
theorem o_int {f : Value → Value → Sem Value} {C : Int → Int → Prop} [∀ i j, Decidable (C i j)] {gv : Int → Int → V} {gd : Int → Int → D} (h : OpR X f (rI C gv)) (r : ∀ i j G, RD k G (gd i j) (gv i j)) :
    Op2 X k f .st (fun x y => match x, y with | .int i, .int j => if C i j then .ok (gd i j) else .fail | _, _ => .fail) := by
  refine ⟨_, h, ?_⟩
  intro G H x y u v d e nx ny hg Q q
  dsimp only at hg
  split at hg
  · split at hg
    · rename_i hc
      cases hg; obtain rfl := nx.int; obtain rfl := ny.int
      exact ⟨_, _, rfl, rfl, hc, q _ G H (Step.refl e) (r _ _ _)⟩
    · cases hg
  · cases hg
theorem o_int0 {f : Value → Value → Sem Value} {gv : Int → Int → V} {gd : Int → Int → D} (h : OpR X f (rI0 gv)) (r : ∀ i j G, RD k G (gd i j) (gv i j)) :
    Op2 X k f .st (fun x y => match x, y with | .int i, .int j => .ok (gd i j) | _, _ => .fail) := by
  refine ⟨_, h, ?_⟩
  intro G H x y u v d e nx ny hg Q q
  dsimp only at hg
  split at hg
  · cases hg; obtain rfl := nx.int; obtain rfl := ny.int
    exact ⟨_, _, rfl, rfl, q _ G H (Step.refl e) (r _ _ _)⟩
  · cases hg
def subD : D → D → R D := fun x y => match x, y with | .int i, .int j => .ok (.int (i - j)) | _, _ => .fail
theorem o_sub : Op2 X k (binaryOp .Sub) .st subD := o_int0 op_sub fun _ _ _ => .int _
instance (i j : Int) : Decidable (CMul i j) := by unfold CMul; exact inferInstance
instance (i j : Int) : Decidable (CMulX i j) := by unfold CMulX; exact inferInstance
instance (i j : Int) : Decidable (CDiv i j) := by unfold CDiv; exact inferInstance
instance (i j : Int) : Decidable (CPow i j) := by unfold CPow; exact inferInstance
def fdivD : D → D → R D := fun x y => match x, y with | .int i, .int j => if CDiv i j then .ok (.int (i / j)) else .fail | _, _ => .fail
theorem o_fdiv : Op2 X k (binaryOp .FloorDiv) .st fdivD := o_int op_fdiv fun _ _ _ => .int _
def modD : D → D → R D := fun x y => match x, y with | .int i, .int j => if 0 < j then .ok (.int (i % j)) else .fail | _, _ => .fail
theorem o_mod : Op2 X k (binaryOp .Mod) .st modD := o_int (C := fun _ j => 0 < j) op_mod fun _ _ _ => .int _
def powD : D → D → R D := fun x y => match x, y with | .int i, .int j => if CPow i j then .ok (.int (i ^ j.toNat)) else .fail | _, _ => .fail
theorem o_pow : Op2 X k (binaryOp .Pow) .st powD := o_int op_pow fun _ _ _ => .int _
/-- * : ints, a list or a tuple so many times -/
def mulD : D → D → R D
  | .int i, .int j => if CMul i j ∨ CMulX i j then .ok (.int (i * j)) else .fail
  | .lst xs, .int j => if -(2 ^ 63) ≤ j ∧ j < 2 ^ 63 ∧ xs.length * j.toNat ≤ sizeLine then .ok (.lst (List.replicate j.toNat xs).flatten) else .fail
  | .tup xs, .int j => if xs ≠ [] ∧ 2 ≤ j ∧ j ≤ 1000 ∧ xs.length ≤ 1000 then .ok (.tup (List.replicate j.toNat xs).flatten) else .fail
  | _, _ => .fail
theorem RDs.rep {G : Hp} {ds : List D} {vs : List V} (r : RDs k G ds vs) : ∀ n : Nat, RDs k G (List.replicate n ds).flatten (List.replicate n vs).flatten
  | 0 => by simpa using .nil
  | n + 1 => by rw [List.replicate_succ, List.replicate_succ, List.flatten_cons, List.flatten_cons]; exact r.append (RDs.rep r n)
theorem o_mul (hk : k.K = X.K) : Op2 X k (binaryOp .Mult) .st mulD := by
  refine ⟨_, (op_mul.or op_mulX).or (op_rep.or op_repT), ?_⟩
  intro G H x y u v d e nx ny hg Q q
  unfold mulD at hg
  split at hg
  · split at hg
    · rename_i hc
      cases hg; obtain rfl := nx.int; obtain rfl := ny.int
      rcases hc with hc | hc
      · exact .inl (.inl ⟨_, _, rfl, rfl, hc, q _ G H (Step.refl e) (.int _)⟩)
      · exact .inl (.inr ⟨_, _, rfl, rfl, hc, q _ G H (Step.refl e) (.int _)⟩)
    · cases hg
  · split at hg
    · rename_i hc
      cases hg; obtain rfl := ny.int
      obtain ⟨a, vs, rfl, ha, ra⟩ := nx.lst e
      exact .inr (.inl ⟨a, _, vs, rfl, rfl, ha, hc.1, hc.2.1, by rw [← ra.length]; exact hc.2.2, fun p hp => q _ _ _ (Step.new e hp) (.lst upd_same ((ra.rep _).mono (Ex.new (e.free hp))))⟩)
    · cases hg
  · split at hg
    · rename_i hc
      cases hg; obtain rfl := ny.int
      obtain ⟨a, vs, rfl, ha, ra⟩ := nx.tup
      exact .inr (.inr ⟨a, _, vs, rfl, rfl, hk ▸ e.sqT ha.t, fun z => hc.1 (by subst z; cases ra; rfl), hc.2.1, hc.2.2.1, by rw [← ra.length]; exact hc.2.2.2, fun p hp => q _ _ _ (Step.new e hp) (.tup (SqU.of upd_same) ((ra.rep _).mono (Ex.new (e.free hp))))⟩)
    · cases hg
  · cases hg
def ltD : D → D → R D := fun x y => match x, y with | .int i, .int j => .ok (.bl (decide (i < j))) | _, _ => .fail
theorem o_lt : Op2 X k (compareOp .Lt) .st ltD := o_int0 op_lt fun _ _ _ => .bl _
def leD : D → D → R D := fun x y => match x, y with | .int i, .int j => .ok (.bl (decide (i ≤ j))) | _, _ => .fail
theorem o_le : Op2 X k (compareOp .LtE) .st leD := o_int0 op_le fun _ _ _ => .bl _
def gtD : D → D → R D := fun x y => match x, y with | .int i, .int j => .ok (.bl (decide (j < i))) | _, _ => .fail
theorem o_gt : Op2 X k (compareOp .Gt) .st gtD := o_int0 op_gt fun _ _ _ => .bl _
def geD : D → D → R D := fun x y => match x, y with | .int i, .int j => .ok (.bl (decide (j ≤ i))) | _, _ => .fail
theorem o_ge : Op2 X k (compareOp .GtE) .st geD := o_int0 op_ge fun _ _ _ => .bl _
def negD : D → R D := fun x => match x with | .int i => .ok (.int (-i)) | _ => .fail
theorem o_neg : Un1 X k (unaryOp .USub) negD := by
  refine ⟨_, un_neg, ?_⟩
  intro G H x u d e nx hg Q q
  unfold negD at hg
  split at hg
  · cases hg; obtain rfl := nx.int
    exact ⟨_, rfl, q _ G H (Step.refl e) (.int _)⟩
  · cases hg
def D.isNon : D → Bool
  | .non => true
  | _ => false
def isD : D → D → R D := fun x y => match y with | .non => .ok (.bl x.isNon) | _ => .fail
theorem Now.isNon {G H : Hp} {x : D} {u : V} (n : Now k G H x u) : decide (u = V.non) = x.isNon := by
  rcases n with n | ⟨a, o, rfl, h, ct⟩
  · cases n <;> simp [D.isNon]
  · cases ct <;> simp [D.isNon]
theorem o_is : Op2 X k (compareOp .Is) .st isD := by
  refine ⟨_, op_isN, ?_⟩
  intro G H x y u v d e nx ny hg Q q
  unfold isD at hg
  split at hg
  · cases hg; obtain rfl := ny.non
    exact ⟨rfl, by rw [nx.isNon]; exact q _ G H (Step.refl e) (.bl _)⟩
  · cases hg
def isntD : D → D → R D := fun x y => match y with | .non => .ok (.bl (!x.isNon)) | _ => .fail
theorem o_isnt : Op2 X k (compareOp .IsNot) .st isntD := by
  refine ⟨_, op_notN, ?_⟩
  intro G H x y u v d e nx ny hg Q q
  unfold isntD at hg
  split at hg
  · cases hg; obtain rfl := ny.non
    exact ⟨rfl, by rw [nx.isNon]; exact q _ G H (Step.refl e) (.bl _)⟩
  · cases hg
/-! ### items -/
theorem RDs.atI {G : Hp} {ds : List D} {vs : List V} {i : Int} {d : D} (r : RDs k G ds vs) (h : L2.atI ds i = some d) : ∃ v, L2.atI vs i = some v ∧ RD k G d v := by
  unfold L2.atI at h ⊢
  rw [← r.length]
  cases e : ixN ds.length i with
  | none => rw [e] at h; cases h
  | some j => rw [e] at h; exact r.get h
def ixD : D → D → R D
  | .lst xs, .int i => match L2.atI xs i with | some d => .ok d | none => .fail
  | .tup xs, .int i => match L2.atI xs i with | some d => .ok d | none => .fail
  | .scr ns, .int i => match L2.atI ns i with | some d => .ok (.int d) | none => .fail
  | .str x, .int i => if x.length ≤ sizeLine then match L2.atI x.cps.toList i with | some c => .ok (.str ⟨#[c]⟩) | none => .fail else .fail
  | _, _ => .fail
theorem IxR.or {r r' : R2} (h : IxR X r) (h' : IxR X r') : IxR X (fun x y H Q => r x y H Q ∨ r' x y H Q) := fun v sl pins s σ H x y u w Q I rx ry q hs => by
  rcases q with q | q
  · exact h v sl pins s σ H x y u w Q I rx ry q hs
  · exact h' v sl pins s σ H x y u w Q I rx ry q hs
theorem atI_map {α β : Type} (f : α → β) (xs : List α) (i : Int) : L2.atI (xs.map f) i = (L2.atI xs i).map f := by
  unfold L2.atI
  rw [List.length_map]
  cases ixN xs.length i with
  | none => rfl
  | some j => simp
theorem o_ix (hk : k.K = X.K) : Ix2 X k ixD := by
  refine ⟨_, IxR.or ix_list (IxR.or ix_tup ix_str), ?_⟩
  intro G H x y u v d e nx ny hg Q q
  unfold ixD at hg
  split at hg
  · split at hg
    · rename_i d' hd
      cases hg; obtain rfl := ny.int
      obtain ⟨a, vs, rfl, ha, ra⟩ := nx.lst e
      obtain ⟨w, h1, h2⟩ := ra.atI hd
      exact .inl ⟨a, vs, _, w, rfl, rfl, SqL.of ha, h1, q _ G H (Step.refl e) h2⟩
    · cases hg
  · split at hg
    · rename_i d' hd
      cases hg; obtain rfl := ny.int
      obtain ⟨a, vs, rfl, ha, ra⟩ := nx.tup
      obtain ⟨w, h1, h2⟩ := ra.atI hd
      exact .inr (.inl ⟨a, vs, _, w, rfl, rfl, hk ▸ e.sqT ha.t, h1, q _ G H (Step.refl e) h2⟩)
    · cases hg
  · split at hg
    · rename_i d' hd
      cases hg; obtain rfl := ny.int
      obtain ⟨a, rfl, ha⟩ := nx.scr
      exact .inl ⟨a, _, _, .int d', rfl, rfl, hk ▸ e.sqL ha, by rw [atI_map, hd]; rfl, q _ G H (Step.refl e) (.int _)⟩
    · cases hg
  · split at hg
    · rename_i hl
      split at hg
      · rename_i d' hd
        cases hg; obtain rfl := ny.int; obtain rfl := nx.str
        exact .inr (.inr ⟨_, _, d', rfl, rfl, hl, hd, q _ G H (Step.refl e) (.str _)⟩)
      · cases hg
    · cases hg
  · cases hg
end
end M
set_option Elab.async false
set_option linter.all false
set_option maxRecDepth 100000
set_option maxHeartbeats 4000000
namespace M
open PySem L2
section
variable {X : Cx} {c : Cf} {kd k1 k2 k3 : Kd} {a b e : Expr} {f g h : FE} {pos : Pos}
/-! ### tests -/
def toB : D → R Bool
  | .bl b => .ok b
  | _ => .fail
def tB' (f : FE) : FT := fun S => f S >>= toB
/-- truth -/
def truD : D → R Bool
  | .non => .ok false
  | .bl b => .ok b
  | .int i => .ok (i != 0)
  | .str x => if x.length ≤ sizeLine then .ok (x.length != 0) else .fail
  | .tup xs => .ok (!xs.isEmpty)
  | .lst xs => .ok (!xs.isEmpty)
  | .dic ks _ => .ok (!ks.isEmpty)
  | _ => .fail
def tT' (f : FE) : FT := fun S => f S >>= truD
theorem Now.toB {k : Kn} {G H : Hp} {d : D} {v : V} {b : Bool} (n : Now k G H d v) (h : toB d = .ok b) : v = .bl b := by
  cases d <;> simp only [M.toB] at h <;> first | (cases h; done) | (cases h; exact n.bl)
theorem Nows.isEmpty {k : Kn} {G : Hp} {ds : List D} {vs : List V} (r : RDs k G ds vs) : (!ds.isEmpty) = !vs.isEmpty := by
  cases r <;> rfl
theorem Now.tru {k : Kn} {G H : Hp} {d : D} {v : V} {b : Bool} (e : Ex G H) (n : Now k G H d v) (h : truD d = .ok b) : TruV k.K v H b := by
  unfold truD at h
  split at h
  · cases h; obtain rfl := n.non; rfl
  · cases h; obtain rfl := n.bl; rfl
  · cases h; obtain rfl := n.int; rfl
  · split at h
    · rename_i hl
      cases h; obtain rfl := n.str
      exact ⟨hl, by simp [bne, BEq.beq]⟩
    · cases h
  · cases h; obtain ⟨p, vs, rfl, hp, r⟩ := n.tup
    exact .inr (.inl ⟨vs, e.sqT hp.t, Nows.isEmpty r⟩)
  · cases h; obtain ⟨p, vs, rfl, hp, r⟩ := n.lst e
    exact .inl ⟨vs, SqL.of hp, Nows.isEmpty r⟩
  · cases h; obtain ⟨p, vs, rfl, hp, l, r⟩ := n.dic e
    refine .inr (.inr ⟨_, hp, ?_⟩)
    have l2 := r.length
    rename_i ks ds
    cases ks with
    | nil => rfl
    | cons x xs =>
      cases vs with
      | nil => simp at l2; subst l2; simp at l
      | cons y ys => rfl
  · cases h
theorem d_tt {kd : Kd} (hk : c.k.K = X.K) (ha : PE' X c kd a f) (he : ∀ whole, isTrue a X.env whole = (do let v ← whole; standAt a.pos; holding [v] (truthy v)) := by intro _; rfl) : PT' X c a (tT' f) :=
  ptI (pt_truth ha he) fun σ H Q ⟨G, S, rel, p⟩ => by
    refine rdE_go (g := truD) (Post := PostT c G S σ H Q) rel p (fun _ z => z) (fun z => z) fun d v G' H' s q p1 => ?_
    cases e1 : truD d with
    | ok b => rw [e1] at p1; exact ⟨b, hk ▸ q.now.tru s.gh e1, p1 G' H' s⟩
    | exc x => cases d <;> simp only [truD] at e1 <;> first | (cases e1; done) | (split at e1 <;> cases e1)
    | fail => rw [e1] at p1; exact p1.elim
theorem tB_go {t : TE} {σ : St} {H : Hp} {Q : Bool → Hp → Prop} (ht : ∀ σ H Q, RdE c .st f σ H Q → t σ H Q) (q : RdT c (tB' f) σ H Q) : t σ H fun x H' => ∃ k, x = .bl k ∧ Q k H' := by
  obtain ⟨G, S, rel, p⟩ := q
  refine ht σ H _ (rdE_go (g := toB) (Post := PostT c G S σ H Q) rel p (fun _ z => z) (fun z => z) fun d v G' H' s q p1 => ?_)
  cases e1 : toB d with
  | ok b => rw [e1] at p1; exact ⟨b, q.now.toB e1, p1 G' H' s⟩
  | exc x => cases d <;> simp only [toB] at e1 <;> cases e1
  | fail => rw [e1] at p1; exact p1.elim
theorem d_tc {op : CmpOp} {o : D → D → R D} (ho : Op2 X c.k (compareOp op) .st o) (ha : PE' X c k1 a f) (hb : PE' X c k2 b g) (hm : behindInMarks op b = false := by rfl) : PT' X c (.Compare a [op] [b] pos) (tB' (e2 o f g)) := by
  obtain ⟨r, h1, h2⟩ := ho
  exact ptI (pt_cmpR h1 ha hb hm) fun σ H Q q => tB_go (t := tOp r (RdE c k1 f) (RdE c k2 g)) (fun σ H Q q => e2_go h2 q) q
/-- a op b op c -/
def e3 (o o' : D → D → R D) (f g h : FE) : FE := fun S => do
  let x ← f S
  let y ← g S
  let b ← (o x y).nox
  let b ← toB b
  if b then do
    let z ← h S
    (o' y z).nox
  else .ok (.bl false)
theorem e3_go {o o' : D → D → R D} {r r' : R2} {σ : St} {H : Hp} {Q : VK} (hr : ∀ G H x y u v d, Ex G H → Now c.k G H x u → Now c.k G H y v → o x y = .ok d → ∀ Q : VK, (∀ w G' H', Step G H G' H' → Res c.k H G' H' d w .st → Q w H') → r u v H Q)
    (hr' : ∀ G H x y u v d, Ex G H → Now c.k G H x u → Now c.k G H y v → o' x y = .ok d → ∀ Q : VK, (∀ w G' H', Step G H G' H' → Res c.k H G' H' d w .st → Q w H') → r' u v H Q)
    (q : RdE c .st (e3 o o' f g h) σ H Q) : tChain r r' (RdE c k1 f) (RdE c k2 g) (RdE c k3 h) σ H Q := by
  obtain ⟨G, S, rel, p⟩ := q
  refine rdE_go (g := fun x => do let y ← g S; let b ← (o x y).nox; let b ← toB b; if b then do { let z ← h S; (o' y z).nox } else .ok (.bl false)) (Post := PostE c .st G S σ H Q) rel p (fun _ z => z) (fun z => z) fun d1 v1 G1 H1 s1 q1 p1 => ?_
  refine rdE_go (g := fun y => do let b ← (o d1 y).nox; let b ← toB b; if b then do { let z ← h S; (o' y z).nox } else .ok (.bl false)) (Post := PostE c .st G S σ H Q) (rel.grow s1) p1 (fun _ z => z) (fun z => z) fun d2 v2 G2 H2 s2 q2 p2 => ?_
  cases eo : o d1 d2 with
  | exc x => rw [eo] at p2; exact p2.elim
  | fail => rw [eo] at p2; exact p2.elim
  | ok db =>
    rw [eo] at p2
    refine hr G2 H2 d1 d2 v1 v2 db s2.gh (q1.now.grow s2) q2.now eo _ fun w G3 H3 s3 q3 => ?_
    cases eb : toB db with
    | exc x => cases db <;> simp only [toB] at eb <;> cases eb
    | fail => simp only [R.nox_ok, R.ok_bind, eb, R.fail_bind] at p2; exact p2.elim
    | ok kb =>
      simp only [R.nox_ok, R.ok_bind, eb] at p2
      refine ⟨kb, (Res.now (kd := .st) q3).toB eb, ?_⟩
      cases kb with
      | false =>
        rw [if_neg Bool.false_ne_true] at p2 ⊢
        exact p2 _ G3 H3 ((s1.trans s2).trans s3) (.bl _)
      | true =>
        rw [if_pos rfl] at p2 ⊢
        refine rdE_go (g := fun z => (o' d2 z).nox) (Post := PostE c .st G S σ H Q) (((rel.grow s1).grow s2).grow s3) p2 (fun _ z => z) (fun z => z) fun d4 v4 G4 H4 s4 q4 p4 => ?_
        cases eo' : o' d2 d4 with
        | exc x => rw [eo'] at p4; exact p4.elim
        | fail => rw [eo'] at p4; exact p4.elim
        | ok dr =>
          rw [eo'] at p4
          exact hr' G4 H4 d2 d4 v2 v4 dr s4.gh (q2.now.grow (s3.trans s4)) q4.now eo' Q fun w' G5 H5 s5 q5 => p4 w' G5 H5 ((((s1.trans s2).trans s3).trans s4).trans s5) q5
theorem d_ch {op op' : CmpOp} {cc : Expr} {o o' : D → D → R D} (ho : Op2 X c.k (compareOp op) .st o) (ho' : Op2 X c.k (compareOp op') .st o') (ha : PE' X c k1 a f) (hb : PE' X c k2 b g) (hc : PE' X c k3 cc h)
    (hm : lastMarks [op, op'] [b, cc] = false := by with_unfolding_all rfl) : PE' X c .st (.Compare a [op, op'] [b, cc] pos) (e3 o o' f g h) := by
  obtain ⟨r, h1, h2⟩ := ho
  obtain ⟨r', h1', h2'⟩ := ho'
  exact peI (pe_chain h1 h1' ha hb hc hm) fun σ H Q q => e3_go h2 h2' q
theorem d_tch {op op' : CmpOp} {cc : Expr} {o o' : D → D → R D} (ho : Op2 X c.k (compareOp op) .st o) (ho' : Op2 X c.k (compareOp op') .st o') (ha : PE' X c k1 a f) (hb : PE' X c k2 b g) (hc : PE' X c k3 cc h)
    (hm : lastMarks [op, op'] [b, cc] = false := by with_unfolding_all rfl) : PT' X c (.Compare a [op, op'] [b, cc] pos) (tB' (e3 o o' f g h)) := by
  obtain ⟨r, h1, h2⟩ := ho
  obtain ⟨r', h1', h2'⟩ := ho'
  exact ptI (pt_chain h1 h1' ha hb hc hm) fun σ H Q q => tB_go (t := tChain r r' (RdE c k1 f) (RdE c k2 g) (RdE c k3 h)) (fun σ H Q q => e3_go h2 h2' q) q
/-! ### not, and, or -/
def tNo (t : FT) : FT := fun S => t S >>= fun b => .ok (!b)
def tA (t u : FT) : FT := fun S => t S >>= fun b => if b then u S else .ok false
def tO (t u : FT) : FT := fun S => t S >>= fun b => if b then .ok true else u S
variable {t u : FT}
theorem d_not (ha : PT' X c a t) : PT' X c (.UnaryOp .Not a pos) (tNo t) :=
  ptI (pt_not ha) fun σ H Q ⟨G, S, rel, p⟩ => rdT_go (g := fun b => .ok (!b)) (Post := PostT c G S σ H Q) rel p (fun _ z => z) (fun z => z) fun b G' H' s p1 => p1 G' H' s
abbrev PW' (X : Cx) (c : Cf) (e : Expr) (f : FT) : Prop := PW X e (RdT c f)
theorem PostT.grow {G H G' H' : Hp} {S : Env} {σ : St} {Q : Bool → Hp → Prop} {r : R Bool} (s : Step G H G' H') (p : PostT c G S σ H Q r) : PostT c G' S σ H' Q r := by
  cases r with
  | ok b => exact fun G2 H2 s2 => p G2 H2 (s.trans s2)
  | exc x => exact p
  | fail => exact p
theorem PostE.grow {G H G' H' : Hp} {S : Env} {σ : St} {Q : VK} {r : R D} (s : Step G H G' H') (p : PostE c kd G S σ H Q r) : PostE c kd G' S σ H' Q r := by
  cases r with
  | ok b => exact fun v G2 H2 s2 q => p v G2 H2 (s.trans s2) (q.mono s.h)
  | exc x => exact p
  | fail => exact p
theorem d_and1 (ha : PT' X c a t) : PW' X c (.BoolOp .And [a] pos) t := pw_and1 ha
theorem d_or1 (ha : PT' X c a t) : PW' X c (.BoolOp .Or [a] pos) t := pw_or1 ha
theorem d_and {rest : List Expr} (ha : PT' X c a t) (hb : PW' X c (.BoolOp .And (b :: rest) pos) u) : PW' X c (.BoolOp .And (a :: b :: rest) pos) (tA t u) :=
  pwI (pw_and ha hb) fun σ H Q ⟨G, S, rel, p⟩ => rdT_go (g := fun b => if b then u S else .ok false) (Post := PostT c G S σ H Q) rel p (fun _ z => z) (fun z => z) fun b G' H' s p1 => by
    cases b with
    | true => exact ⟨G', S, rel.grow s, PostT.grow s p1⟩
    | false => exact p1 G' H' s
theorem d_or {rest : List Expr} (ha : PT' X c a t) (hb : PW' X c (.BoolOp .Or (b :: rest) pos) u) : PW' X c (.BoolOp .Or (a :: b :: rest) pos) (tO t u) :=
  pwI (pw_or ha hb) fun σ H Q ⟨G, S, rel, p⟩ => rdT_go (g := fun b => if b then .ok true else u S) (Post := PostT c G S σ H Q) rel p (fun _ z => z) (fun z => z) fun b G' H' s p1 => by
    cases b with
    | true => exact p1 G' H' s
    | false => exact ⟨G', S, rel.grow s, PostT.grow s p1⟩
theorem d_pw (h : PW' X c a t) : PT' X c a t := h.pt
/-- the same as values: bools -/
def eAnd (f g : FE) : FE := fun S => f S >>= toB >>= fun b => if b then g S else .ok (.bl false)
def eOr (f g : FE) : FE := fun S => f S >>= toB >>= fun b => if b then .ok (.bl true) else g S
def eNot (f : FE) : FE := fun S => f S >>= toB >>= fun b => .ok (.bl (!b))
def eIf (t : FT) (f g : FE) : FE := fun S => t S >>= fun b => if b then f S else g S
theorem bind_toB {β : Type} (r : R D) (k : Bool → R β) : (r >>= toB >>= k) = r >>= fun d => toB d >>= k := by cases r <;> rfl
theorem d_vone {op} (h : PE' X c .st a f) : PE' X c .st (.BoolOp op [a] pos) f := pe_one h
theorem d_vand {rest : List Expr} (ha : PE' X c .st a f) (hb : PE' X c .st (.BoolOp .And (b :: rest) pos) g) : PE' X c .st (.BoolOp .And (a :: b :: rest) pos) (eAnd f g) :=
  peI (pe_and ha hb) fun σ H Q ⟨G, S, rel, p⟩ => by
    unfold eAnd at p
    rw [bind_toB] at p
    refine rdE_go (Post := PostE c .st G S σ H Q) rel p (fun _ z => z) (fun z => z) fun d v G' H' s q p1 => ?_
    cases d with
    | bl k =>
      refine ⟨k, (Res.now (kd := .st) q).bl, ?_⟩
      cases k with
      | true => exact ⟨G', S, rel.grow s, PostE.grow s p1⟩
      | false => exact p1 _ G' H' s (.bl _)
    | _ => exact p1.elim
theorem d_vor {rest : List Expr} (ha : PE' X c .st a f) (hb : PE' X c .st (.BoolOp .Or (b :: rest) pos) g) : PE' X c .st (.BoolOp .Or (a :: b :: rest) pos) (eOr f g) :=
  peI (pe_or ha hb) fun σ H Q ⟨G, S, rel, p⟩ => by
    unfold eOr at p
    rw [bind_toB] at p
    refine rdE_go (Post := PostE c .st G S σ H Q) rel p (fun _ z => z) (fun z => z) fun d v G' H' s q p1 => ?_
    cases d with
    | bl k =>
      refine ⟨k, (Res.now (kd := .st) q).bl, ?_⟩
      cases k with
      | true => exact p1 _ G' H' s (.bl _)
      | false => exact ⟨G', S, rel.grow s, PostE.grow s p1⟩
    | _ => exact p1.elim
theorem d_vnot (ha : PE' X c .st a f) : PE' X c .st (.UnaryOp .Not a pos) (eNot f) :=
  peI (pe_not ha) fun σ H Q ⟨G, S, rel, p⟩ => by
    unfold eNot at p
    rw [bind_toB] at p
    refine rdE_go (Post := PostE c .st G S σ H Q) rel p (fun _ z => z) (fun z => z) fun d v G' H' s q p1 => ?_
    cases d with
    | bl k => exact ⟨k, (Res.now (kd := .st) q).bl, p1 _ G' H' s (.bl _)⟩
    | _ => exact p1.elim
theorem d_ite {cc : Expr} (hc : PT' X c cc t) (ha : PE' X c kd a f) (hb : PE' X c kd b g) : PE' X c kd (.IfExp cc a b pos) (eIf t f g) :=
  peI (pe_ifExp hc ha hb) fun σ H Q ⟨G, S, rel, p⟩ => rdT_go (g := fun b => if b then f S else g S) (Post := PostE c kd G S σ H Q) rel p (fun _ z => z) (fun z => z) fun b G' H' s p1 => by
    cases b with
    | true => exact ⟨G', S, rel.grow s, PostE.grow s p1⟩
    | false => exact ⟨G', S, rel.grow s, PostE.grow s p1⟩
end
end M
set_option Elab.async false
set_option linter.all false
set_option maxRecDepth 100000
set_option maxHeartbeats 4000000
namespace M
open PySem L2
abbrev PS' (X : Cx) (c : Cf) (fr : Bool) (as : List Nat) (st : Stmt) (s : FS) : Prop := PS X st (RdS c fr as s)
abbrev PB' (X : Cx) (c : Cf) (fr : Bool) (as : List Nat) (st : List Stmt) (s : FS) : Prop := PSs X st (RdS c fr as s)
section
variable {X : Cx} {c : Cf} {kd k1 k2 k3 : Kd} {a b e : Expr} {f g h : FE} {t u : FT} {pos : Pos} {fr : Bool} {as bs : List Nat} {s r : FS} {st : Stmt} {sts : List Stmt}
/-! ### transport -/
theorem PostS.mv {G G' H H' : Hp} {S S' : Env} {σ σ' : St} {Dn : Ends} {q : R (Fl × Env)} (hg : Ex G G') (fm : Frm as S σ H S' σ' H') (hs : ∀ i, i ∈ as ++ bs → i ∈ as ∨ i ∈ bs) (p : PostS c fr (as ++ bs) G S σ H Dn q) : PostS c fr bs G' S' σ' H' Dn q := by
  cases q with
  | exc x => exact p
  | fail => exact p
  | ok z =>
    obtain ⟨fl, S2⟩ := z
    cases fl with
    | nx => exact fun G2 σ2 H2 e r2 f2 => p G2 σ2 H2 (hg.trans e) r2 (fm.trans f2)
    | bk => exact fun G2 σ2 H2 e r2 f2 => p G2 σ2 H2 (hg.trans e) r2 (fm.trans f2)
    | ct => exact fun G2 σ2 H2 e r2 f2 => p G2 σ2 H2 (hg.trans e) r2 (fm.trans f2)
    | rt d => exact p
theorem PostS.sub {as' : List Nat} {G H : Hp} {S : Env} {σ : St} {Dn : Ends} {q : R (Fl × Env)} (hs : ∀ i, i ∈ as' → i ∈ as) (p : PostS c fr as G S σ H Dn q) : PostS c fr as' G S σ H Dn q := by
  cases q with
  | exc x => exact p
  | fail => exact p
  | ok z =>
    obtain ⟨fl, S2⟩ := z
    cases fl with
    | nx => exact fun G2 σ2 H2 e r2 f2 => p G2 σ2 H2 e r2 (f2.mono hs)
    | bk => exact fun G2 σ2 H2 e r2 f2 => p G2 σ2 H2 e r2 (f2.mono hs)
    | ct => exact fun G2 σ2 H2 e r2 f2 => p G2 σ2 H2 e r2 (f2.mono hs)
    | rt d => exact p
/-- behind a growing of the heap -/
theorem PostS.gr {G H G' H' : Hp} {S : Env} {σ : St} {Dn : Ends} {q : R (Fl × Env)} (rel : Rel c G S σ H) (sp : Step G H G' H') (p : PostS c fr as G S σ H Dn q) : PostS c fr as G' S σ H' Dn q :=
  PostS.mv (as := []) (bs := as) sp.g (Frm.step rel sp) (fun i h => .inr (by simpa using h)) p
/-! ### small statements -/
def sNil : FS := fun S => .ok (.nx, S)
def sBrk : FS := fun S => .ok (.bk, S)
def sCnt : FS := fun S => .ok (.ct, S)
def sSeq (s r : FS) : FS := fun S => s S >>= fun z => match z.1 with | .nx => r z.2 | _ => .ok z
def sSet (i : Nat) (f : FE) : FS := fun S => f S >>= fun d => .ok (.nx, S.set i (some ⟨false, d⟩))
def sOwn (i : Nat) (f : FE) : FS := fun S => f S >>= fun d => .ok (.nx, S.set i (some ⟨true, d⟩))
def sDrop (f : FE) : FS := fun S => f S >>= fun _ => .ok (.nx, S)
def sRet (f : FE) : FS := fun S => f S >>= fun d => .ok (.rt d, S)
def sRetN : FS := fun S => .ok (.rt .non, S)
/-- a slot's own object handed back -/
def eO (i : Nat) : FE := fun S => match S[i]? with
  | some (some ⟨true, d⟩) => .ok d
  | _ => .fail
def sRetO (i : Nat) : FS := fun S => eO i S >>= fun d => .ok (.rt d, S)
def sIf (t : FT) (s r : FS) : FS := fun S => t S >>= fun b => if b then s S else r S
def sNo : FS := fun _ => .fail
/-- a slot's own object is frozen ahead of a statement -/
def fzS (S : Env) (i : Nat) : Env := match S[i]? with
  | some (some ⟨true, d⟩) => S.set i (some ⟨false, d⟩)
  | _ => S
def sFz (i : Nat) (s : FS) : FS := fun S => s (fzS S i)
theorem b_nil : PB' X c fr [] [] sNil := pssI pss_nil fun Dn σ H ⟨G, S, rel, p⟩ => p G σ H (Ex.refl _) rel (Frm.refl _ _ _ _)
theorem s_pass : PS' X c fr [] (.Pass pos) sNil := psI ps_pass fun Dn σ H ⟨G, S, rel, p⟩ => p G σ H (Ex.refl _) rel (Frm.refl _ _ _ _)
theorem s_brk : PS' X c fr [] (.Break pos) sBrk := psI ps_break fun Dn σ H ⟨G, S, rel, p⟩ => p G σ H (Ex.refl _) rel (Frm.refl _ _ _ _)
theorem s_cnt : PS' X c fr [] (.Continue pos) sCnt := psI ps_continue fun Dn σ H ⟨G, S, rel, p⟩ => p G σ H (Ex.refl _) rel (Frm.refl _ _ _ _)
theorem s_no : PS' X c fr [] st sNo := psI ps_never fun Dn σ H ⟨G, S, rel, p⟩ => p
theorem b_no : PB' X c fr [] sts sNo := pssI pss_never fun Dn σ H ⟨G, S, rel, p⟩ => p
theorem b_cons (h1 : PS' X c fr as st s) (h2 : PB' X c fr bs sts r) : PB' X c fr (as ++ bs) (st :: sts) (sSeq s r) :=
  pssI (pss_cons h1 h2) fun Dn σ H ⟨G, S, rel, p⟩ => ⟨G, S, rel, by
    have p : PostS c fr (as ++ bs) G S σ H Dn (s S >>= fun z => match z.1 with | .nx => r z.2 | _ => .ok z) := p
    cases e1 : s S with
    | exc x => rw [e1] at p; exact p
    | fail => rw [e1] at p; exact p
    | ok z =>
      rw [e1] at p
      obtain ⟨fl, S1⟩ := z
      cases fl with
      | nx => exact fun G1 σ1 H1 ex r1 f1 => ⟨G1, S1, r1, PostS.mv (as := as) (bs := bs) ex f1 (fun i => List.mem_append.mp) p⟩
      | bk => exact PostS.sub (fun i q => List.mem_append_left _ q) p
      | ct => exact PostS.sub (fun i q => List.mem_append_left _ q) p
      | rt d => exact p⟩
theorem b_one (h1 : PS' X c fr as st s) : PB' X c fr as [st] s := pss_one h1
theorem s_fz (i : Nat) (h1 : PS' X c fr as st s) : PS' X c fr (i :: as) st (sFz i s) :=
  psI h1 fun Dn σ H ⟨G, S, rel, p⟩ => by
    have p : PostS c fr (i :: as) G S σ H Dn (s (fzS S i)) := p
    unfold fzS at p
    split at p
    · rename_i d hd
      obtain ⟨G', ex, rel'⟩ := rel.frz hd
      refine ⟨G', _, rel', PostS.mv (as := [i]) (bs := as) ex ⟨rfl, fun _ _ => rfl, fun j hj _ => ?_, fun _ _ _ _ _ => rfl⟩ (fun j q => by simpa using q) p⟩
      rw [List.getElem?_set_ne (fun z => hj (by simp [z]))]
    · exact ⟨G, S, rel, PostS.sub (fun j q => List.mem_cons_of_mem _ q) p⟩
/-! ### targets -/
abbrev PG' (X : Cx) (c : Cf) (as : List Nat) (e : Expr) (g : FG) : Prop := PG X e (RdG c as g)
abbrev FGs := List D → Env → R Env
def RdGs (c : Cf) (as : List Nat) (g : FGs) : TGs := fun vs σ H Q => ∃ G S ds, Rel c G S σ H ∧ RDs c.k G ds vs ∧ PostG c as G S σ H Q (g ds S)
abbrev PGs' (X : Cx) (c : Cf) (as : List Nat) (e : List Expr) (g : FGs) : Prop := PGs X e (RdGs c as g)
def gN (i : Nat) : FG := fun d S => .ok (S.set i (some ⟨false, d⟩))
def gsN : FGs := fun ds S => match ds with | [] => .ok S | _ => .fail
def gsC (g : FG) (r : FGs) : FGs := fun ds S => match ds with | d :: ds => g d S >>= r ds | [] => .fail
def gT (n : Nat) (r : FGs) : FG := fun d S => match d with | .tup ds => if ds.length = n then r ds S else .fail | _ => .fail
theorem Frm.set {S : Env} {σ : St} {H : Hp} (i : Nat) (x : Option Sl) (v : Option V) : Frm [i] S σ H (S.set i x) (σ.set i v) H :=
  ⟨by simp, fun j hj => List.getElem?_set_ne (fun z => hj (by simp [z])), fun j hj _ => List.getElem?_set_ne (fun z => hj (by simp [z])), fun _ _ _ _ _ => rfl⟩
theorem g_n (i : Nat) {x : Str} (hN : X.N.Nodup) (hi : X.N[i]? = some x := by rfl) (hx : Loc X.env.scope x := by first | exact Or.inl rfl | exact Or.inr rfl) (hf : X.fn x = true ∨ X.env.scope.names.lookup x = some .local := by first | exact .inl rfl | exact .inr rfl) : PG' X c [i] (.Name x pos) (gN i) :=
  pgI (pg_name hN hi hx hf) fun v σ H Q ⟨G, S, d, rel, q, p⟩ => p G _ H (Step.refl rel.st.gh) (rel.setS i q) (Frm.set i _ _)
theorem gs_n : PGs' X c [] [] gsN :=
  pgsI pgs_nil fun vs σ H Q ⟨G, S, ds, rel, q, p⟩ => by
    cases q with
    | nil => exact ⟨rfl, p G σ H (Step.refl rel.st.gh) rel (Frm.refl _ _ _ _)⟩
    | cons _ _ => exact p.elim
theorem gs_c {e : Expr} {es : List Expr} {ga : FG} {ra : FGs} (h1 : PG' X c as e ga) (h2 : PGs' X c bs es ra) (hs : (assignEach (e :: es) X.env).map (·.2) = assign e X.env :: (assignEach es X.env).map (·.2) := by rfl) : PGs' X c (as ++ bs) (e :: es) (gsC ga ra) :=
  pgsI (pgs_cons h1 h2 hs) fun vs σ H Q ⟨G, S, ds, rel, q, p⟩ => by
    cases q with
    | nil => exact p.elim
    | @cons d ds v vs q1 q2 =>
      refine ⟨v, vs, rfl, G, S, d, rel, q1, ?_⟩
      have p : PostG c (as ++ bs) G S σ H Q (ga d S >>= ra ds) := p
      cases e1 : ga d S with
      | exc x => rw [e1] at p; exact p.elim
      | fail => rw [e1] at p; exact p.elim
      | ok S1 =>
        rw [e1] at p
        refine fun G1 σ1 H1 ex r1 f1 => ⟨G1, S1, ds, r1, q2.mono ex.g, ?_⟩
        have p : PostG c (as ++ bs) G S σ H Q (ra ds S1) := p
        cases e2 : ra ds S1 with
        | exc x => rw [e2] at p; exact p.elim
        | fail => rw [e2] at p; exact p.elim
        | ok S2 => rw [e2] at p; exact fun G2 σ2 H2 ex2 r2 f2 => p G2 σ2 H2 (ex.trans ex2) r2 (f1.trans f2)
theorem g_t {es : List Expr} {k : Nat} {ra : FGs} {n : Nat} (hk : c.k.K = X.K) (hc : X.calm = true) (h : PGs' X c as es ra) (hn : (assignEach es X.env).length = n := by rfl) (hst : (assignEach es X.env).findIdx? (·.1) = none := by rfl) : PG' X c as (.Tuple es k pos) (gT n ra) :=
  pgI (pg_tup hc h hn hst) fun v σ H Q ⟨G, S, d, rel, q, p⟩ => by
    cases q with
    | @tup ds a vs hs hr =>
      have p : PostG c as G S σ H Q (if ds.length = n then ra ds S else .fail) := p
      by_cases hl : ds.length = n
      · rw [if_pos hl] at p
        exact ⟨a, vs, rfl, hk ▸ rel.st.gh.sqT hs.t, by rw [← hr.length]; exact hl, G, S, ds, rel, hr, p⟩
      · rw [if_neg hl] at p; exact p.elim
    | _ => exact p.elim
/-! ### assignments, expressions, return -/
def sAsg (g : FG) (f : FE) : FS := fun S => f S >>= fun d => (g d S).nox >>= fun S' => .ok (Fl.nx, S')
theorem asg_go {ga : FG} {tg : TG} {Dn : Ends} {σ : St} {H : Hp} (hg : ∀ v σ H Q, RdG c as ga v σ H Q → tg v σ H Q) (q : RdS c fr as (sAsg ga f) Dn σ H) : RdE c .st f σ H fun x H1 => tg x σ H1 Dn.nx := by
  obtain ⟨G, S, rel, p⟩ := q
  refine rdE_go (g := fun d => (ga d S).nox >>= fun S' => .ok (Fl.nx, S')) (Post := PostS c fr as G S σ H Dn) rel p (fun _ z => z) (fun z => z) fun d v G' H' sp q p1 => ?_
  refine hg v σ H' _ ⟨G', S, d, rel.grow sp, q, ?_⟩
  cases e1 : ga d S with
  | exc x => rw [e1] at p1; exact p1.elim
  | fail => rw [e1] at p1; exact p1.elim
  | ok S1 =>
    rw [e1] at p1
    exact fun G2 σ2 H2 ex r2 f2 => p1 G2 σ2 H2 (sp.g.trans ex.g) r2 ((Frm.step (as := []) rel sp).trans f2)
theorem s_asg {tg : Expr} {ga : FG} (he : PE' X c .st e f) (hg : PG' X c as tg ga) (hs : swapsWithSole [tg] e pos.line X.env = pure false := by rfl) (hw : swappedStores [tg] e X.env = pure none := by rfl) (h1 : (assignEach [tg] X.env).map (·.2) = [assign tg X.env] := by rfl) : PS' X c fr as (.Assign [tg] e pos) (sAsg ga f) :=
  psI (ps_asg he hg hs hw h1) fun Dn σ H q => asg_go (fun _ _ _ _ z => z) q
theorem s_set (i : Nat) {x : Str} {pos' : Pos} (hN : X.N.Nodup) (he : PE' X c .st e f) (hi : X.N[i]? = some x := by rfl) (hx : Loc X.env.scope x := by first | exact Or.inl rfl | exact Or.inr rfl) (hs : swapsWith e (some (.Name x pos')) pos.line X.env = pure false := by rfl)
    (hf : X.fn x = true ∨ X.env.scope.names.lookup x = some .local := by first | exact .inl rfl | exact .inr rfl) : PS' X c fr [i] (.Assign [.Name x pos'] e pos) (sSet i f) :=
  psI (ps_set hN hi hx he hs hf) fun Dn σ H ⟨G, S, rel, p⟩ => by
    refine rdE_go (g := fun d => .ok (Fl.nx, S.set i (some ⟨false, d⟩))) (Post := PostS c fr [i] G S σ H Dn) rel p (fun _ z => z) (fun z => z) fun d v G' H' sp q p1 => ?_
    exact p1 G' _ H' sp.g ((rel.grow sp).setS i q) ((Frm.step (as := []) rel sp).trans (Frm.set i _ _))
/-- a new object goes to a slot that owns it -/
theorem own_go {i : Nat} {Dn : Ends} {σ : St} {H : Hp} (q : RdS c fr [i] (sOwn i f) Dn σ H) : RdE c .fr f σ H fun x H1 => gName i x σ H1 Dn.nx := by
  obtain ⟨G, S, rel, p⟩ := q
  refine rdE_go (g := fun d => .ok (Fl.nx, S.set i (some ⟨true, d⟩))) (Post := PostS c fr [i] G S σ H Dn) rel p (fun _ z => z) (fun z => z) fun d v G' H' sp q p1 => ?_
  obtain ⟨a, o, rfl, hg, hn, ha, ct⟩ := q
  refine p1 G' _ H' sp.g ((rel.grow sp).setO i ha hg (rel.st.h.free hn) ct (fun j ow => ?_) (fun _ _ => rfl)) ((Frm.step (as := []) rel sp).trans (Frm.set i _ _))
  obtain ⟨_, _, u, _, q, _⟩ := rel.own ow
  rw [hn] at q; cases q
theorem s_own (i : Nat) {x : Str} {pos' : Pos} (hN : X.N.Nodup) (he : PE' X c .fr e f) (hi : X.N[i]? = some x := by rfl) (hx : Loc X.env.scope x := by first | exact Or.inl rfl | exact Or.inr rfl) (hs : swapsWith e (some (.Name x pos')) pos.line X.env = pure false := by rfl)
    (hf : X.fn x = true ∨ X.env.scope.names.lookup x = some .local := by first | exact .inl rfl | exact .inr rfl) : PS' X c fr [i] (.Assign [.Name x pos'] e pos) (sOwn i f) :=
  psI (ps_set hN hi hx he hs hf) fun Dn σ H q => own_go q
theorem s_drop (he : PE' X c kd e f) (hs : swapsWith e none pos.line X.env = pure false := by rfl) : PS' X c fr [] (.Expr e pos) (sDrop f) :=
  psI (ps_expr he hs) fun Dn σ H ⟨G, S, rel, p⟩ => by
    refine rdE_go (g := fun d => .ok (Fl.nx, S)) (Post := PostS c fr [] G S σ H Dn) rel p (fun _ z => z) (fun z => z) fun d v G' H' sp q p1 => ?_
    exact p1 G' σ H' sp.g (rel.grow sp) (Frm.step rel sp)
theorem s_ret (he : PE' X c .st e f) : PS' X c false [] (.Return (some e) pos) (sRet f) :=
  psI (ps_ret he) fun Dn σ H ⟨G, S, rel, p⟩ => by
    refine rdE_go (g := fun d => .ok (Fl.rt d, S)) (Post := PostS c false [] G S σ H Dn) rel p (fun _ z => z) (fun z => z) fun d v G' H' sp q p1 => ?_
    exact p1 v G' H' (rel.st.trans sp) q
theorem s_retF (he : PE' X c .fr e f) : PS' X c true [] (.Return (some e) pos) (sRet f) :=
  psI (ps_ret he) fun Dn σ H ⟨G, S, rel, p⟩ => by
    refine rdE_go (g := fun d => .ok (Fl.rt d, S)) (Post := PostS c true [] G S σ H Dn) rel p (fun _ z => z) (fun z => z) fun d v G' H' sp q p1 => ?_
    obtain ⟨a, o, rfl, hg, hn, ha, ct⟩ := q
    exact p1 _ G' H' (rel.st.trans sp) ⟨a, o, rfl, hg, rel.st.h.free hn, ha, ct⟩
theorem s_retO (i : Nat) {x : Str} {p' : Pos} (hN : X.N[i]? = some x := by rfl) (hv : Vis X.env.scope x := by first | exact Or.inl rfl | exact Or.inr (Or.inl rfl) | exact Or.inr (Or.inr rfl)) (hd : (x == ("__debug__" : Str)) = false := by decide)
    (hcd : (x == ("__classdict__" : Str)) = false := by decide) : PS' X c true [] (.Return (some (.Name x p')) pos) (sRetO i) :=
  psI (ps_ret (pe_var hN hv hd hcd)) fun Dn σ H ⟨G, S, rel, p⟩ => by
    have p : PostS c true [] G S σ H Dn (eO i S >>= fun d => .ok (.rt d, S)) := p
    unfold eO at p
    split at p
    · rename_i d hd
      obtain ⟨a, o, e1, hg, h0, ho, ct⟩ := rel.ow i d hd
      exact ⟨_, e1, p _ G H rel.st ⟨a, o, rfl, hg, h0, ho, ct⟩⟩
    · exact p.elim
theorem s_retN : PS' X c false [] (.Return none pos) sRetN :=
  psI ps_retN fun Dn σ H ⟨G, S, rel, p⟩ => p .non G H rel.st .non
theorem s_if {cc : Expr} {aa bb : List Stmt} (hc : PT' X c cc t) (ha : PB' X c fr as aa s) (hb : PB' X c fr bs bb r) : PS' X c fr (as ++ bs) (.If cc aa bb pos) (sIf t s r) :=
  psI (ps_if hc ha hb) fun Dn σ H ⟨G, S, rel, p⟩ => rdT_go (g := fun b => if b then s S else r S) (Post := PostS c fr (as ++ bs) G S σ H Dn) rel p (fun _ z => z) (fun z => z) fun b G' H' sp p1 => by
    cases b with
    | true => exact ⟨G', S, rel.grow sp, PostS.sub (fun i q => List.mem_append_left _ q) (PostS.gr rel sp p1)⟩
    | false => exact ⟨G', S, rel.grow sp, PostS.sub (fun i q => List.mem_append_right _ q) (PostS.gr rel sp p1)⟩
/-! ### while -/
def whileF (t : FT) (s : FS) : Nat → FS
  | 0 => fun _ => .fail
  | n + 1 => fun S => t S >>= fun b => if b then s S >>= fun z => match z.1 with
    | .nx => whileF t s n z.2
    | .ct => whileF t s n z.2
    | .bk => .ok (.nx, z.2)
    | .rt d => .ok (.rt d, z.2) else .ok (.nx, S)
theorem s_while (n : Nat) {cc : Expr} {body : List Stmt} (hp : PassesOwn (model X.prog X.w) X.A X.env X.xe) (hc : PT' X c cc t) (hb : PB' X c fr as body s) : PS' X c fr as (.While cc body [] pos) (whileF t s n) :=
  psI (ps_while hp hc hb) fun Dn σ H ⟨G, S, rel, p⟩ => by
    refine ⟨fun m σ1 H1 => ∃ G1 S1, Rel c G1 S1 σ1 H1 ∧ Ex G G1 ∧ Frm as S σ H S1 σ1 H1 ∧ PostS c fr as G S σ H Dn (whileF t s m S1), ⟨n, G, S, rel, Ex.refl _, Frm.refl _ _ _ _, p⟩, ?_⟩
    rintro m σ1 H1 ⟨G1, S1, r1, ex1, f1, p1⟩
    cases m with
    | zero => exact p1.elim
    | succ m =>
      refine rdT_go (g := fun b => if b then s S1 >>= fun z => match z.1 with
        | .nx => whileF t s m z.2
        | .ct => whileF t s m z.2
        | .bk => .ok (.nx, z.2)
        | .rt d => .ok (.rt d, z.2) else .ok (.nx, S1)) (Post := PostS c fr as G S σ H Dn) r1 p1 (fun _ z => z) (fun z => z) fun b G2 H2 sp p2 => ?_
      have f2 : Frm as S σ H S1 σ1 H2 := (f1.trans (Frm.step (as := []) r1 sp)).mono (fun i q => by simpa using q)
      cases b with
      | false => exact p2 G2 σ1 H2 (ex1.trans sp.g) (r1.grow sp) f2
      | true =>
        rw [if_pos rfl] at p2 ⊢
        refine ⟨fun σ' H' => ∃ G3 S3, Rel c G3 S3 σ' H' ∧ Ex G G3 ∧ Frm as S σ H S3 σ' H' ∧ PostS c fr as G S σ H Dn (whileF t s m S3), fun σ' H' q => ⟨m, Nat.lt_succ_self m, q⟩, G2, S1, r1.grow sp, ?_⟩
        cases e1 : s S1 with
        | exc x => rw [e1] at p2; exact p2
        | fail => rw [e1] at p2; exact p2
        | ok z =>
          rw [e1] at p2
          obtain ⟨fl, S3⟩ := z
          have fin : ∀ {σ3 : St} {H3 : Hp}, Frm as S1 σ1 H2 S3 σ3 H3 → Frm as S σ H S3 σ3 H3 := fun f3 => (f2.trans f3).mono (fun i q => by simpa using q)
          cases fl with
          | nx => exact fun G3 σ3 H3 e3 r3 f3 => ⟨G3, S3, r3, (ex1.trans sp.g).trans e3, fin f3, p2⟩
          | ct => exact fun G3 σ3 H3 e3 r3 f3 => ⟨G3, S3, r3, (ex1.trans sp.g).trans e3, fin f3, p2⟩
          | bk => exact fun G3 σ3 H3 e3 r3 f3 => p2 G3 σ3 H3 ((ex1.trans sp.g).trans e3) r3 (fin f3)
          | rt d => exact p2
/-! ### what is walked -/
/-- the iterator J gives the items ds, while the slots ki keep what they own -/
def Itm (k : Kn) (ki : List Nat) (G1 : Hp) (S : Env) (σ : St) (H1 : Hp) (J : It) (ds : List D) : Prop :=
  ∀ G H, Ex G1 G → Ex G H → (∀ i, i ∈ ki → ∀ a, OwnAt S σ i a → H a = H1 a) → (∀ i : Nat, ds.length ≤ i → J.stop i H) ∧ ∀ (i : Nat) (d : D), ds[i]? = some d → J.go i H ∧ ∀ x H', J.yld i H x H' → ∃ G', Step G H G' H' ∧ RD k G' d x
abbrev FI := Env → R (List D)
def PostI (c : Cf) (ki : List Nat) (G : Hp) (S : Env) (σ : St) (H : Hp) (Q : It → Hp → Prop) : R (List D) → Prop
  | .ok ds => ∀ J G' H', Step G H G' H' → Itm c.k ki G' S σ H' J ds → Q J H'
  | .exc x => PX c x
  | .fail => False
def RdI (c : Cf) (ki : List Nat) (f : FI) : TI := fun σ H Q => ∃ G S, Rel c G S σ H ∧ PostI c ki G S σ H Q (f S)
abbrev PI' (X : Cx) (c : Cf) (ki : List Nat) (tg e : Expr) (f : FI) : Prop := PI X tg e (RdI c ki f)
/-- a for's turns -/
def forF (g : FG) (s : FS) : List D → FS
  | [] => fun S => .ok (.nx, S)
  | d :: ds => fun S => (g d S).nox >>= fun S1 => s S1 >>= fun z => match z.1 with
    | .nx => forF g s ds z.2
    | .ct => forF g s ds z.2
    | .bk => .ok (.nx, z.2)
    | .rt d => .ok (.rt d, z.2)
def sFor (i : FI) (g : FG) (s : FS) : FS := fun S => i S >>= fun ds => forF g s ds S
theorem s_for {tg iter : Expr} {body : List Stmt} {ki gs : List Nat} {fi : FI} {ga : FG} (hp : PassesOwn (model X.prog X.w) X.A X.env X.xe) (hc : X.calm = true) (hi : PI' X c ki tg iter fi) (hg : PG' X c gs tg ga) (hb : PB' X c fr as body s)
    (hki : ∀ i, i ∈ ki → i ∉ gs ++ as ∧ i + 1000 ∉ gs ++ as := by decide) (hs : ∀ x, foldedSetIterable iter X.env x = pure x := by intro _; rfl) : PS' X c fr (gs ++ as) (.For tg iter body [] pos) (sFor fi ga s) :=
  psI (ps_for hp hc hi hg hb hs) fun Dn σ H ⟨G, S, rel, p⟩ => by
    refine ⟨G, S, rel, ?_⟩
    have p : PostS c fr (gs ++ as) G S σ H Dn (fi S >>= fun ds => forF ga s ds S) := p
    cases e0 : fi S with
    | exc x => rw [e0] at p; exact p
    | fail => rw [e0] at p; exact p
    | ok ds =>
      rw [e0] at p
      have p : PostS c fr (gs ++ as) G S σ H Dn (forF ga s ds S) := p
      intro J G0 H0 sp it
      refine ⟨fun i m σ1 H1 => m = ds.length - i ∧ i ≤ ds.length ∧ ∃ G1 S1, Rel c G1 S1 σ1 H1 ∧ Ex G0 G1 ∧ Frm (gs ++ as) S σ H0 S1 σ1 H1 ∧ PostS c fr (gs ++ as) G S σ H Dn (forF ga s (ds.drop i) S1),
        ⟨_, rfl, Nat.zero_le _, G0, S, rel.grow sp, Ex.refl _, Frm.refl _ _ _ _, by simpa using p⟩, ?_⟩
      rintro i m σ1 H1 ⟨rfl, hle, G1, S1, r1, ex1, f1, p1⟩
      have keep : ∀ j, j ∈ ki → ∀ a, OwnAt S σ j a → H1 a = H0 a := fun j hj a ow => f1.ow j a (hki j hj).1 (hki j hj).2 ow
      have itm := it G1 H1 ex1 r1.st.gh keep
      have fm : Frm (gs ++ as) S σ H S1 σ1 H1 := ((Frm.step (as := []) rel sp).trans f1).mono (fun i q => by simpa using q)
      by_cases hlt : i < ds.length
      · obtain ⟨d, hd⟩ : ∃ d, ds[i]? = some d := ⟨ds[i], List.getElem?_eq_getElem hlt⟩
        have hdrop : ds.drop i = d :: ds.drop (i + 1) := by
          rw [List.drop_eq_getElem_cons hlt]; congr 1; rw [List.getElem?_eq_getElem hlt] at hd; exact Option.some.inj hd
        rw [hdrop] at p1
        obtain ⟨hgo, hy⟩ := itm.2 i d hd
        refine .inr ⟨hgo, fun σ' H' => ∃ G3 S3, Rel c G3 S3 σ' H' ∧ Ex G0 G3 ∧ Frm (gs ++ as) S σ H0 S3 σ' H' ∧ PostS c fr (gs ++ as) G S σ H Dn (forF ga s (ds.drop (i + 1)) S3), fun σ' H' q => ⟨ds.length - (i + 1), by omega, rfl, hlt, q⟩, fun x H2 hx => ?_⟩
        obtain ⟨G2, sp2, hd2⟩ := hy x H2 hx
        refine ⟨G2, S1, d, r1.grow sp2, hd2, ?_⟩
        have p1 : PostS c fr (gs ++ as) G S σ H Dn ((ga d S1).nox >>= fun S1 => s S1 >>= fun z => match z.1 with
          | .nx => forF ga s (ds.drop (i + 1)) z.2
          | .ct => forF ga s (ds.drop (i + 1)) z.2
          | .bk => .ok (.nx, z.2)
          | .rt d => .ok (.rt d, z.2)) := p1
        cases e1 : ga d S1 with
        | exc x => rw [e1] at p1; exact p1.elim
        | fail => rw [e1] at p1; exact p1.elim
        | ok S2 =>
          rw [e1] at p1
          refine fun G3 σ3 H3 e3 r3 f3 => ⟨G3, S2, r3, ?_⟩
          have f03 : Frm (gs ++ as) S σ H0 S2 σ3 H3 := (f1.trans ((Frm.step (as := []) r1 sp2).trans f3)).mono (fun i q => by simp only [List.mem_append, List.not_mem_nil, false_or] at q ⊢; rcases q with q | q; exact q; exact .inl q)
          have p1 : PostS c fr (gs ++ as) G S σ H Dn (s S2 >>= fun z => match z.1 with
            | .nx => forF ga s (ds.drop (i + 1)) z.2
            | .ct => forF ga s (ds.drop (i + 1)) z.2
            | .bk => .ok (.nx, z.2)
            | .rt d => .ok (.rt d, z.2)) := p1
          have g03 : Ex G0 G3 := (ex1.trans sp2.g).trans e3.g
          cases e2 : s S2 with
          | exc x => rw [e2] at p1; exact p1
          | fail => rw [e2] at p1; exact p1
          | ok z =>
            rw [e2] at p1
            obtain ⟨fl, S4⟩ := z
            have fin : ∀ {σ4 : St} {H4 : Hp}, Frm as S2 σ3 H3 S4 σ4 H4 → Frm (gs ++ as) S σ H0 S4 σ4 H4 := fun f4 => (f03.trans f4).mono (fun i q => by simp only [List.mem_append] at q ⊢; rcases q with q | q; exact q; exact .inr q)
            have fin2 : ∀ {σ4 : St} {H4 : Hp}, Frm as S2 σ3 H3 S4 σ4 H4 → Frm (gs ++ as) S σ H S4 σ4 H4 := fun f4 => ((Frm.step (as := []) rel sp).trans (fin f4)).mono (fun i q => by simpa using q)
            cases fl with
            | nx => exact fun G4 σ4 H4 e4 r4 f4 => ⟨G4, S4, r4, g03.trans e4, fin f4, p1⟩
            | ct => exact fun G4 σ4 H4 e4 r4 f4 => ⟨G4, S4, r4, g03.trans e4, fin f4, p1⟩
            | bk => exact fun G4 σ4 H4 e4 r4 f4 => p1 G4 σ4 H4 ((sp.g.trans g03).trans e4) r4 (fin2 f4)
            | rt d => exact p1
      · have hi : i = ds.length := by omega
        subst hi
        rw [List.drop_length] at p1
        exact .inl ⟨itm.1 _ (Nat.le_refl _), p1 G1 σ1 H1 (sp.g.trans ex1) r1 fm⟩
end
end M
set_option Elab.async false
set_option linter.all false
set_option maxRecDepth 100000
set_option maxHeartbeats 4000000
namespace M
open PySem L2
section
variable {X : Cx} {c : Cf} {kd k1 k2 k3 : Kd} {a b e tg : Expr} {f g h : FE} {t u : FT} {pos : Pos} {fr : Bool} {as bs : List Nat} {s r : FS}
/-! ### sequences walked -/
def chrs (x : Str) : List D := x.cps.toList.map fun n => .str ⟨#[n]⟩
def itemsD : D → R (List D)
  | .lst ds => .ok ds
  | .tup ds => .ok ds
  | .scr ns => .ok (ns.map .int)
  | .str x => .ok (chrs x)
  | _ => .fail
theorem itm_list {k : Kn} {ki : List Nat} {G1 H1 : Hp} {S : Env} {σ : St} {K : PySem.W.Frag} {ds : List D} {vs : List V} {p : Addr} (hr : RDs k G1 ds vs) (hs : ∀ G H, Ex G1 G → Ex G H → (∀ i, i ∈ ki → ∀ a, OwnAt S σ i a → H a = H1 a) → SqL K H p vs)
    : Itm k ki G1 S σ H1 (Itl K p) ds := fun G H e1 e2 kp => by
  have q := hs G H e1 e2 kp
  refine ⟨fun i hi => ⟨vs, q, by rw [← hr.length]; exact hi⟩, fun i d hd => ?_⟩
  obtain ⟨v, hv, r⟩ := (hr.mono e1).get hd
  refine ⟨⟨vs, v, q, hv⟩, fun x H' hx => ?_⟩
  obtain ⟨rfl, hy⟩ := hx
  have := hy vs q
  rw [hv] at this; cases this
  exact ⟨G, Step.refl e2, r⟩
theorem itm_tup {k : Kn} {ki : List Nat} {G1 H1 : Hp} {S : Env} {σ : St} {K : PySem.W.Frag} {ds : List D} {vs : List V} {p : Addr} (hr : RDs k G1 ds vs) (hs : SqT K G1 p vs) : Itm k ki G1 S σ H1 (Itt K p) ds := fun G H e1 e2 kp => by
  have q := e2.sqT (e1.sqT hs)
  refine ⟨fun i hi => ⟨vs, q, by rw [← hr.length]; exact hi⟩, fun i d hd => ?_⟩
  obtain ⟨v, hv, r⟩ := (hr.mono e1).get hd
  refine ⟨⟨vs, v, q, hv⟩, fun x H' hx => ?_⟩
  obtain ⟨rfl, hy⟩ := hx
  have := hy vs q
  rw [hv] at this; cases this
  exact ⟨G, Step.refl e2, r⟩
theorem itm_str {k : Kn} {ki : List Nat} {G1 H1 : Hp} {S : Env} {σ : St} (x : Str) : Itm k ki G1 S σ H1 (Its x) (chrs x) := fun G H e1 e2 kp => by
  refine ⟨fun i hi => ?_, fun i d hd => ?_⟩
  · show x.cps.size ≤ i
    simpa [chrs] using hi
  · unfold chrs at hd
    rw [List.getElem?_map] at hd
    cases q : x.cps.toList[i]? with
    | none => rw [q] at hd; cases hd
    | some n =>
      rw [q] at hd; cases hd
      have q' : x.cps[i]? = some n := by simpa using q
      refine ⟨?_, fun y H' hy => ?_⟩
      · have := (Array.getElem?_eq_some_iff.mp q').1
        exact this
      · obtain ⟨e3, n', q2, e4⟩ := hy
        subst e3; subst e4
        rw [q'] at q2; cases q2
        exact ⟨G, Step.refl e2, .str _⟩
/-- a value of any of these kinds -/
theorem i_seq (hk : c.k.K = X.K) (he : PE' X c .st e f) : PI' X c [] tg e (fun S => f S >>= itemsD) := by
  refine ⟨fun pins st σ H Rq I q => ?_⟩
  obtain ⟨G, S, rel, p⟩ := q
  have p : PostI c [] G S σ H Rq (f S >>= itemsD) := p
  cases e1 : f S with
  | exc x => exact (pi_list he).run pins st σ H Rq I ⟨G, S, rel, by rw [e1] at p ⊢; exact p⟩
  | fail => rw [e1] at p; exact p.elim
  | ok d =>
    rw [e1] at p
    cases d with
    | lst ds =>
      refine (pi_list he).run pins st σ H Rq I ⟨G, S, rel, ?_⟩
      rw [e1]
      intro v G' H' sp q
      cases q with
      | lst h r => exact ⟨_, rfl, ⟨_, SqL.of (sp.gh _ _ h)⟩, p _ G' H' sp (itm_list r fun G2 H2 a1 a2 _ => SqL.of (a2 _ _ (a1 _ _ h)))⟩
    | scr ns =>
      refine (pi_list he).run pins st σ H Rq I ⟨G, S, rel, ?_⟩
      rw [e1]
      intro v G' H' sp q
      cases q with
      | scr h => exact ⟨_, rfl, ⟨_, hk ▸ sp.gh.sqL h⟩, p _ G' H' sp (itm_list (RDs.ints ns) fun G2 H2 a1 a2 _ => hk ▸ a2.sqL (a1.sqL h))⟩
    | tup ds =>
      refine (pi_tup he).run pins st σ H Rq I ⟨G, S, rel, ?_⟩
      rw [e1]
      intro v G' H' sp q
      cases q with
      | tup h r => exact ⟨_, rfl, ⟨_, hk ▸ sp.gh.sqT h.t⟩, p _ G' H' sp (itm_tup r (hk ▸ h.t))⟩
    | str x =>
      refine (pi_str he).run pins st σ H Rq I ⟨G, S, rel, ?_⟩
      rw [e1]
      intro v G' H' sp q
      cases q with
      | str => exact ⟨_, rfl, p _ G' H' sp (itm_str x)⟩
    | _ => exact p.elim
/-- a slot's own list -/
theorem i_own (i : Nat) {x : Str} (hN : X.N[i]? = some x := by rfl) (hv : Vis X.env.scope x := by first | exact Or.inl rfl | exact Or.inr (Or.inl rfl) | exact Or.inr (Or.inr rfl)) (hd : (x == ("__debug__" : Str)) = false := by decide)
    (hcd : (x == ("__classdict__" : Str)) = false := by decide) : PI' X c [i] tg (.Name x pos) (fun S => eO i S >>= itemsD) :=
  piI (pi_list (pe_var hN hv hd hcd)) fun σ H Rq ⟨G, S, rel, p⟩ => by
    have p : PostI c [i] G S σ H Rq (eO i S >>= itemsD) := p
    unfold eO at p
    split at p
    · rename_i d hd
      obtain ⟨a, o, e1, hg, h0, ho, ct⟩ := rel.ow i d hd
      cases ct with
      | lst r =>
        refine ⟨_, e1, a, rfl, ⟨_, SqL.of ho⟩, p _ G H (Step.refl rel.st.gh) (itm_list r fun G2 H2 a1 a2 kp => SqL.of ?_)⟩
        rw [kp i (by simp) a ⟨⟨_, hd⟩, e1⟩]; exact ho
      | _ => exact p.elim
    · exact p.elim
/-! ### ranges -/
def rngL (lo : Int) (n : Nat) : List D := (List.range n).map fun (i : Nat) => .int (lo + i)
def rng1 : List D → R (List D)
  | [.int j] => if -(2 ^ 62) ≤ j ∧ j < 2 ^ 62 then .ok (rngL 0 j.toNat) else .fail
  | _ => .fail
def rng2 : List D → R (List D)
  | [.int i, .int j] => if -(2 ^ 62) ≤ i ∧ i < 2 ^ 62 ∧ -(2 ^ 62) ≤ j ∧ j < 2 ^ 62 then .ok (rngL i (j - i).toNat) else .fail
  | _ => .fail
theorem itm_rng {k : Kn} {ki : List Nat} {G1 H1 : Hp} {S : Env} {σ : St} (lo : Int) (n : Nat) : Itm k ki G1 S σ H1 (Itr lo n) (rngL lo n) := fun G H e1 e2 kp => by
  refine ⟨fun i hi => (by simpa [rngL] using hi : n ≤ i), fun i d hd => ?_⟩
  unfold rngL at hd
  rw [List.getElem?_map] at hd
  have hi : i < n := by
    rcases Nat.lt_or_ge i n with z | z
    · exact z
    · rw [List.getElem?_eq_none (by simpa using z)] at hd; cases hd
  rw [List.getElem?_range hi] at hd
  cases hd
  refine ⟨hi, fun x H' hx => ?_⟩
  obtain ⟨rfl, rfl⟩ := hx
  exact ⟨G, Step.refl e2, .int _⟩
theorem i_rng1 {p : Pos} {fa : FA} {ba : Bool} (hm : X.mg "range" = none) (ha : PA' X c ba [a] fa) (hg : Gl X "range" := by rfl) (hs : starEach [a] X.env = [(false, eval a X.env)] := by rfl) : PI' X c [] tg (.Call (.Name "range" p) [a] [] pos) (fun S => fa S >>= rng1) :=
  piI (pi_range1 hg hm ha hs) fun σ H Rq ⟨G, S, rel, p⟩ => by
    refine rdA_go (g := rng1) (Post := PostI c [] G S σ H Rq) rel p (fun _ z => z) (fun z => z) fun ds vs G' H' sp q p1 => ?_
    rcases ds with _ | ⟨d1, _ | ⟨d2, dr⟩⟩
    · exact p1.elim
    · cases d1 with
      | int j =>
        have p1 : PostI c [] G S σ H Rq (if -(2 ^ 62) ≤ j ∧ j < 2 ^ 62 then .ok (rngL 0 j.toNat) else .fail) := p1
        cases q.nows with
        | cons n1 n2 =>
          cases n2
          obtain rfl := n1.int
          by_cases hj : -(2 ^ 62) ≤ j ∧ j < 2 ^ 62
          · rw [if_pos hj] at p1
            exact ⟨j, rfl, hj.1, hj.2, p1 _ G' H' sp (itm_rng 0 _)⟩
          · rw [if_neg hj] at p1; exact p1.elim
      | _ => exact p1.elim
    · cases d1 <;> exact p1.elim
theorem i_rng2 {p : Pos} {fa : FA} {ba : Bool} (hm : X.mg "range" = none) (ha : PA' X c ba [a, b] fa) (hg : Gl X "range" := by rfl) (hs : starEach [a, b] X.env = [(false, eval a X.env), (false, eval b X.env)] := by rfl) (hs2 : starEach [b] X.env = [(false, eval b X.env)] := by rfl) :
    PI' X c [] tg (.Call (.Name "range" p) [a, b] [] pos) (fun S => fa S >>= rng2) :=
  piI (pi_range2 hg hm ha hs hs2) fun σ H Rq ⟨G, S, rel, p⟩ => by
    refine rdA_go (g := rng2) (Post := PostI c [] G S σ H Rq) rel p (fun _ z => z) (fun z => z) fun ds vs G' H' sp q p1 => ?_
    rcases ds with _ | ⟨d1, _ | ⟨d2, _ | ⟨d3, dr⟩⟩⟩
    · exact p1.elim
    · cases d1 <;> exact p1.elim
    · cases d1 with
      | int i =>
        cases d2 with
        | int j =>
          have p1 : PostI c [] G S σ H Rq (if -(2 ^ 62) ≤ i ∧ i < 2 ^ 62 ∧ -(2 ^ 62) ≤ j ∧ j < 2 ^ 62 then .ok (rngL i (j - i).toNat) else .fail) := p1
          cases q.nows with
          | cons n1 n2 =>
            cases n2 with
            | cons n2 n3 =>
              cases n3
              obtain rfl := n1.int
              obtain rfl := n2.int
              by_cases hj : -(2 ^ 62) ≤ i ∧ i < 2 ^ 62 ∧ -(2 ^ 62) ≤ j ∧ j < 2 ^ 62
              · rw [if_pos hj] at p1
                exact ⟨i, j, rfl, hj, p1 _ G' H' sp (itm_rng i _)⟩
              · rw [if_neg hj] at p1; exact p1.elim
        | _ => exact p1.elim
      | _ => exact p1.elim
    · cases d1 <;> first | exact p1.elim | (cases d2 <;> exact p1.elim)
/-! ### comprehensions -/
theorem Rel.cw {c : Cf} {W : XK} {G H : Hp} {S : Env} {σ : St} (r : Rel c G S σ H) : Rel { c with W := W } G S σ H := ⟨r.st, r.len, r.fz, r.ow, r.nd⟩
theorem wipe_in {i : Nat} : ∀ {vs : List Nat} {σ : St}, i ∈ vs → i < σ.length → (L2.wipe σ vs)[i]? = some none
  | v :: vs, σ, hm, hi => by
    unfold L2.wipe
    by_cases h : v = i
    · subst h; rw [List.getElem?_set_self (by rw [wipe_length]; exact hi)]
    · rw [List.getElem?_set_ne h]
      exact wipe_in (by rcases List.mem_cons.mp hm with z | z; exact absurd z.symm h; exact z) hi
theorem wipe_eq {vs : List Nat} {σ σ' : St} (hl : σ'.length = σ.length) (h : ∀ (i : Nat), i ∉ vs → σ'[i]? = (L2.wipe σ vs)[i]?) : L2.wipe σ' vs = L2.wipe σ vs := by
  apply List.ext_getElem?
  intro i
  by_cases hm : i ∈ vs
  · by_cases hi : i < σ.length
    · rw [wipe_in hm hi, wipe_in hm (by rw [hl]; exact hi)]
    · rw [List.getElem?_eq_none (by rw [wipe_length, hl]; omega), List.getElem?_eq_none (by rw [wipe_length]; omega)]
  · rw [wipe_out hm, h i hm]
/-- the block's frame: nothing is raised -/
abbrev Cf.nx (c : Cf) : Cf := { c with W := E0 }
abbrev PTs' (X : Cx) (c : Cf) (ifs : List Expr) (t : FT) : Prop := PTs X ifs (RdT c t)
def tY : FT := fun _ => .ok true
theorem ts_n : PTs' X c [] tY := ptsI pts_nil fun σ H Q ⟨G, S, rel, p⟩ => p G H (Step.refl rel.st.gh)
theorem ts_1 (h : PT' X c a t) : PTs' X c [a] t := pts_one h
def lcF (ga : FG) (t : FT) (fe : FE) (S : Env) : List D → R (List D)
  | [] => .ok []
  | d :: ds => (ga d S).nox >>= fun S1 => (t S1).nox >>= fun b => if b then (fe S1).nox >>= fun y => lcF ga t fe S ds >>= fun ys => .ok (y :: ys) else lcF ga t fe S ds
def lcE (fi : FI) (ga : FG) (t : FT) (fe : FE) (vs : List Nat) : FE := fun S => fi S >>= fun ds => if ds.length ≤ sizeLine then lcF ga t fe (wipeS S vs) ds >>= fun ys => .ok (.lst ys) else .fail
theorem lcF_exc {ga : FG} {t : FT} {fe : FE} {S : Env} {x : Exc} : ∀ ds, lcF ga t fe S ds ≠ .exc x
  | [] => by intro h; cases h
  | d :: ds => by
    intro h
    unfold lcF at h
    cases e1 : ga d S <;> rw [e1] at h <;> first | (cases h; done) | skip
    simp only [R.nox_ok, R.ok_bind] at h
    rename_i S1
    cases e2 : t S1 <;> rw [e2] at h <;> first | (cases h; done) | skip
    simp only [R.nox_ok, R.ok_bind] at h
    rename_i b
    cases b with
    | false => exact lcF_exc ds h
    | true =>
      rw [if_pos rfl] at h
      cases e3 : fe S1 <;> rw [e3] at h <;> first | (cases h; done) | skip
      simp only [R.nox_ok, R.ok_bind] at h
      cases e4 : lcF ga t fe S ds with
      | ok ys => rw [e4] at h; cases h
      | exc y => exact lcF_exc ds e4
      | fail => rw [e4] at h; cases h
theorem lc_go {ki gs vs : List Nat} {fi : FI} {ga : FG} {fe : FE} {σ : St} {H : Hp} {Q : VK} {gi : TG} {tt : TT} {te : TE} (hg : ∀ v σ H Q, RdG c.nx gs ga v σ H Q → gi v σ H Q) (ht : ∀ σ H Q, RdT c.nx t σ H Q → tt σ H Q) (he : ∀ σ H Q, RdE c.nx .st fe σ H Q → te σ H Q)
    (hgs : ∀ i, i ∈ gs → i ∈ vs) (q : RdE c .fr (lcE fi ga t fe vs) σ H Q) : tLc (RdI c ki fi) gi tt te vs σ H Q := by
  obtain ⟨G, S, rel, p⟩ := q
  refine ⟨G, S, rel, ?_⟩
  have p : PostE c .fr G S σ H Q (fi S >>= fun ds => if ds.length ≤ sizeLine then lcF ga t fe (wipeS S vs) ds >>= fun ys => .ok (.lst ys) else .fail) := p
  cases e0 : fi S with
  | exc x => rw [e0] at p; exact p
  | fail => rw [e0] at p; exact p
  | ok ds =>
    rw [e0, R.ok_bind] at p
    by_cases hz : ds.length ≤ sizeLine
    · rw [if_pos hz] at p
      intro J G1 H1 sp it Dl hD
      have relb := ((rel.grow sp).wipe vs).cw (W := E0)
      have hD0 : H Dl = none := sp.h.free hD
      refine ⟨fun i m H2 => m = ds.length - i ∧ i ≤ ds.length ∧ ∃ G2 ac av, Step G1 H1 G2 H2 ∧ G2 Dl = none ∧ H2 Dl = some (.lst av) ∧ RDs c.k G2 ac av ∧ ac.length ≤ i ∧
          PostE c .fr G S σ H Q (lcF ga t fe (wipeS S vs) (ds.drop i) >>= fun ys => .ok (.lst (ac ++ ys))),
        ⟨_, rfl, Nat.zero_le _, G1, [], [], Step.new' sp.gh hD, sp.gh.free hD, upd_same, .nil, Nat.zero_le _, by simpa using p⟩, ?_⟩
      rintro i m H2 ⟨rfl, hle, G2, ac, av, sp2, hGD, hHD, hr, hal, p2⟩
      have rel2 : Rel c.nx G2 (wipeS S vs) (L2.wipe σ vs) H2 := relb.grow sp2
      have itm := it G2 H2 sp2.g sp2.gh fun j hj x ow => by
        obtain ⟨_, _, o, _, ho, _⟩ := (rel.grow sp).own ow
        rw [ho, sp2.h _ _ ho]
      by_cases hlt : i < ds.length
      · obtain ⟨d, hd⟩ : ∃ d, ds[i]? = some d := ⟨ds[i], List.getElem?_eq_getElem hlt⟩
        have hdrop : ds.drop i = d :: ds.drop (i + 1) := by
          rw [List.drop_eq_getElem_cons hlt]; congr 1; rw [List.getElem?_eq_getElem hlt] at hd; exact Option.some.inj hd
        rw [hdrop] at p2
        obtain ⟨hgo, hy⟩ := itm.2 i d hd
        refine .inr ⟨hgo, fun H' => ∃ G3 ac av, Step G1 H1 G3 H' ∧ G3 Dl = none ∧ H' Dl = some (.lst av) ∧ RDs c.k G3 ac av ∧ ac.length ≤ i + 1 ∧
          PostE c .fr G S σ H Q (lcF ga t fe (wipeS S vs) (ds.drop (i + 1)) >>= fun ys => .ok (.lst (ac ++ ys))), fun H' ⟨G3, r3⟩ => ⟨_, by omega, rfl, hlt, G3, r3⟩, fun x H3 hx => ?_⟩
        obtain ⟨G3, sp3, hd3⟩ := hy x H3 hx
        refine hg x _ H3 _ ⟨G3, wipeS S vs, d, rel2.grow sp3, hd3, ?_⟩
        unfold lcF at p2
        cases e1 : ga d (wipeS S vs) with
        | exc x => rw [e1] at p2; exact p2.elim
        | fail => rw [e1] at p2; exact p2.elim
        | ok S1 =>
          rw [e1, R.nox_ok, R.ok_bind] at p2
          intro G4 σ4 H4 sp4 rel4 f4
          refine ⟨wipe_eq (by rw [f4.len, wipe_length]) fun j hj => f4.sg j fun z => hj (hgs j z), ht σ4 H4 _ ⟨G4, S1, rel4, ?_⟩⟩
          cases e2 : t S1 with
          | exc x => rw [e2] at p2; exact p2.elim
          | fail => rw [e2] at p2; exact p2.elim
          | ok b =>
            rw [e2, R.nox_ok, R.ok_bind] at p2
            intro G5 H5 sp5
            have spA : Step G2 H2 G5 H5 := (sp3.trans sp4).trans sp5
            have nD : ∀ {G6 H6 : Hp}, Step G2 H2 G6 H6 → G6 Dl = none ∧ H6 Dl = some (.lst av) := fun {G6 H6} z => by
              refine ⟨?_, z.h _ _ hHD⟩
              cases q : G6 Dl with
              | none => rfl
              | some o =>
                rcases z.gr _ _ q with w | w
                · rw [hGD] at w; cases w
                · rw [hHD] at w; cases w
            cases b with
            | false =>
              rw [if_neg Bool.false_ne_true] at p2 ⊢
              exact ⟨G5, ac, av, sp2.trans spA, (nD spA).1, (nD spA).2, hr.mono spA.g, by omega, p2⟩
            | true =>
              rw [if_pos rfl] at p2 ⊢
              refine he σ4 H5 _ ⟨G5, S1, rel4.grow sp5, ?_⟩
              cases e3 : fe S1 with
              | exc x => rw [e3] at p2; exact p2.elim
              | fail => rw [e3] at p2; exact p2.elim
              | ok y =>
                rw [e3, R.nox_ok, R.ok_bind] at p2
                intro v G6 H6 sp6 hv
                have spB := spA.trans sp6
                refine ⟨av, (nD spB).2, by rw [← hr.length]; omega, ?_⟩
                have spC : Step G1 H1 G6 (upd H6 Dl (.lst (av ++ [v]))) := by
                  have z := sp2.trans spB
                  exact ⟨z.g, z.h.upd hD, z.gh.upd (nD spB).1, z.gr⟩
                refine ⟨G6, ac ++ [y], av ++ [v], spC, (nD spB).1, upd_same, (hr.mono spB.g).append (.cons hv .nil), by rw [List.length_append]; simp; omega, ?_⟩
                cases e4 : lcF ga t fe (wipeS S vs) (ds.drop (i + 1)) with
                | exc x => exact absurd e4 (lcF_exc _)
                | fail => rw [e4] at p2; exact p2.elim
                | ok ys => rw [e4] at p2; simpa using p2
      · have hi : i = ds.length := by omega
        subst hi
        rw [List.drop_length] at p2
        refine .inl ⟨itm.1 _ (Nat.le_refl _), ?_⟩
        have p2 : PostE c .fr G S σ H Q (.ok (.lst (ac ++ []))) := p2
        rw [List.append_nil] at p2
        exact p2 _ G2 H2 (sp.trans sp2) ⟨Dl, _, rfl, hGD, hD0, hHD, .lst hr⟩
    · rw [if_neg hz] at p; exact p.elim
/-- [elt for target in iter if ..] -/
theorem d_lc {elt iter : Expr} {ifs : List Expr} {scope : Scope} (own : List (Str × Nat)) {ki gs : List Nat} {fi : FI} {ga : FG} {fe : FE} (hc : X.calm = true) (hN : X.N.Nodup) (hi : PI' X c ki tg iter fi) (ok : BlkOk X.N X.env.scope scope own)
    (hg : ∀ (s : Shared) (H : Hp) (C : Addr) (cl : List (Str × Addr)) (fp : List Addr), PG' (X.blk s H scope (compEnvC scope cl C X.env) fp) c.nx gs tg ga) (ht : ∀ (s : Shared) (H : Hp) (C : Addr) (cl : List (Str × Addr)) (fp : List Addr), PTs' (X.blk s H scope (compEnvC scope cl C X.env) fp) c.nx ifs t)
    (he : ∀ (s : Shared) (H : Hp) (C : Addr) (cl : List (Str × Addr)) (fp : List Addr), PE' (X.blk s H scope (compEnvC scope cl C X.env) fp) c.nx .st elt fe) (hgs : ∀ i, i ∈ gs → i ∈ own.map (·.2) := by decide) (hs : ∀ x, foldedSetIterable iter X.env x = pure x := by intro _; rfl) :
    PE' X c .fr (.ListComp elt [⟨tg, iter, ifs, 0⟩] scope pos) (lcE fi ga t fe (own.map (·.2))) :=
  peI (pe_lc hc hN hi ok hg ht he hs) fun σ H Q q => lc_go (fun _ _ _ _ z => z) (fun _ _ _ z => z) (fun _ _ _ z => z) hgs q
/-- name = [..]: the slot owns it -/
theorem s_lc (i : Nat) {y : Str} {py spos : Pos} {elt iter : Expr} {ifs : List Expr} {scope : Scope} (own : List (Str × Nat)) {ki gs : List Nat} {fi : FI} {ga : FG} {fe : FE} (hc : X.calm = true) (hN : X.N.Nodup) (hi : PI' X c ki tg iter fi) (ok : BlkOk X.N X.env.scope scope own)
    (hg : ∀ (s : Shared) (H : Hp) (C : Addr) (cl : List (Str × Addr)) (fp : List Addr), PG' (X.blk s H scope (compEnvC scope cl C X.env) fp) c.nx gs tg ga) (ht : ∀ (s : Shared) (H : Hp) (C : Addr) (cl : List (Str × Addr)) (fp : List Addr), PTs' (X.blk s H scope (compEnvC scope cl C X.env) fp) c.nx ifs t)
    (he : ∀ (s : Shared) (H : Hp) (C : Addr) (cl : List (Str × Addr)) (fp : List Addr), PE' (X.blk s H scope (compEnvC scope cl C X.env) fp) c.nx .st elt fe) (hy : X.N[i]? = some y := by rfl) (hyl : X.env.scope.names.lookup y = some .local := by rfl)
    (hsw : swapsWith (.ListComp elt [⟨tg, iter, ifs, 0⟩] scope pos) (some (.Name y py)) spos.line X.env = pure true := by exact sw_true rfl rfl rfl (by decide +kernel)) (hgs : ∀ i, i ∈ gs → i ∈ own.map (·.2) := by decide) (hs : ∀ x, foldedSetIterable iter X.env x = pure x := by intro _; rfl) :
    PS' X c fr [i] (.Assign [.Name y py] (.ListComp elt [⟨tg, iter, ifs, 0⟩] scope pos) spos) (sOwn i (lcE fi ga t fe (own.map (·.2)))) :=
  psI (ps_setLc hc hN hy hyl hsw hi ok hg ht he hs) fun Dn σ H q => lc_go (fun _ _ _ _ z => z) (fun _ _ _ z => z) (fun _ _ _ z => z) hgs (own_go q)
end
end M
set_option Elab.async false
set_option linter.all false
set_option maxRecDepth 100000
set_option maxHeartbeats 4000000
namespace M
open PySem L2
/-! ### what a def promises -/
abbrev kdOf (fr : Bool) : Kd := if fr then .fr else .st
def PostF (k : Kn) (fr : Bool) (G0 H : Hp) (Q : VK) (E : XK) : R D → Prop
  | .ok d => ∀ v G' H', Step G0 H G' H' → Res k H G' H' d v (kdOf fr) → Q v H'
  | .exc x => PX ⟨k, H, G0, E⟩ x
  | .fail => False
def SpF (k : Kn) (fr : Bool) (n : Nat) (den : List D → R D) : Sp := fun vs H Q E => vs.length = n ∧ ∃ G0 ds, Ex G0 H ∧ RDs k G0 ds vs ∧ PostF k fr G0 H Q E (den ds)
def startS (n : Nat) (ds : List D) : Env := ds.map (fun d => some ⟨false, d⟩) ++ List.replicate (n - ds.length) none
/-- a body's end as the def's answer -/
def endF (fr : Bool) : R (Fl × Env) → R D
  | .ok (.rt d, _) => .ok d
  | .ok (.nx, _) => if fr then .fail else .ok .non
  | .ok _ => .fail
  | .exc x => .exc x
  | .fail => .fail
def runF (fr : Bool) (n : Nat) (s : FS) (ds : List D) : R D := endF fr (s (startS n ds))
theorem rel_start {c : Cf} {N : List Str} {ds : List D} {vs : List V} (e : Ex c.G0 c.H0) (r : RDs c.k c.G0 ds vs) : Rel c c.G0 (startS N.length ds) (L2.start N vs) c.H0 := by
  have own : ∀ (i : Nat) (d : D), (startS N.length ds)[i]? ≠ some (some ⟨true, d⟩) := fun i d q => by
    unfold startS at q
    rw [List.getElem?_append] at q
    split at q
    · rw [List.getElem?_map] at q
      cases h : ds[i]? <;> rw [h] at q <;> cases q
    · rw [List.getElem?_replicate] at q
      split at q <;> cases q
  refine ⟨Step.refl e, by simp [startS, L2.start, r.length], fun i d q => ?_, fun i d q => absurd q (own i d), fun i j a o => ?_⟩
  · unfold startS at q
    rw [List.getElem?_append] at q
    split at q
    · rename_i hlt
      rw [List.getElem?_map] at q
      cases h : ds[i]? with
      | none => rw [h] at q; cases q
      | some d' =>
        rw [h] at q; cases q
        obtain ⟨v, h1, h2⟩ := r.get h
        refine ⟨v, ?_, h2⟩
        unfold L2.start
        rw [List.getElem?_append_left (by rw [List.length_map]; exact (List.getElem?_eq_some_iff.mp h1).1), List.getElem?_map, h1]; rfl
    · rw [List.getElem?_replicate] at q
      split at q <;> cases q
  · obtain ⟨⟨d, q⟩, _⟩ := o
    exact absurd q (own i d)
theorem body_ok {k : Kn} {fr : Bool} {as : List Nat} {N : List Str} {X : Cx} {body : List Stmt} {s : FS} {H : Hp} {vs : List V} {Q : VK} {E : XK} {n : Nat} (hb : ∀ G0, PB' X ⟨k, H, G0, E⟩ fr as body s) (q : SpF k fr n (runF fr N.length s) vs H Q E) :
    ∃ t, PSs X body t ∧ t { nx := fun _ H' => Q .non H', rt := Q } (L2.start N vs) H := by
  obtain ⟨hl, G0, ds, e, r, p⟩ := q
  refine ⟨_, hb G0, G0, _, rel_start (c := ⟨k, H, G0, E⟩) e r, ?_⟩
  unfold runF at p
  cases e1 : s (startS N.length ds) with
  | exc x => rw [e1] at p; exact p
  | fail => rw [e1] at p; exact p.elim
  | ok z =>
    rw [e1] at p
    obtain ⟨fl, S1⟩ := z
    cases fl with
    | nx =>
      cases fr with
      | true => exact p.elim
      | false => exact fun G' σ' H' _ rel _ => p .non G' H' rel.st .non
    | bk => exact p.elim
    | ct => exact p.elim
    | rt d =>
      intro v G' H' st rv
      refine p v G' H' st ?_
      cases fr with
      | true => exact rv
      | false => exact rv
section
variable {P : Program} {w : World} {K : PySem.W.Frag} {mg : Str → Option Value} {base : Heap}
/-- a def that lets nothing out -/
theorem fn_ok {k : Kn} {fr : Bool} {as : List Nat} {x qual : Str} {params : Arguments} {body : List Stmt} {scope : Scope} {dvs : List V} {kws : List (Str × V)} {f : Addr} {fd : FuncData} {N ps : List Str} {lv : Nat} {s : FS} (F : FunD K x qual params body scope dvs kws f fd) (S : FnScope N ps scope)
    (hb : ∀ (cdv : Value) (A : Around) (outer : List PySem.Env) (sh : Shared) (H G0 : Hp), Room lv (A.deeper (PyProof.Rows.envOfC qual scope sh.heap.objs.size f cdv)) → PB' (cxOf CX0 P w K mg base N qual scope f cdv A outer sh H E0).nox ⟨k, H, G0, E0⟩ fr as body s) :
    FnOk P w K mg base CX0 (lv + 1) f fd ps (SpF k fr ps.length (fun ds => (runF fr N.length s ds).nox)) := by
  refine F.ok S (fun vs H Q E q => q.1) fun cdv A outer sh H vs Q E hr q => ?_
  have q' : SpF k fr ps.length (runF fr N.length s) vs H Q E0 := by
    obtain ⟨hl, G0, ds, e, r, p⟩ := q
    refine ⟨hl, G0, ds, e, r, ?_⟩
    dsimp only at p
    cases e1 : runF fr N.length s ds with
    | ok d => rw [e1] at p; exact p
    | exc x => rw [e1] at p; exact p.elim
    | fail => rw [e1] at p; exact p.elim
  obtain ⟨t, h1, h2⟩ := body_ok (X := (cxOf CX0 P w K mg base N qual scope f cdv A outer sh H E0).nox) (fun G0 => hb cdv A outer sh H G0 hr) q'
  exact ⟨t, h1.nox, h2⟩
end
/-- a def that is called: it lets nothing out -/
structure Fn0 (X : Cx) (k : Kn) (x : Str) (n : Nat) (fr : Bool) (den : List D → R D) : Prop where
  ex : ∃ (f : Addr) (fd : FuncData) (lv : Nat) (ps : List Str), ps.length = n ∧ FnOk X.prog X.w X.K X.mg X.base CX0 lv f fd ps (SpF k fr n den) ∧ Room lv X.A ∧ X.mg x = some (.ref f) ∧ PySem.W.keepIn X.K (.ref f) = true ∧ Binds X.K fd ps []
section
variable {X : Cx} {c : Cf} {kd k1 k2 k3 : Kd} {a b e : Expr} {pos : Pos} {fr : Bool} {den : List D → R D}
/-- the call's end among the caller's things -/
theorem call_go {n : Nat} {fa : FA} {σ : St} {H : Hp} {Q : VK} (hl : ∀ S ds, fa S = .ok ds → ds.length = n) (q : RdE c (kdOf fr) (eC den fa) σ H Q) : RdA c false fa σ H fun vs H1 => SpF c.k fr n den (vs ++ []) H1 Q E0 := by
  obtain ⟨G, S, rel, p⟩ := q
  have p : PostE c (kdOf fr) G S σ H Q (fa S >>= fun ds => (den ds).nox) := p
  refine ⟨G, S, rel, ?_⟩
  cases e0 : fa S with
  | exc x => rw [e0] at p; exact p
  | fail => rw [e0] at p; exact p
  | ok ds =>
    rw [e0] at p
    intro vs G1 H1 s1 q1
    have q1 : RDs c.k G1 ds vs := q1
    rw [List.append_nil]
    refine ⟨by rw [← q1.length]; exact hl S ds e0, G1, ds, s1.gh, q1, ?_⟩
    have p : PostE c (kdOf fr) G S σ H Q (den ds).nox := p
    cases e1 : den ds with
    | ok d => rw [e1] at p; exact fun v G' H' s2 r2 => p v G' H' (s1.trans s2) (r2.mono s1.h)
    | exc x => rw [e1] at p; exact p.elim
    | fail => rw [e1] at p; exact p.elim
/-- what an argument list's length is -/
def Len (n : Nat) (fa : FA) : Prop := ∀ S ds, fa S = .ok ds → ds.length = n
theorem len_n : Len 0 aN := fun S ds h => by cases h; rfl
theorem len_c {n : Nat} {f : FE} {fa : FA} (h : Len n fa) : Len (n + 1) (aC f fa) := fun S ds q => by
  unfold aC at q
  cases e1 : f S with
  | exc x => rw [e1] at q; cases q
  | fail => rw [e1] at q; cases q
  | ok d =>
    rw [e1] at q
    have q : (fa S >>= fun xs => R.ok (d :: xs)) = .ok ds := q
    cases e2 : fa S with
    | exc x => rw [e2] at q; cases q
    | fail => rw [e2] at q; cases q
    | ok xs => rw [e2] at q; cases q; simp [h S xs e2]
theorem d_call {x : Str} {n : Nat} {p : Pos} {es : List Expr} {fa : FA} (F : Fn0 X c.k x n fr den) (ha : PA' X c false (e :: es) fa) (hl : Len n fa) (hg : Gl X x := by rfl) (hdb : (x == ("__debug__" : Str)) = false := by decide)
    (hs : starEach (e :: es) X.env = (false, eval e X.env) :: starEach es X.env := by rfl) (hs2 : ((backTo pos (starEach es X.env)).any fun x => x.1) = false := by rfl) : PE' X c (kdOf fr) (.Call (.Name x p) (e :: es) [] pos) (eC den fa) := by
  obtain ⟨f, fd, lv, ps, hn, ok, hr, hm, hk, hb⟩ := F.ex
  exact peI (pe_call ok hr hg hm hk hb .nil pass0 ha hdb hs hs2) fun σ H Q q => call_go hl q
/-! ### arguments that a slot owns: the callee's answer holds nothing of its kind -/
mutual
/-- no list, no dict within -/
def D.noMut : D → Bool
  | .lst _ => false
  | .dic _ _ => false
  | .dit _ _ => false
  | .tup xs => D.noMuts xs
  | .obj _ _ => false
  | .scr _ => false
  | _ => true
def D.noMuts : List D → Bool
  | [] => true
  | x :: xs => x.noMut && D.noMuts xs
end
/-- what the slots own stands apart from G -/
noncomputable def cut (S : Env) (σ : St) (H : Hp) : Hp := fun b => open Classical in if ∃ i, OwnAt S σ i b then none else H b
theorem cut_own {S : Env} {σ : St} {H : Hp} {i : Nat} {a : Addr} (h : OwnAt S σ i a) : cut S σ H a = none := by unfold cut; rw [if_pos ⟨i, h⟩]
theorem cut_of {S : Env} {σ : St} {H : Hp} {b : Addr} {o : HO} (h : cut S σ H b = some o) : H b = some o ∧ ∀ i, ¬ OwnAt S σ i b := by
  unfold cut at h
  split at h
  · cases h
  · rename_i hn; exact ⟨h, fun i q => hn ⟨i, q⟩⟩
theorem cut_get {S : Env} {σ : St} {H : Hp} {b : Addr} (h : ∀ i, ¬ OwnAt S σ i b) : cut S σ H b = H b := by
  unfold cut; rw [if_neg (fun ⟨i, q⟩ => h i q)]
theorem Cont.notup {k : Kn} {G : Hp} {d : D} {o : HO} (c : Cont k G d o) : (∀ vs, o ≠ .tup vs) ∧ (∀ q vs, o ≠ .frz q vs) := by
  cases c <;> exact ⟨fun _ z => (by cases z), fun _ _ z => (by cases z)⟩
mutual
theorem RD.cut {c : Cf} {G H H' : Hp} {S : Env} {σ : St} (rel : Rel c G S σ H) (e : Ex H H') : ∀ {d : D} {v : V}, RD c.k H' d v → d.noMut = true → RD c.k (M.cut S σ H') d v
  | _, _, .non, _ => .non
  | _, _, .bl b, _ => .bl b
  | _, _, .int b, _ => .int b
  | _, _, .str b, _ => .str b
  | _, _, .ty b, _ => .ty b
  | _, _, .cls b, _ => .cls b
  | _, _, .tup h r, q => by
    simp only [D.noMut] at q
    refine .tup ?_ (RDs.cut rel e r q)
    rcases h with h | h
    · refine .inl ?_
      rw [cut_get]; exact h
      intro i ow
      obtain ⟨_, _, o, d, ho, _, ct⟩ := rel.own ow
      have := e _ _ ho
      rw [h] at this; cases this
      exact ct.notup.1 _ rfl
    · exact .inr h
  | _, _, .scr _, q => by simp [D.noMut] at q
  | _, _, .lst _ _, q => by simp [D.noMut] at q
  | _, _, .dic _ _ _, q => by simp [D.noMut] at q
  | _, _, .dit _ _ _, q => by simp [D.noMut] at q
  | _, _, .obj _ _ _, q => by simp [D.noMut] at q
theorem RDs.cut {c : Cf} {G H H' : Hp} {S : Env} {σ : St} (rel : Rel c G S σ H) (e : Ex H H') : ∀ {ds : List D} {vs : List V}, RDs c.k H' ds vs → D.noMuts ds = true → RDs c.k (M.cut S σ H') ds vs
  | _, _, .nil, _ => .nil
  | _, _, .cons a b, q => by
    simp only [D.noMuts, Bool.and_eq_true] at q
    exact .cons (RD.cut rel e a q.1) (RDs.cut rel e b q.2)
end
end
end M
set_option Elab.async false
set_option linter.all false
set_option maxRecDepth 100000
set_option maxHeartbeats 4000000
namespace M
open PySem L2
section
variable {X : Cx} {k : Kn}
theorem CallR.or {f : Value} {r r' : List V → Hp → VK → Prop} (h : CallR X f r) (h' : CallR X f r') : CallR X f (fun xs H Q => r xs H Q ∨ r' xs H Q) := fun pins s σ H xs us Q I rx q => by
  rcases q with q | q
  · exact h pins s σ H xs us Q I rx q
  · exact h' pins s σ H xs us Q I rx q
/-- a built-in of one argument -/
theorem cl1 {f : Value} {kd : Kd} {g : D → R D} {r : List V → Hp → VK → Prop} (h : CallR X f r) (q : ∀ G H x v d, Ex G H → Now k G H x v → g x = .ok d → ∀ Q : VK, (∀ w G' H', Step G H G' H' → Res k H G' H' d w kd → Q w H') → r [v] H Q) :
    ClR X k f kd (fun xs => match xs with | [x] => g x | _ => .fail) := by
  refine ⟨r, h, ?_⟩
  intro G H ds vs d e ns hg Q p
  cases ns with
  | nil => cases hg
  | cons n1 n2 =>
    cases n2 with
    | nil => exact q G H _ _ d e n1 hg Q p
    | cons _ _ => cases hg
theorem cl2 {f : Value} {kd : Kd} {g : D → D → R D} {r : List V → Hp → VK → Prop} (h : CallR X f r) (q : ∀ G H x v y u d, Ex G H → Now k G H x v → Now k G H y u → g x y = .ok d → ∀ Q : VK, (∀ w G' H', Step G H G' H' → Res k H G' H' d w kd → Q w H') → r [v, u] H Q) :
    ClR X k f kd (fun xs => match xs with | [x, y] => g x y | _ => .fail) := by
  refine ⟨r, h, ?_⟩
  intro G H ds vs d e ns hg Q p
  cases ns with
  | nil => cases hg
  | cons n1 n2 =>
    cases n2 with
    | nil => cases hg
    | cons n2 n3 =>
      cases n3 with
      | nil => exact q G H _ _ _ _ d e n1 n2 hg Q p
      | cons _ _ => cases hg
def f1 (g : D → R D) : List D → R D := fun xs => match xs with | [x] => g x | _ => .fail
def f2 (g : D → D → R D) : List D → R D := fun xs => match xs with | [x, y] => g x y | _ => .fail
/-! ### len, abs, int, min, max, sum, any, all -/
def lenD : D → R D
  | .str x => if x.length ≤ sizeLine then .ok (.int x.length) else .fail
  | .lst xs => .ok (.int xs.length)
  | .tup xs => .ok (.int xs.length)
  | .scr ns => .ok (.int ns.length)
  | .dic ks _ => .ok (.int ks.length)
  | _ => .fail
theorem c_len (hk : k.K = X.K) : ClR X k (.builtin "len") .st (f1 lenD) := cl1 (call_len.or call_lenD) fun G H x v d e n hg Q p => by
  unfold lenD at hg
  split at hg
  · split at hg
    · rename_i hl
      cases hg; obtain rfl := n.str
      exact .inl ⟨_, _, rfl, ⟨hl, rfl⟩, p _ G H (Step.refl e) (.int _)⟩
    · cases hg
  · cases hg; obtain ⟨a, vs, rfl, ha, r⟩ := n.lst e
    exact .inl ⟨_, _, rfl, .inl ⟨vs, SqL.of ha, rfl⟩, by rw [← r.length]; exact p _ G H (Step.refl e) (.int _)⟩
  · cases hg; obtain ⟨a, vs, rfl, ha, r⟩ := n.tup
    exact .inl ⟨_, _, rfl, .inr ⟨vs, hk ▸ e.sqT ha.t, rfl⟩, by rw [← r.length]; exact p _ G H (Step.refl e) (.int _)⟩
  · cases hg; obtain ⟨a, rfl, ha⟩ := n.scr
    exact .inl ⟨_, _, rfl, .inl ⟨_, hk ▸ e.sqL ha, rfl⟩, by rw [List.length_map]; exact p _ G H (Step.refl e) (.int _)⟩
  · cases hg; obtain ⟨a, vs, rfl, ha, l, r⟩ := n.dic e
    refine .inr ⟨a, _, rfl, ha, ?_⟩
    rw [List.length_zip, ← r.length, ← l, Nat.min_self]; exact p _ G H (Step.refl e) (.int _)
  · cases hg
def absD : D → R D
  | .int i => .ok (.int (if i < 0 then -i else i))
  | _ => .fail
theorem c_abs : ClR X k (.builtin "abs") .st (f1 absD) := cl1 call_abs fun G H x v d e n hg Q p => by
  cases x <;> simp only [absD] at hg <;> first | (cases hg; done) | skip
  cases hg; obtain rfl := n.int
  exact ⟨_, rfl, p _ G H (Step.refl e) (.int _)⟩
def intD : D → R D
  | .int i => .ok (.int i)
  | .bl b => .ok (.int (if b then 1 else 0))
  | _ => .fail
theorem c_int : ClR X k (.type "int") .st (f1 intD) := cl1 call_int1 fun G H x v d e n hg Q p => by
  cases x <;> simp only [intD] at hg <;> first | (cases hg; done) | skip
  · cases hg; obtain rfl := n.bl
    exact .inr ⟨_, rfl, p _ G H (Step.refl e) (.int _)⟩
  · cases hg; obtain rfl := n.int
    exact .inl ⟨_, rfl, p _ G H (Step.refl e) (.int _)⟩
def strD : D → R D
  | .int i => if i.natAbs.log2 < 1920 then .ok (.str (toString i)) else .fail
  | _ => .fail
theorem c_str : ClR X k (.type "str") .st (f1 strD) := cl1 call_str_int fun G H x v d e n hg Q p => by
  cases x <;> simp only [strD] at hg <;> first | (cases hg; done) | skip
  split at hg
  · rename_i hl
    cases hg; obtain rfl := n.int
    exact ⟨_, rfl, hl, p _ G H (Step.refl e) (.str _)⟩
  · cases hg
def max2D : D → D → R D
  | .int i, .int j => .ok (.int (if j > i then j else i))
  | _, _ => .fail
theorem c_max2 (hc : X.calm = true) : ClR X k (.builtin "max") .st (f2 max2D) := cl2 (call_max2 hc) fun G H x v y u d e n m hg Q p => by
  unfold max2D at hg
  split at hg
  · cases hg; obtain rfl := n.int; obtain rfl := m.int
    exact ⟨_, _, rfl, p _ G H (Step.refl e) (.int _)⟩
  · cases hg
def min2D : D → D → R D
  | .int i, .int j => .ok (.int (if j < i then j else i))
  | _, _ => .fail
theorem c_min2 (hc : X.calm = true) : ClR X k (.builtin "min") .st (f2 min2D) := cl2 (call_min2 hc) fun G H x v y u d e n m hg Q p => by
  unfold min2D at hg
  split at hg
  · cases hg; obtain rfl := n.int; obtain rfl := m.int
    exact ⟨_, _, rfl, p _ G H (Step.refl e) (.int _)⟩
  · cases hg
/-- a list of ints, of bools, of texts -/
def asI : List D → Option (List Int)
  | [] => some []
  | .int i :: r => (asI r).map (i :: ·)
  | _ => none
def asB : List D → Option (List Bool)
  | [] => some []
  | .bl i :: r => (asB r).map (i :: ·)
  | _ => none
def asS : List D → Option (List Str)
  | [] => some []
  | .str i :: r => (asS r).map (i :: ·)
  | _ => none
theorem asI_of {G : Hp} : ∀ {ds : List D} {vs : List V} {ns : List Int}, RDs k G ds vs → asI ds = some ns → vs = ns.map V.int
  | _, _, ns, .nil, h => by cases h; rfl
  | _, _, ns, .cons a b, h => by
    cases a with
    | int i =>
      simp only [asI, Option.map_eq_some_iff] at h
      obtain ⟨r, h1, rfl⟩ := h
      rw [asI_of b h1]; rfl
    | _ => simp [asI] at h
theorem asB_of {G : Hp} : ∀ {ds : List D} {vs : List V} {ns : List Bool}, RDs k G ds vs → asB ds = some ns → vs = ns.map V.bl
  | _, _, ns, .nil, h => by cases h; rfl
  | _, _, ns, .cons a b, h => by
    cases a with
    | bl i =>
      simp only [asB, Option.map_eq_some_iff] at h
      obtain ⟨r, h1, rfl⟩ := h
      rw [asB_of b h1]; rfl
    | _ => simp [asB] at h
theorem asS_of {G : Hp} : ∀ {ds : List D} {vs : List V} {ns : List Str}, RDs k G ds vs → asS ds = some ns → vs = ns.map V.str
  | _, _, ns, .nil, h => by cases h; rfl
  | _, _, ns, .cons a b, h => by
    cases a with
    | str i =>
      simp only [asS, Option.map_eq_some_iff] at h
      obtain ⟨r, h1, rfl⟩ := h
      rw [asS_of b h1]; rfl
    | _ => simp [asS] at h
@[simp] theorem asI_map (ns : List Int) : asI (ns.map D.int) = some ns := by
  induction ns with
  | nil => rfl
  | cons n ns ih => simp [asI, ih]
@[simp] theorem asB_map (ns : List Bool) : asB (ns.map D.bl) = some ns := by
  induction ns with
  | nil => rfl
  | cons n ns ih => simp [asB, ih]
@[simp] theorem asS_map (ns : List Str) : asS (ns.map D.str) = some ns := by
  induction ns with
  | nil => rfl
  | cons n ns ih => simp [asS, ih]
def sumD : D → R D
  | .lst ds => match asI ds with | some ns => .ok (.int ns.sum) | none => .fail
  | _ => .fail
theorem c_sum (hc : X.calm = true) : ClR X k (.builtin "sum") .st (f1 sumD) := cl1 (cr_sum hc) fun G H x v d e n hg Q p => by
  cases x <;> simp only [sumD] at hg <;> first | (cases hg; done) | skip
  split at hg
  · rename_i ns hn
    cases hg; obtain ⟨a, vs, rfl, ha, r⟩ := n.lst e
    have := asI_of r hn; subst this
    exact ⟨a, ns, rfl, SqL.of ha, p _ G H (Step.refl e) (.int _)⟩
  · cases hg
def anyD : D → R D
  | .lst ds => match asB ds with | some ns => .ok (.bl (ns.any id)) | none => .fail
  | _ => .fail
theorem c_any (hc : X.calm = true) : ClR X k (.builtin "any") .st (f1 anyD) := cl1 (cr_any hc) fun G H x v d e n hg Q p => by
  cases x <;> simp only [anyD] at hg <;> first | (cases hg; done) | skip
  split at hg
  · rename_i ns hn
    cases hg; obtain ⟨a, vs, rfl, ha, r⟩ := n.lst e
    have := asB_of r hn; subst this
    exact ⟨a, ns, rfl, SqL.of ha, p _ G H (Step.refl e) (.bl _)⟩
  · cases hg
def allD : D → R D
  | .lst ds => match asB ds with | some ns => .ok (.bl (ns.all id)) | none => .fail
  | _ => .fail
theorem c_all (hc : X.calm = true) : ClR X k (.builtin "all") .st (f1 allD) := cl1 (cr_all hc) fun G H x v d e n hg Q p => by
  cases x <;> simp only [allD] at hg <;> first | (cases hg; done) | skip
  split at hg
  · rename_i ns hn
    cases hg; obtain ⟨a, vs, rfl, ha, r⟩ := n.lst e
    have := asB_of r hn; subst this
    exact ⟨a, ns, rfl, SqL.of ha, p _ G H (Step.refl e) (.bl _)⟩
  · cases hg
/-- the greatest, the least of a list of ints -/
def maxL : List Int → Int
  | [] => 0
  | x :: r => r.foldl (fun a b => if b > a then b else a) x
def minL : List Int → Int
  | [] => 0
  | x :: r => r.foldl (fun a b => if b < a then b else a) x
theorem maxL_fold : ∀ (r : List Int) (x : Int), (∀ y, y ∈ x :: r → y ≤ r.foldl (fun a b => if b > a then b else a) x) ∧ r.foldl (fun a b => if b > a then b else a) x ∈ x :: r
  | [], x => by simp
  | y :: r, x => by
    simp only [List.foldl_cons]
    by_cases h : y > x
    · rw [if_pos h]
      obtain ⟨h1, h2⟩ := maxL_fold r y
      refine ⟨fun z hz => ?_, List.mem_cons_of_mem _ h2⟩
      rcases List.mem_cons.mp hz with rfl | hz
      · have := h1 y (by simp); omega
      · exact h1 z hz
    · rw [if_neg h]
      obtain ⟨h1, h2⟩ := maxL_fold r x
      refine ⟨fun z hz => ?_, ?_⟩
      · rcases List.mem_cons.mp hz with rfl | hz
        · exact h1 z (by simp)
        · rcases List.mem_cons.mp hz with rfl | hz
          · have := h1 x (by simp); omega
          · exact h1 z (by simp [hz])
      · rcases List.mem_cons.mp h2 with z | z
        · rw [z]; simp
        · exact List.mem_cons_of_mem _ (List.mem_cons_of_mem _ z)
theorem minL_fold : ∀ (r : List Int) (x : Int), (∀ y, y ∈ x :: r → r.foldl (fun a b => if b < a then b else a) x ≤ y) ∧ r.foldl (fun a b => if b < a then b else a) x ∈ x :: r
  | [], x => by simp
  | y :: r, x => by
    simp only [List.foldl_cons]
    by_cases h : y < x
    · rw [if_pos h]
      obtain ⟨h1, h2⟩ := minL_fold r y
      refine ⟨fun z hz => ?_, List.mem_cons_of_mem _ h2⟩
      rcases List.mem_cons.mp hz with rfl | hz
      · have := h1 y (by simp); omega
      · exact h1 z hz
    · rw [if_neg h]
      obtain ⟨h1, h2⟩ := minL_fold r x
      refine ⟨fun z hz => ?_, ?_⟩
      · rcases List.mem_cons.mp hz with rfl | hz
        · exact h1 z (by simp)
        · rcases List.mem_cons.mp hz with rfl | hz
          · have := h1 x (by simp); omega
          · exact h1 z (by simp [hz])
      · rcases List.mem_cons.mp h2 with z | z
        · rw [z]; simp
        · exact List.mem_cons_of_mem _ (List.mem_cons_of_mem _ z)
def maxD : D → R D
  | .lst ds => match asI ds with | some (n :: ns) => .ok (.int (maxL (n :: ns))) | _ => .fail
  | _ => .fail
theorem c_max (hc : X.calm = true) : ClR X k (.builtin "max") .st (f1 maxD) := cl1 (cr_max hc) fun G H x v d e n hg Q p => by
  cases x <;> simp only [maxD] at hg <;> first | (cases hg; done) | skip
  split at hg
  · rename_i n0 ns hn
    cases hg; obtain ⟨a, vs, rfl, ha, r⟩ := n.lst e
    have := asI_of r hn; subst this
    refine ⟨a, n0 :: ns, rfl, SqL.of ha, by simp, fun m hm hle => ?_⟩
    have q := maxL_fold ns n0
    have : m = maxL (n0 :: ns) := Int.le_antisymm (q.1 m hm) (hle _ q.2)
    rw [this]; exact p _ G H (Step.refl e) (.int _)
  · cases hg
def minD : D → R D
  | .lst ds => match asI ds with | some (n :: ns) => .ok (.int (minL (n :: ns))) | _ => .fail
  | _ => .fail
theorem c_min (hc : X.calm = true) : ClR X k (.builtin "min") .st (f1 minD) := cl1 (cr_min hc) fun G H x v d e n hg Q p => by
  cases x <;> simp only [minD] at hg <;> first | (cases hg; done) | skip
  split at hg
  · rename_i n0 ns hn
    cases hg; obtain ⟨a, vs, rfl, ha, r⟩ := n.lst e
    have := asI_of r hn; subst this
    refine ⟨a, n0 :: ns, rfl, SqL.of ha, by simp, fun m hm hle => ?_⟩
    have q := minL_fold ns n0
    have : m = minL (n0 :: ns) := Int.le_antisymm (hle _ q.2) (q.1 m hm)
    rw [this]; exact p _ G H (Step.refl e) (.int _)
  · cases hg
/-! ### tuple(..), list(..) -/
def tupD : D → R D
  | .lst ds => .ok (.tup ds)
  | .tup ds => .ok (.tup ds)
  | _ => .fail
theorem c_tup (hk : k.K = X.K) : ClR X k (.type "tuple") .st (f1 tupD) := cl1 call_tuple_of fun G H x v d e n hg Q p => by
  cases x <;> simp only [tupD] at hg <;> first | (cases hg; done) | skip
  · cases hg; obtain ⟨a, vs, rfl, ha, r⟩ := n.tup
    exact ⟨a, vs, rfl, .inr ⟨hk ▸ e.sqT ha.t, p _ G H (Step.refl e) (.tup ha r)⟩⟩
  · cases hg; obtain ⟨a, vs, rfl, ha, r⟩ := n.lst e
    exact ⟨a, vs, rfl, .inl ⟨SqL.of ha, fun l hl => p _ _ _ (Step.new e hl) (.tup (SqU.of upd_same) (r.mono (Ex.new (e.free hl))))⟩⟩
def lstD : D → R D
  | .lst ds => .ok (.lst ds)
  | .tup ds => .ok (.lst ds)
  | _ => .fail
theorem c_lst (hk : k.K = X.K) : ClR X k (.type "list") .fr (f1 lstD) := cl1 call_list_of fun G H x v d e n hg Q p => by
  cases x <;> simp only [lstD] at hg <;> first | (cases hg; done) | skip
  · cases hg; obtain ⟨a, vs, rfl, ha, r⟩ := n.tup
    exact ⟨a, vs, rfl, .inr (hk ▸ e.sqT ha.t), fun l hl => p _ _ _ (Step.new' e hl) ⟨l, _, rfl, e.free hl, hl, upd_same, .lst r⟩⟩
  · cases hg; obtain ⟨a, vs, rfl, ha, r⟩ := n.lst e
    exact ⟨a, vs, rfl, .inl (SqL.of ha), fun l hl => p _ _ _ (Step.new' e hl) ⟨l, _, rfl, e.free hl, hl, upd_same, .lst r⟩⟩
/-! ### in -/
def flatD : D → Bool
  | .non => true
  | .bl _ => true
  | .int _ => true
  | .str _ => true
  | _ => false
theorem RD.flat {G : Hp} {d : D} {v : V} (r : RD k G d v) (h : flatD d = true) : flatV v = true := by
  cases r <;> first | rfl | (simp [flatD] at h; done)
theorem RDs.flat {G : Hp} : ∀ {ds : List D} {vs : List V}, RDs k G ds vs → ds.all flatD = true → vs.all flatV = true
  | _, _, .nil, _ => rfl
  | _, _, .cons a b, h => by
    simp only [List.all_cons, Bool.and_eq_true] at h ⊢
    exact ⟨a.flat h.1, RDs.flat b h.2⟩
theorem RD.eqV {G : Hp} {d d' : D} {v v' : V} (r : RD k G d v) (r' : RD k G d' v') (h : flatD d = true) (h' : flatD d' = true) : L2.eqV v v' = deq d d' := by
  cases r <;> first | (simp [flatD] at h; done) | skip
  all_goals (cases r' <;> first | (simp [flatD] at h'; done) | (simp [L2.eqV, deq]; done))
theorem RDs.inV {G : Hp} {x : D} {u : V} (r : RD k G x u) (hx : flatD x = true) : ∀ {ds : List D} {vs : List V}, RDs k G ds vs → ds.all flatD = true → L2.inV u vs = ds.any fun z => deq z x
  | _, _, .nil, _ => rfl
  | _, _, .cons a b, h => by
    simp only [List.all_cons, Bool.and_eq_true] at h
    have ih := RDs.inV r hx b h.2
    simp only [L2.inV, List.any_cons] at ih ⊢
    rw [ih, a.eqV r h.1 hx]
theorem toPs_any (n : Nat) (x : D) (hx : dok n x = true) : ∀ {ds : List D} {m : Nat}, doks m ds = true → ((D.toPs ds).any fun z => PyData.eqv z x.toP) = ds.any fun z => deq z x
  | [], _, _ => by simp [D.toPs]
  | d :: ds, m, h => by
    simp only [doks, Bool.and_eq_true] at h
    simp only [D.toPs, List.any_cons]
    rw [toPs_any n x hx h.2, deq_eqv m n d x h.1 hx]
/-- is x, one sign, in the text -/
def signD : D → Str → Option Bool
  | .str a, z => match a.cps.toList with
    | [c] => some (decide (c ∈ z.cps.toList))
    | _ => none
  | _, _ => none
theorem signD_of {x : D} {z : Str} {b : Bool} (h : signD x z = some b) : ∃ c, x = .str ⟨#[c]⟩ ∧ b = decide (c ∈ z.cps.toList) := by
  cases x with
  | str a =>
    simp only [signD] at h
    split at h
    · rename_i c hc
      cases h
      obtain ⟨⟨l⟩⟩ := a
      cases hc
      exact ⟨c, rfl, rfl⟩
    · cases h
  | _ => simp [signD] at h
/-- is x among the items; flat ones, or (in a list) any data -/
def inD' (x : D) : D → Option Bool
  | .lst ds => if flatD x && ds.all flatD then some (ds.any fun z => deq z x) else if dok 60 x && doks 59 ds then some (ds.any fun z => deq z x) else none
  | .tup ds => if flatD x && ds.all flatD then some (ds.any fun z => deq z x) else none
  | .str z => signD x z
  | _ => none
def inD (x y : D) : R D := match inD' x y with | some b => .ok (.bl b) | none => .fail
def notInD (x y : D) : R D := match inD' x y with | some b => .ok (.bl (!b)) | none => .fail
def rSign (neg : Bool) : R2 := fun x y H Q => ∃ (c : Nat) (z : Str), x = .str ⟨#[c]⟩ ∧ y = .str z ∧ Q (.bl (if neg = true then !decide (c ∈ z.cps.toList) else decide (c ∈ z.cps.toList))) H
theorem in_go {neg : Bool} (hk : k.K = X.K) {G H : Hp} {x y : D} {u v : V} {b : Bool} {Q : VK} (e : Ex G H) (nx : Now k G H x u) (ny : Now k G H y v) (hg : inD' x y = some b) (q : Q (.bl (if neg = true then !b else b)) H) :
    (rIn X.K neg u v H Q ∨ ∃ d ds, Dp X.K H u d ∧ Dp X.K H v (.list ds) ∧ SeqAt.shaped d = true ∧ SeqAt.shaped (.list ds) = true ∧ Q (.bl (if neg = true then !(ds.any fun z => PyData.eqv z d) else ds.any fun z => PyData.eqv z d)) H) ∨ rSign neg u v H Q := by
  cases y with
  | str z =>
    simp only [inD'] at hg
    obtain ⟨c, rfl, rfl⟩ := signD_of hg
    obtain rfl := nx.str
    obtain rfl := ny.str
    exact .inr ⟨c, z, rfl, rfl, q⟩
  | lst ds =>
    simp only [inD'] at hg
    obtain ⟨a, vs, rfl, ha, r⟩ := ny.lst e
    split at hg
    · rename_i hf
      simp only [Bool.and_eq_true] at hf
      cases hg
      have rx := nx.rd e
      have r' := r.mono e
      exact .inl <| .inl ⟨a, vs, rfl, .inl (SqL.of ha), rx.flat hf.1, r'.flat hf.2, by rw [RDs.inV rx hf.1 r' hf.2]; exact q⟩
    · split at hg
      · rename_i hf
        simp only [Bool.and_eq_true] at hf
        cases hg
        have hl : dok 60 (.lst ds) = true := by simp only [dok]; exact hf.2
        have ds' : SeqAt.shaped (.list (D.toPs ds)) = true := by
          have := dok_shaped hl
          simpa only [D.toP] using this
        exact .inl <| .inr ⟨x.toP, D.toPs ds, hk ▸ (nx.rd e).dp 60 hf.1, hk ▸ .lst (SqL.of ha) ((r.mono e).dp 59 hf.2), dok_shaped hf.1, ds', by rw [toPs_any 60 x hf.1 hf.2]; exact q⟩
      · cases hg
  | tup ds =>
    simp only [inD'] at hg
    obtain ⟨a, vs, rfl, ha, r⟩ := ny.tup
    split at hg
    · rename_i hf
      simp only [Bool.and_eq_true] at hf
      cases hg
      have rx := nx.rd e
      have r' := r.mono e
      exact .inl <| .inl ⟨a, vs, rfl, .inr (hk ▸ e.sqT ha.t), rx.flat hf.1, r'.flat hf.2, by rw [RDs.inV rx hf.1 r' hf.2]; exact q⟩
    · cases hg
  | _ => simp [inD'] at hg
theorem o_in (hk : k.K = X.K) (hu : X.A.units + 65 < cLine) : Op2 X k (compareOp .In) .st inD := by
  refine ⟨_, (op_in_seq.or (op_inD hu)).or op_in_sign, ?_⟩
  intro G H x y u v d e nx ny hg Q q
  unfold inD at hg
  split at hg
  · rename_i b hb
    cases hg
    exact in_go (neg := false) hk e nx ny hb (q _ G H (Step.refl e) (.bl _))
  · cases hg
theorem o_notin (hk : k.K = X.K) (hu : X.A.units + 65 < cLine) : Op2 X k (compareOp .NotIn) .st notInD := by
  refine ⟨_, (op_notIn_seq.or (op_notInD hu)).or op_notIn_sign, ?_⟩
  intro G H x y u v d e nx ny hg Q q
  unfold notInD at hg
  split at hg
  · rename_i b hb
    cases hg
    exact in_go (neg := true) hk e nx ny hb (q _ G H (Step.refl e) (.bl _))
  · cases hg
end
end M
set_option Elab.async false
set_option linter.all false
set_option maxRecDepth 100000
set_option maxHeartbeats 4000000
namespace M
open PySem L2
section
variable {X : Cx} {c : Cf} {kd k1 k2 k3 : Kd} {a b e : Expr} {f g h : FE} {pos apos cpos p' : Pos} {fr : Bool} {x : Str}
/-! ### x.append(e), x.extend(e), y = x.pop(), x[i] = e -/
def ownL (i : Nat) (S : Env) : R (List D) := match S[i]? with
  | some (some ⟨true, .lst ds⟩) => .ok ds
  | _ => .fail
theorem ownL_of {i : Nat} {S : Env} {ds : List D} (h : ownL i S = .ok ds) : S[i]? = some (some ⟨true, .lst ds⟩) := by
  unfold ownL at h
  split at h
  · cases h; assumption
  · cases h
theorem ownL_exc {i : Nat} {S : Env} {x : Exc} : ownL i S ≠ .exc x := by unfold ownL; split <;> intro h <;> cases h
def sApp (i : Nat) (f : FE) : FS := fun S => ownL i S >>= fun ds => f S >>= fun d => if ds.length < sizeLine then .ok (.nx, S.set i (some ⟨true, .lst (ds ++ [d])⟩)) else .fail
theorem s_app (i : Nat) (he : PE' X c .st e f) (hN : X.N[i]? = some x := by rfl) (hv : Vis X.env.scope x := by first | exact Or.inl rfl | exact Or.inr (Or.inl rfl) | exact Or.inr (Or.inr rfl)) (hd : (x == ("__debug__" : Str)) = false := by decide)
    (hcd : (x == ("__classdict__" : Str)) = false := by decide) (h2 : (apos.endLine == cpos.line) = true := by rfl) (h3 : starEach [e] X.env = [(false, eval e X.env)] := by rfl) (hs : swapsWith (.Call (.Attribute (.Name x p') "append" apos) [e] [] cpos) none pos.line X.env = pure false := by rfl) :
    PS' X c fr [i + 1000] (.Expr (.Call (.Attribute (.Name x p') "append" apos) [e] [] cpos) pos) (sApp i f) :=
  psI (ps_expr (pe_bm PySem.F.plainAttrs_list PySem.F.slot_list_append PySem.F.type_list_append mt_append (pe_var hN hv hd hcd) (pa_cons he pa_nil h3) rfl (by rw [h3]; rfl) h2 h3 rfl) hs) fun Dn σ H ⟨G, S, rel, p⟩ => by
    have p : PostS c fr [i + 1000] G S σ H Dn (ownL i S >>= fun ds => f S >>= fun d => if ds.length < sizeLine then .ok (.nx, S.set i (some ⟨true, .lst (ds ++ [d])⟩)) else .fail) := p
    cases e0 : ownL i S with
    | exc x => exact absurd e0 ownL_exc
    | fail => rw [e0] at p; exact p.elim
    | ok ds =>
      rw [e0, R.ok_bind] at p
      have hS := ownL_of e0
      obtain ⟨l, o, es, hg, h0, ho, ct⟩ := rel.ow i _ hS
      cases ct with
      | @lst ds' vs r =>
        refine ⟨_, es, .inl ⟨rfl, vs, SqL.of ho⟩, ?_⟩
        refine rdE_go (g := fun d => if ds.length < sizeLine then .ok (Fl.nx, S.set i (some ⟨true, .lst (ds ++ [d])⟩)) else .fail) (Post := PostS c fr [i + 1000] G S σ H Dn) rel p (fun _ z => z) (fun z => z) fun d v G' H' sp q p1 => ?_
        by_cases hl : ds.length < sizeLine
        · rw [if_pos hl] at p1
          have rel' := rel.grow sp
          have ow : OwnAt S σ i l := ⟨⟨_, hS⟩, es⟩
          refine ⟨l, vs, v, rfl, rfl, sp.h _ _ ho, by rw [← r.length]; exact hl, p1 G' σ _ sp.g (rel'.mut ow (.lst ((r.mono sp.g).append (.cons q .nil)))) ((Frm.step (as := []) rel sp).trans (Frm.mut rel' ow))⟩
        · rw [if_neg hl] at p1; exact p1.elim
def sExt (i : Nat) (f : FE) : FS := fun S => ownL i S >>= fun ds => f S >>= fun d => match d with
  | .lst es => if ds.length + es.length ≤ sizeLine then .ok (.nx, S.set i (some ⟨true, .lst (ds ++ es)⟩)) else .fail
  | _ => .fail
theorem s_ext (i : Nat) (he : PE' X c k1 e f) (hN : X.N[i]? = some x := by rfl) (hv : Vis X.env.scope x := by first | exact Or.inl rfl | exact Or.inr (Or.inl rfl) | exact Or.inr (Or.inr rfl)) (hd : (x == ("__debug__" : Str)) = false := by decide)
    (hcd : (x == ("__classdict__" : Str)) = false := by decide) (h2 : (apos.endLine == cpos.line) = true := by rfl) (h3 : starEach [e] X.env = [(false, eval e X.env)] := by rfl) (hs : swapsWith (.Call (.Attribute (.Name x p') "extend" apos) [e] [] cpos) none pos.line X.env = pure false := by rfl) :
    PS' X c fr [i + 1000] (.Expr (.Call (.Attribute (.Name x p') "extend" apos) [e] [] cpos) pos) (sExt i f) :=
  psI (ps_expr (pe_bm PySem.F.plainAttrs_list PySem.F.slot_list_extend PySem.F.type_list_extend mt_extend (pe_var hN hv hd hcd) (pa_cons he pa_nil h3) rfl (by rw [h3]; rfl) h2 h3 rfl) hs) fun Dn σ H ⟨G, S, rel, p⟩ => by
    have p : PostS c fr [i + 1000] G S σ H Dn (ownL i S >>= fun ds => f S >>= fun d => match d with
      | .lst es => if ds.length + es.length ≤ sizeLine then .ok (.nx, S.set i (some ⟨true, .lst (ds ++ es)⟩)) else .fail
      | _ => .fail) := p
    cases e0 : ownL i S with
    | exc x => exact absurd e0 ownL_exc
    | fail => rw [e0] at p; exact p.elim
    | ok ds =>
      rw [e0, R.ok_bind] at p
      have hS := ownL_of e0
      obtain ⟨l, o, es, hg, h0, ho, ct⟩ := rel.ow i _ hS
      cases ct with
      | @lst ds' vs r =>
        refine ⟨_, es, .inl ⟨rfl, vs, SqL.of ho⟩, ?_⟩
        refine rdE_go (Post := PostS c fr [i + 1000] G S σ H Dn) rel p (fun _ z => z) (fun z => z) fun d v G' H' sp q p1 => ?_
        cases d with
        | lst es' =>
          have p1 : PostS c fr [i + 1000] G S σ H Dn (if ds.length + es'.length ≤ sizeLine then .ok (.nx, S.set i (some ⟨true, .lst (ds ++ es')⟩)) else .fail) := p1
          by_cases hl : ds.length + es'.length ≤ sizeLine
          · rw [if_pos hl] at p1
            have rel' := rel.grow sp
            have ow : OwnAt S σ i l := ⟨⟨_, hS⟩, es⟩
            obtain ⟨m, ws, rfl, hm, rm⟩ := q.now.lst sp.gh
            refine ⟨l, m, vs, ws, rfl, rfl, sp.h _ _ ho, hm, by rw [← r.length, ← rm.length]; exact hl, p1 G' σ _ sp.g (rel'.mut ow (.lst ((r.mono sp.g).append rm))) ((Frm.step (as := []) rel sp).trans (Frm.mut rel' ow))⟩
          · rw [if_neg hl] at p1; exact p1.elim
        | _ => exact p1.elim
/-- y = x.pop() -/
def sPop (j i : Nat) : FS := fun S => ownL i S >>= fun ds => match ds[ds.length - 1]? with
  | some d => .ok (.nx, (S.set i (some ⟨true, .lst ds.dropLast⟩)).set j (some ⟨false, d⟩))
  | none => .fail
theorem RDs.dropLast {k : Kn} {G : Hp} {ds : List D} {vs : List V} (r : RDs k G ds vs) : RDs k G ds.dropLast vs.dropLast := by
  rw [List.dropLast_eq_take, List.dropLast_eq_take, r.length]; exact r.take _
theorem s_pop (j i : Nat) {y : Str} {py : Pos} (hNd : X.N.Nodup) (hj : X.N[j]? = some y := by rfl) (hx : Loc X.env.scope y := by first | exact Or.inl rfl | exact Or.inr rfl) (hf : X.fn y = true ∨ X.env.scope.names.lookup y = some .local := by first | exact .inl rfl | exact .inr rfl)
    (hN : X.N[i]? = some x := by rfl) (hv : Vis X.env.scope x := by first | exact Or.inl rfl | exact Or.inr (Or.inl rfl) | exact Or.inr (Or.inr rfl)) (hd : (x == ("__debug__" : Str)) = false := by decide)
    (hcd : (x == ("__classdict__" : Str)) = false := by decide) (h2 : (apos.endLine == cpos.line) = true := by rfl) (hs : swapsWith (.Call (.Attribute (.Name x p') "pop" apos) [] [] cpos) (some (.Name y py)) pos.line X.env = pure false := by rfl) :
    PS' X c fr [i + 1000, j] (.Assign [.Name y py] (.Call (.Attribute (.Name x p') "pop" apos) [] [] cpos) pos) (sPop j i) :=
  psI (ps_set hNd hj hx (pe_bm0 PySem.F.plainAttrs_list PySem.F.slot_list_pop PySem.F.type_list_pop mt_pop (pe_var hN hv hd hcd) rfl h2) hs hf) fun Dn σ H ⟨G, S, rel, p⟩ => by
    have p : PostS c fr [i + 1000, j] G S σ H Dn (ownL i S >>= fun ds => match ds[ds.length - 1]? with
      | some d => .ok (.nx, (S.set i (some ⟨true, .lst ds.dropLast⟩)).set j (some ⟨false, d⟩))
      | none => .fail) := p
    cases e0 : ownL i S with
    | exc x => exact absurd e0 ownL_exc
    | fail => rw [e0] at p; exact p.elim
    | ok ds =>
      rw [e0, R.ok_bind] at p
      have hS := ownL_of e0
      obtain ⟨l, o, es, hg, h0, ho, ct⟩ := rel.ow i _ hS
      cases ct with
      | @lst ds' vs r =>
        cases e1 : ds[ds.length - 1]? with
        | none => rw [e1] at p; exact p.elim
        | some d =>
          rw [e1] at p
          obtain ⟨v, hv1, hv2⟩ := r.get e1
          have ow : OwnAt S σ i l := ⟨⟨_, hS⟩, es⟩
          refine ⟨_, es, .inl ⟨rfl, vs, SqL.of ho⟩, l, vs, v, rfl, rfl, ho, by rw [← r.length]; exact hv1, ?_⟩
          have rel' := rel.mut ow (.lst r.dropLast)
          exact p G _ _ (Ex.refl _) (rel'.setS j hv2) ((Frm.mut rel ow).trans (Frm.set j _ _))
/-- x[i] = e -/
def sSub (i : Nat) (fj f : FE) : FS := fun S => ownL i S >>= fun ds => f S >>= fun d => fj S >>= fun j => match j with
  | .int n => match ixN ds.length n with
    | some m => .ok (.nx, S.set i (some ⟨true, .lst (ds.set m d)⟩))
    | none => .fail
  | _ => .fail
theorem s_sub (i : Nat) {ix : Expr} {fj : FE} {px ps : Pos} (he : PE' X c .st e f) (hj : PE' X c k1 ix fj) (hN : X.N[i]? = some x := by rfl) (hv : Vis X.env.scope x := by first | exact Or.inl rfl | exact Or.inr (Or.inl rfl) | exact Or.inr (Or.inr rfl)) (hd : (x == ("__debug__" : Str)) = false := by decide)
    (hcd : (x == ("__classdict__" : Str)) = false := by decide) (hsub : ∀ (v : Value), assign (.Subscript (.Name x px) ix ps) X.env v = (do let ov ← holding [v] (eval (.Name x px) X.env); let iv ← holding [v, ov] (eval ix X.env); standAt ps; holding [v, ov, iv] (setItem ov iv v); release [v, ov, iv] []) := by intro _; rfl)
    (hs : swapsWithSole [.Subscript (.Name x px) ix ps] e pos.line X.env = pure false := by rfl) (hw : swappedStores [.Subscript (.Name x px) ix ps] e X.env = pure none := by rfl) (h1 : (assignEach [.Subscript (.Name x px) ix ps] X.env).map (·.2) = [assign (.Subscript (.Name x px) ix ps) X.env] := by rfl) :
    PS' X c fr [i + 1000] (.Assign [.Subscript (.Name x px) ix ps] e pos) (sSub i fj f) :=
  psI (ps_asg he (pg_sub (pe_var hN hv hd hcd) hj set_list hsub) hs hw h1) fun Dn σ H ⟨G, S, rel, p⟩ => by
    have p : PostS c fr [i + 1000] G S σ H Dn (ownL i S >>= fun ds => f S >>= fun d => fj S >>= fun j => match j with
      | .int n => match ixN ds.length n with
        | some m => .ok (.nx, S.set i (some ⟨true, .lst (ds.set m d)⟩))
        | none => .fail
      | _ => .fail) := p
    cases e0 : ownL i S with
    | exc x => exact absurd e0 ownL_exc
    | fail => rw [e0] at p; exact p.elim
    | ok ds =>
      rw [e0, R.ok_bind] at p
      have hS := ownL_of e0
      obtain ⟨l, o, es, hg, h0, ho, ct⟩ := rel.ow i _ hS
      have ow : OwnAt S σ i l := ⟨⟨_, hS⟩, es⟩
      cases ct with
      | @lst ds' vs r =>
        refine rdE_go (Post := PostS c fr [i + 1000] G S σ H Dn) rel p (fun _ z => z) (fun z => z) fun d v G1 H1 s1 q1 p1 => ?_
        refine ⟨_, es, ?_⟩
        refine rdE_go (Post := PostS c fr [i + 1000] G S σ H Dn) (rel.grow s1) p1 (fun _ z => z) (fun z => z) fun j u G2 H2 s2 q2 p2 => ?_
        cases j with
        | int n =>
          obtain rfl := q2.now.int
          have p2 : PostS c fr [i + 1000] G S σ H Dn (match ixN ds.length n with
            | some m => .ok (.nx, S.set i (some ⟨true, .lst (ds.set m d)⟩))
            | none => .fail) := p2
          cases em : ixN ds.length n with
          | none => rw [em] at p2; exact p2.elim
          | some m =>
            rw [em] at p2
            have sp := s1.trans s2
            have rel' := rel.grow sp
            refine ⟨l, vs, n, m, rfl, rfl, sp.h _ _ ho, by rw [← r.length]; exact em, p2 G2 σ _ sp.g (rel'.mut ow (.lst ((r.mono sp.g).set m (RD.mono s2.g q1)))) ((Frm.step (as := []) rel sp).trans (Frm.mut rel' ow))⟩
        | _ => exact p2.elim
end
end M
set_option Elab.async false
set_option linter.all false
set_option maxRecDepth 100000
set_option maxHeartbeats 4000000
namespace M
open PySem L2
/-! ### fields by number -/
theorem zip_lookup : ∀ {nm : List Str} {vs : List V} {j : Nat} {f : Str} {v : V}, nm.Nodup → nm[j]? = some f → vs[j]? = some v → (nm.zip vs).lookup f = some v
  | [], _, j, _, _, _, h, _ => by simp at h
  | _ :: _, [], j, _, _, _, _, h => by simp at h
  | n :: nm, u :: vs, 0, f, v, _, h1, h2 => by
    simp at h1 h2; subst h1; subst h2; simp [List.lookup]
  | n :: nm, u :: vs, j + 1, f, v, hn, h1, h2 => by
    simp only [List.getElem?_cons_succ] at h1 h2
    have hne : f ≠ n := fun z => (List.nodup_cons.mp hn).1 (by rw [← z]; exact List.mem_of_getElem? h1)
    rw [List.zip_cons_cons, List.lookup_cons, beq_eq_false_iff_ne.mpr hne]
    exact zip_lookup (List.nodup_cons.mp hn).2 h1 h2
theorem zip_put : ∀ {nm : List Str} {vs : List V} {f : Str} {v : V}, nm.Nodup → nm[vs.length]? = some f → putF f v (nm.zip vs) = nm.zip (vs ++ [v])
  | [], vs, _, _, _, h => by simp at h
  | n :: nm, [], f, v, _, h => by
    simp at h; subst h
    simp [putF]
  | n :: nm, u :: vs, f, v, hn, h => by
    simp only [List.length_cons, List.getElem?_cons_succ] at h
    have hne : ¬ n = f := fun z => (List.nodup_cons.mp hn).1 (by rw [z]; exact List.mem_of_getElem? h)
    rw [List.zip_cons_cons, List.cons_append, List.zip_cons_cons, ← zip_put (List.nodup_cons.mp hn).2 h]
    simp only [putF]
    rw [if_neg hne]
/-- what is known of a class: its number, fields -/
structure ClsI (K : PySem.W.Frag) (k : Kn) (c : Nat) (nm : List Str) : Prop where
  ex : ∃ C, k.cl c = some (C, nm) ∧ Cls K C ∧ ∀ f, f ∈ nm → NoAttr K C f
  nd : nm.Nodup
  few : nm.length < 1000
section
variable {X : Cx} {c : Cf} {kd k1 k2 k3 : Kd} {a b e o : Expr} {f g h : FE} {pos apos cpos p' : Pos} {fr : Bool} {x : Str} {nm : List Str} {ci : Nat}
def fldD (ci j : Nat) : D → R D
  | .obj c ds => if c = ci then match ds[j]? with | some d => .ok d | none => .fail else .fail
  | _ => .fail
theorem d_fld (ci j : Nat) {fn : Str} (C : ClsI X.K c.k ci nm) (hj : nm[j]? = some fn) (he : PE' X c k1 o f) (hb : attributeBase o fn X.env (eval o X.env) = eval o X.env := by rfl) : PE' X c .st (.Attribute o fn pos) (e1 (fldD ci j) f) :=
  peI (pe_fld he hb) fun σ H Q q => e1_go (r := fun x H1 Q => ∃ a C dx fs v, x = .ref a ∧ H1 a = some (.ins C dx fs) ∧ Cls X.K C ∧ NoAttr X.K C fn ∧ fs.lookup fn = some v ∧ Q v H1) (fun G H d u r ex n hg Q p => by
    cases d with
    | obj c' ds =>
      simp only [fldD] at hg
      split at hg
      · rename_i hc
        subst hc
        split at hg
        · rename_i d' hd
          cases hg
          obtain ⟨ad, CA, dx, nm', vs, rfl, hcl, ha, hr⟩ := n.obj ex
          obtain ⟨CA', hcl', cl, na⟩ := C.ex
          rw [hcl] at hcl'; cases hcl'
          obtain ⟨v, hv, rv⟩ := hr.get hd
          exact ⟨ad, CA, dx, _, v, rfl, ha, cl, na _ (List.mem_of_getElem? hj), zip_lookup C.nd hj hv, p v G H (Step.refl ex) rv⟩
        · cases hg
      · cases hg
    | _ => simp [fldD] at hg) q
/-- self.f = e, the slot i owns the object; the field is the next one -/
def ownO (ci i : Nat) (S : Env) : R (List D) := match S[i]? with
  | some (some ⟨true, .obj c ds⟩) => if c = ci then .ok ds else .fail
  | _ => .fail
theorem ownO_of {ci i : Nat} {S : Env} {ds : List D} (h : ownO ci i S = .ok ds) : S[i]? = some (some ⟨true, .obj ci ds⟩) := by
  unfold ownO at h
  split at h
  · split at h
    · rename_i hc; subst hc; cases h; assumption
    · cases h
  · cases h
theorem ownO_exc {ci i : Nat} {S : Env} {x : Exc} : ownO ci i S ≠ .exc x := by unfold ownO; split; split <;> intro h <;> cases h; intro h; cases h
def sFldN (ci i j : Nat) (f : FE) : FS := fun S => ownO ci i S >>= fun ds => f S >>= fun d => if ds.length = j then .ok (.nx, S.set i (some ⟨true, .obj ci (ds ++ [d])⟩)) else .fail
theorem s_fld (ci i j : Nat) {fn : Str} {px : Pos} (C : ClsI X.K c.k ci nm) (hj : nm[j]? = some fn) (he : PE' X c .st e f) (hN : X.N[i]? = some x := by rfl) (hv : Vis X.env.scope x := by first | exact Or.inl rfl | exact Or.inr (Or.inl rfl) | exact Or.inr (Or.inr rfl)) (hd : (x == ("__debug__" : Str)) = false := by decide)
    (hcd : (x == ("__classdict__" : Str)) = false := by decide) (hs : swapsWith e (some (.Attribute (.Name x px) fn p')) pos.line X.env = pure false := by rfl) : PS' X c fr [i + 1000] (.Assign [.Attribute (.Name x px) fn p'] e pos) (sFldN ci i j f) :=
  psI (ps_fld (pe_var hN hv hd hcd) he hs) fun Dn σ H ⟨G, S, rel, p⟩ => by
    have p : PostS c fr [i + 1000] G S σ H Dn (ownO ci i S >>= fun ds => f S >>= fun d => if ds.length = j then .ok (.nx, S.set i (some ⟨true, .obj ci (ds ++ [d])⟩)) else .fail) := p
    cases e0 : ownO ci i S with
    | exc x => exact absurd e0 ownO_exc
    | fail => rw [e0] at p; exact p.elim
    | ok ds =>
      rw [e0, R.ok_bind] at p
      have hS := ownO_of e0
      obtain ⟨l, ob, es, hg, h0, ho, ct⟩ := rel.ow i _ hS
      have ow : OwnAt S σ i l := ⟨⟨_, hS⟩, es⟩
      cases ct with
      | @obj _ _ CA dx nm' vs hcl hr =>
        obtain ⟨CA', hcl', cl, na⟩ := C.ex
        rw [hcl] at hcl'; cases hcl'
        refine rdE_go (g := fun d => if ds.length = j then .ok (Fl.nx, S.set i (some ⟨true, .obj ci (ds ++ [d])⟩)) else .fail) (Post := PostS c fr [i + 1000] G S σ H Dn) rel p (fun _ z => z) (fun z => z) fun d v G1 H1 s1 q1 p1 => ?_
        by_cases hl : ds.length = j
        · rw [if_pos hl] at p1
          have rel' := rel.grow s1
          have hl2 : vs.length = j := by rw [← hr.length]; exact hl
          refine ⟨_, es, l, CA, dx, _, rfl, s1.h _ _ ho, cl, na _ (List.mem_of_getElem? hj), ?_, ?_⟩
          · rw [List.length_zip]; exact Nat.lt_of_le_of_lt (Nat.min_le_left _ _) C.few
          · rw [zip_put C.nd (by rw [hl2]; exact hj)]
            exact p1 G1 σ _ s1.g (rel'.mut ow (.obj hcl ((hr.mono s1.g).append (.cons q1 .nil)))) ((Frm.step (as := []) rel s1).trans (Frm.mut rel' ow))
        · rw [if_neg hl] at p1; exact p1.elim
end
/-! ### __init__ -/
/-- the promise of an __init__: the new object's fields -/
def PostN (k : Kn) (x : Addr) (G0 H : Hp) (Q : VK) (E : XK) : R D → Prop
  | .ok d => ∀ G' H' o, Ex G0 G' → (∀ b u, b ≠ x → H b = some u → H' b = some u) → Ex G' H' → G' x = none → (∀ b u, G' b = some u → G0 b = some u ∨ H b = none) → H' x = some o → Cont k G' d o → Q .non H'
  | .exc e => ∀ cls da G' H', (∀ b u, b ≠ x → H b = some u → H' b = some u) → Ex G' H' → XR ⟨k, H, G0, E⟩ G' e cls da H' → E cls da H'
  | .fail => False
def SpN (k : Kn) (ci n : Nat) (den : List D → R D) : Sp := fun vs H Q E => vs.length = n ∧ ∃ x rest G0 ds C dx nm, vs = .ref x :: rest ∧ k.cl ci = some (C, nm) ∧ H x = some (.ins C dx []) ∧ G0 x = none ∧ Ex G0 H ∧ RDs k G0 ds rest ∧ PostN k x G0 H Q E (den ds)
def startN (n ci : Nat) (ds : List D) : Env := some ⟨true, .obj ci []⟩ :: (ds.map (fun d => some ⟨false, d⟩) ++ List.replicate (n - (ds.length + 1)) none)
def endN : R (Fl × Env) → R D
  | .ok (.nx, S) => match (S[(0 : Nat)]? : Option (Option Sl)) with
    | some (some ⟨true, d⟩) => .ok d
    | _ => .fail
  | .ok _ => .fail
  | .exc x => .exc x
  | .fail => .fail
def runN (n ci : Nat) (s : FS) (ds : List D) : R D := endN (s (startN n ci ds))
noncomputable def less (H : Hp) (x : Addr) : Hp := fun b => open Classical in if b = x then none else H b
theorem less_self {H : Hp} {x : Addr} : less H x x = none := by unfold less; rw [if_pos rfl]
theorem less_ne {H : Hp} {x b : Addr} (h : b ≠ x) : less H x b = H b := by unfold less; rw [if_neg h]
theorem less_ex {H : Hp} {x : Addr} : Ex (less H x) H := fun b o h => by
  by_cases hb : b = x
  · subst hb; rw [less_self] at h; cases h
  · rw [less_ne hb] at h; exact h
theorem rel_startN {k : Kn} {E : XK} {H G0 : Hp} {N : List Str} {x C dx : Addr} {nm : List Str} {ci : Nat} {ds : List D} {rest : List V} (hcl : k.cl ci = some (C, nm)) (hx : H x = some (.ins C dx [])) (hg : G0 x = none) (e : Ex G0 H) (r : RDs k G0 ds rest) :
    Rel ⟨k, less H x, G0, E⟩ G0 (startN N.length ci ds) (L2.start N (.ref x :: rest)) H := by
  have own : ∀ (i : Nat) (d : D), (startN N.length ci ds)[i]? = some (some ⟨true, d⟩) → i = 0 ∧ d = .obj ci [] := fun i d q => by
    unfold startN at q
    cases i with
    | zero => simp at q; exact ⟨rfl, q.symm⟩
    | succ i =>
      rw [List.getElem?_cons_succ, List.getElem?_append] at q
      split at q
      · rw [List.getElem?_map] at q
        cases h : ds[i]? <;> rw [h] at q <;> cases q
      · rw [List.getElem?_replicate] at q
        split at q <;> cases q
  have e0 : Ex G0 (less H x) := fun b o h => by rw [less_ne (ne_of_none h hg)]; exact e b o h
  refine ⟨⟨Ex.refl _, less_ex, e, fun _ _ h => .inl h⟩, by simp [startN, L2.start, r.length], fun i d q => ?_, fun i d q => ?_, fun i j a o1 o2 => ?_⟩
  · unfold startN at q
    cases i with
    | zero => simp at q
    | succ i =>
      rw [List.getElem?_cons_succ, List.getElem?_append] at q
      split at q
      · rw [List.getElem?_map] at q
        cases h : ds[i]? with
        | none => rw [h] at q; cases q
        | some d' =>
          rw [h] at q; cases q
          obtain ⟨v, h1, h2⟩ := r.get h
          refine ⟨v, ?_, h2⟩
          unfold L2.start
          rw [List.map_cons, List.cons_append, List.getElem?_cons_succ, List.getElem?_append_left (by rw [List.length_map]; exact (List.getElem?_eq_some_iff.mp h1).1), List.getElem?_map, h1]; rfl
      · rw [List.getElem?_replicate] at q
        split at q <;> cases q
  · obtain ⟨rfl, rfl⟩ := own i d q
    refine ⟨x, _, by simp [L2.start], hg, less_self, hx, ?_⟩
    have z : Cont k G0 (.obj ci []) (.ins C dx (nm.zip [])) := .obj hcl .nil
    rw [List.zip_nil_right] at z; exact z
  · obtain ⟨⟨d1, q1⟩, _⟩ := o1
    obtain ⟨⟨d2, q2⟩, _⟩ := o2
    rw [(own i d1 q1).1, (own j d2 q2).1]
theorem body_init {k : Kn} {as : List Nat} {N : List Str} {X : Cx} {body : List Stmt} {s : FS} {H : Hp} {vs : List V} {Q : VK} {E : XK} {n ci : Nat} (h0 : 0 ∉ as) (hb : ∀ H0 G0, PB' X ⟨k, H0, G0, E⟩ false as body s) (q : SpN k ci n (runN N.length ci s) vs H Q E) :
    ∃ t, PSs X body t ∧ t { nx := fun _ H' => Q .non H', rt := Q } (L2.start N vs) H := by
  obtain ⟨hl, x, rest, G0, ds, C, dx, nm, rfl, hcl, hx, hg, e, r, p⟩ := q
  refine ⟨_, hb (less H x) G0, G0, _, rel_startN hcl hx hg e r, ?_⟩
  unfold runN at p
  cases e1 : s (startN N.length ci ds) with
  | exc y =>
    rw [e1] at p
    intro cls da G' H' st xr
    refine p cls da G' H' (fun b u hb q => st.h b u (by show less H x b = some u; rw [less_ne hb]; exact q)) st.gh xr
  | fail => rw [e1] at p; exact p.elim
  | ok z =>
    rw [e1] at p
    obtain ⟨fl, S1⟩ := z
    cases fl with
    | nx =>
      intro G' σ' H' ex rel fm
      have p : PostN k x G0 H Q E (match (S1[(0 : Nat)]? : Option (Option Sl)) with
        | some (some ⟨true, d⟩) => .ok d
        | _ => .fail) := p
      split at p
      · rename_i d hd
        obtain ⟨a, o, es, hg', h0', ho, ct⟩ := rel.ow 0 d hd
        have : σ'[0]? = some (some (.ref x)) := by rw [fm.sg 0 h0]; simp [L2.start]
        rw [this] at es; cases es
        refine p G' H' o ex (fun b u hb q => rel.st.h b u (by show less H x b = some u; rw [less_ne hb]; exact q)) rel.st.gh hg' (fun b u q => ?_) ho ct
        rcases rel.st.gr b u q with z | z
        · exact .inl z
        · by_cases hb : b = x
          · subst hb; rw [hg'] at q; cases q
          · exact .inr (by rw [← less_ne (H := H) hb]; exact z)
      · exact p.elim
    | bk => exact p.elim
    | ct => exact p.elim
    | rt d => exact p.elim
section
variable {P : Program} {w : World} {K : PySem.W.Frag} {mg : Str → Option Value} {base : Heap}
theorem init_ok {k : Kn} {as : List Nat} {x qual : Str} {params : Arguments} {body : List Stmt} {scope : Scope} {dvs : List V} {kws : List (Str × V)} {f : Addr} {fd : FuncData} {N ps : List Str} {lv ci : Nat} {s : FS} (F : FunD K x qual params body scope dvs kws f fd) (S : FnScope N ps scope) (h0 : 0 ∉ as)
    (hb : ∀ (cdv : Value) (A : Around) (outer : List PySem.Env) (sh : Shared) (H H0 G0 : Hp), Room lv (A.deeper (PyProof.Rows.envOfC qual scope sh.heap.objs.size f cdv)) → PB' (cxOf CX0 P w K mg base N qual scope f cdv A outer sh H E0).nox ⟨k, H0, G0, E0⟩ false as body s) :
    FnOk P w K mg base CX0 (lv + 1) f fd ps (SpN k ci ps.length (fun ds => (runN N.length ci s ds).nox)) := by
  refine F.ok S (fun vs H Q E q => q.1) fun cdv A outer sh H vs Q E hr q => ?_
  have q' : SpN k ci ps.length (runN N.length ci s) vs H Q E0 := by
    obtain ⟨hl, x, rest, G0, ds, C, dx, nm, e1, hcl, hx, hg, e, r, p⟩ := q
    refine ⟨hl, x, rest, G0, ds, C, dx, nm, e1, hcl, hx, hg, e, r, ?_⟩
    dsimp only at p
    cases e1 : runN N.length ci s ds with
    | ok d => rw [e1] at p; exact p
    | exc x => rw [e1] at p; exact p.elim
    | fail => rw [e1] at p; exact p.elim
  obtain ⟨t, h1, h2⟩ := body_init (X := (cxOf CX0 P w K mg base N qual scope f cdv A outer sh H E0).nox) h0 (fun H0 G0 => hb cdv A outer sh H H0 G0 hr) q'
  exact ⟨t, h1.nox, h2⟩
end
/-- a class that is called -/
structure Mk0 (X : Cx) (k : Kn) (x : Str) (ci n : Nat) (den : List D → R D) : Prop where
  ex : ∃ (C f : Addr) (fd : FuncData) (lv : Nat) (ps : List Str) (nm : List Str), ps.length = n ∧ k.cl ci = some (C, nm) ∧ Mk X.K C f ∧ FnOk X.prog X.w X.K X.mg X.base CX0 lv f fd ps (SpN k ci n den) ∧ Room (lv + 1) X.A ∧ X.mg x = some (.ref C) ∧ Binds X.K fd ps []
section
variable {X : Cx} {c : Cf} {kd k1 k2 k3 : Kd} {a b e : Expr} {pos : Pos} {den : List D → R D} {ci : Nat}
theorem make_go {C : Addr} {nm : List Str} {n : Nat} {fa : FA} {σ : St} {H : Hp} {Q : VK} (hcl : c.k.cl ci = some (C, nm)) (hl : Len n fa) (q : RdE c .fr (eC den fa) σ H Q) :
    RdA c false fa σ H fun vs H1 => ∀ x dx, H1 x = none → H1 dx = none → dx ≠ x → SpN c.k ci (n + 1) den (.ref x :: (vs ++ [])) (upd (upd H1 dx (.own x)) x (.ins C dx [])) (fun v H2 => v = .non ∧ Q (.ref x) H2) E0 := by
  obtain ⟨G, S, rel, p⟩ := q
  have p : PostE c .fr G S σ H Q (fa S >>= fun ds => (den ds).nox) := p
  refine ⟨G, S, rel, ?_⟩
  cases e0 : fa S with
  | exc x => rw [e0] at p; exact p
  | fail => rw [e0] at p; exact p
  | ok ds =>
    rw [e0] at p
    intro vs G1 H1 s1 q1 x dx hx hdx hne
    have q1 : RDs c.k G1 ds vs := q1
    rw [List.append_nil]
    have hgx : G1 x = none := s1.gh.free hx
    have ex1 : Ex H1 (upd (upd H1 dx (.own x)) x (.ins C dx [])) := (Ex.new hdx).upd hx
    refine ⟨by simp [← q1.length, hl S ds e0], x, vs, G1, ds, C, dx, nm, rfl, hcl, upd_same, hgx, s1.gh.trans ex1, q1, ?_⟩
    have p : PostE c .fr G S σ H Q (den ds).nox := p
    cases e1 : den ds with
    | ok d =>
      rw [e1] at p
      intro G' H' o ex hk gh hgx' gr ho ct
      refine ⟨rfl, p _ G' H' (s1.trans ⟨ex, fun b u q => hk b u (ne_of_none q hx) (ex1 b u q), gh, fun b u q => ?_⟩) ⟨x, o, rfl, hgx', s1.h.free hx, ho, ct⟩⟩
      rcases gr b u q with z | z
      · exact .inl z
      · exact .inr (ex1.free z)
    | exc x => rw [e1] at p; exact p.elim
    | fail => rw [e1] at p; exact p.elim
theorem d_make {x : Str} {n : Nat} {p : Pos} {es : List Expr} {fa : FA} (F : Mk0 X c.k x ci (n + 1) den) (ha : PA' X c false (e :: es) fa) (hl : Len n fa) (hg : Gl X x := by rfl) (hdb : (x == ("__debug__" : Str)) = false := by decide)
    (hs : starEach (e :: es) X.env = (false, eval e X.env) :: starEach es X.env := by rfl) (hs2 : ((backTo pos (starEach es X.env)).any fun x => x.1) = false := by rfl) : PE' X c .fr (.Call (.Name x p) (e :: es) [] pos) (eC den fa) := by
  obtain ⟨C, f, fd, lv, ps, nm, hn, hcl, M, ok, hr, hm, hb⟩ := F.ex
  exact peI (pe_make M ok hr hg hm hb .nil pass0 ha hdb hs hs2) fun σ H Q q => make_go hcl hl q
end
end M
set_option Elab.async false
set_option linter.all false
set_option maxRecDepth 100000
set_option maxHeartbeats 4000000
namespace M
open PySem L2
section
variable {X : Cx} {k : Kn} {c : Cf} {kd k1 k2 k3 : Kd} {a b e o : Expr} {f g h : FE} {pos apos cpos p' : Pos} {fr : Bool}
/-! ### sorted(list) of data -/
theorem DpAll.zip {K : PySem.W.Frag} {H : Hp} : ∀ {xs : List V} {ds : List PyData}, DpAll K H xs ds → ∀ {us : List Value}, Vals xs us → PySem.W.EachIs (fun (u : Value) (b : V × PyData) => RelV b.1 u ∧ Dp K H b.1 b.2) us (xs.zip ds)
  | _, _, .nil, _, .nil => .nil
  | _, _, .cons a b, _, .cons r t => .cons ⟨r, a⟩ (DpAll.zip b t)
theorem EachIs.imp {α β : Type} {R R' : α → β → Prop} (h : ∀ a b, R a b → R' a b) : ∀ {as : List α} {bs : List β}, PySem.W.EachIs R as bs → PySem.W.EachIs R' as bs
  | _, _, .nil => .nil
  | _, _, .cons a b => .cons (h _ _ a) (EachIs.imp h b)
theorem each_vals : ∀ {us : List Value} {bs : List (V × PyData)}, PySem.W.EachIs (fun u b => RelV b.1 u) us bs → Vals (bs.map (·.1)) us
  | _, _, .nil => .nil
  | _, _, .cons a b => .cons a (each_vals b)
theorem DpAll.length {K : PySem.W.Frag} {H : Hp} : ∀ {xs : List V} {ds : List PyData}, DpAll K H xs ds → xs.length = ds.length
  | _, _, .nil => rfl
  | _, _, .cons _ b => by simp [DpAll.length b]
/-- the sort's own answer, by values and data -/
def rSrt (X : Cx) : List V → Hp → VK → Prop := fun vs H Q => ∃ a xs ds, vs = [V.ref a] ∧ SqL X.K H a xs ∧ DpAll X.K H xs ds ∧ PySem.W.AllAlike ds ∧ PySem.W.Sortable ds ∧ (∀ d, d ∈ ds → d.depth ≤ 60) ∧
  ∀ p, H p = none → Q (.ref p) (upd H p (.lst (((xs.zip ds).mergeSort (PySem.W.dataLe false (·.2))).map (·.1))))
theorem cr_srt (hu : X.A.units + 64 < cLine) : CallR X (.builtin "sorted") (rSrt X) := by
  intro pins s σ H vs us Q I r h
  obtain ⟨a, xs, ds, rfl, hs, hd, hal, hso, hdp, q⟩ := h
  obtain ⟨u, rfl, ru⟩ := vals1 r
  cases ru
  obtain ⟨its, rv, pl, hz⟩ := I.list hs
  have hlen := DpAll.length hd
  have hm : (xs.zip ds).map (·.2) = ds := by rw [List.map_snd_zip]; omega
  have ea := DpAll.zip hd rv
  refine PySem.W.sorted_data (enc := fun (b : V × PyData) => b.2) (R := fun u (b : V × PyData) => RelV b.1 u) (bs := xs.zip ds) pl.isList (EachIs.imp (fun _ _ z => z.1) ea) (EachIs.imp (fun u b z => Dp.reads I b.2 b.1 u z.2 z.1) ea) (by rw [hm]; exact hal) (by rw [hm]; exact hso) (by rw [List.length_zip]; omega) ?_ ?_
  · intro b hb
    have : b.2 ∈ ds := by rw [← hm]; exact List.mem_map.mpr ⟨b, hb, rfl⟩
    have := hdp _ this
    omega
  · intro out ho eo
    obtain ⟨m, F⟩ := I.fr
    obtain ⟨cn, _, N, _, kp⟩ := PySem.W.sorted_news (news := []) F (fun p hp => nomatch hp) its out
    have hobj := (N _ List.mem_cons_self).1
    have hv := each_vals eo
    refine ⟨.ref (s.heap.objs.size + 1), _, I.laid (a := s.heap.objs.size + 1) (t' := s.toks) (o := .lst _) kp (Nat.le_succ _) ⟨?_, out, cn, hv, hobj⟩, rfl, q _ (I.hok.fresh (Nat.le_succ _))⟩
    rw [List.length_map, List.length_mergeSort, List.length_zip]; omega
end
/-- Python's < of data -/
def dlt (x y : D) : Bool := PySem.W.dataLt x.toP y.toP
def dle (x y : D) : Bool := !dlt y x
mutual
/-- the two can be compared, place by place -/
def alikeD : D → D → Bool
  | .non, .non => true
  | .bl _, .bl _ => true
  | .int _, .int _ => true
  | .str _, .str _ => true
  | .lst xs, .lst ys => alikeDs xs ys
  | .tup xs, .tup ys => alikeDs xs ys
  | _, _ => false
def alikeDs : List D → List D → Bool
  | x :: xs, y :: ys => alikeD x y && alikeDs xs ys
  | [], _ => true
  | _ :: _, [] => true
end
mutual
theorem alikeD_of : ∀ (x y : D), alikeD x y = true → PySem.W.alike x.toP y.toP = true
  | .non, y, h => by cases y <;> first | (simp [D.toP, PySem.W.alike]; done) | (simp [alikeD] at h; done)
  | .bl _, y, h => by cases y <;> first | (simp [D.toP, PySem.W.alike]; done) | (simp [alikeD] at h; done)
  | .int _, y, h => by cases y <;> first | (simp [D.toP, PySem.W.alike]; done) | (simp [alikeD] at h; done)
  | .str _, y, h => by cases y <;> first | (simp [D.toP, PySem.W.alike]; done) | (simp [alikeD] at h; done)
  | .lst xs, y, h => by
    cases y with
    | lst ys => simp only [alikeD] at h; simp only [D.toP, PySem.W.alike]; exact alikeDs_of xs ys h
    | _ => simp [alikeD] at h
  | .tup xs, y, h => by
    cases y with
    | tup ys => simp only [alikeD] at h; simp only [D.toP, PySem.W.alike]; exact alikeDs_of xs ys h
    | _ => simp [alikeD] at h
  | .ty _, _, h => by simp [alikeD] at h
  | .dic _ _, _, h => by simp [alikeD] at h
  | .dit _ _, _, h => by simp [alikeD] at h
  | .obj _ _, _, h => by simp [alikeD] at h
  | .scr _, _, h => by simp [alikeD] at h
  | .cls _, _, h => by simp [alikeD] at h
theorem alikeDs_of : ∀ (xs ys : List D), alikeDs xs ys = true → PySem.W.alikeAll (D.toPs xs) (D.toPs ys) = true
  | [], _, _ => by simp [D.toPs, PySem.W.alikeAll]
  | _ :: _, [], _ => by simp [D.toPs, PySem.W.alikeAll]
  | x :: xs, y :: ys, h => by
    simp only [alikeDs, Bool.and_eq_true] at h
    simp only [D.toPs, PySem.W.alikeAll, Bool.and_eq_true]
    exact ⟨alikeD_of x y h.1, alikeDs_of xs ys h.2⟩
end
/-- an item that sorted takes: no None; a tuple has an item -/
def srtItem : D → Bool
  | .non => false
  | .tup [] => false
  | _ => true
def D.isTup : D → Bool
  | .tup _ => true
  | _ => false
def srtOk (ds : List D) : Bool := doks 59 ds && ds.all (fun x => ds.all fun y => alikeD x y) && ds.all srtItem
def srt (ds : List D) : List D := ds.mergeSort dle
theorem toPs_mem : ∀ {ds : List D} {p : PyData}, p ∈ D.toPs ds → ∃ d, d ∈ ds ∧ d.toP = p
  | [], _, h => by simp [D.toPs] at h
  | d :: ds, p, h => by
    simp only [D.toPs, List.mem_cons] at h
    rcases h with h | h
    · exact ⟨d, by simp, h.symm⟩
    · obtain ⟨d', h1, h2⟩ := toPs_mem h; exact ⟨d', by simp [h1], h2⟩
theorem doks_mem {n : Nat} : ∀ {ds : List D} {d : D}, doks n ds = true → d ∈ ds → dok n d = true
  | [], _, _, h => by simp at h
  | x :: ds, d, h, hm => by
    simp only [doks, Bool.and_eq_true] at h
    rcases List.mem_cons.mp hm with rfl | hm
    · exact h.1
    · exact doks_mem h.2 hm
theorem srt_sortable {ds : List D} (h : srtOk ds = true) : PySem.W.Sortable (D.toPs ds) := by
  unfold srtOk at h
  simp only [Bool.and_eq_true, List.all_eq_true] at h
  obtain ⟨⟨h1, h2⟩, h3⟩ := h
  cases ds with
  | nil => exact .inl fun d hd => by simp [D.toPs] at hd
  | cons d0 ds =>
    cases d0 with
    | tup xs =>
      refine .inl fun p hp => ?_
      obtain ⟨d, hd, rfl⟩ := toPs_mem hp
      have ha := h2 _ (List.mem_cons_self) d hd
      cases d with
      | tup ys =>
        have := h3 _ hd
        cases ys with
        | nil => simp [srtItem] at this
        | cons y ys => exact ⟨y.toP, D.toPs ys, by simp [D.toP, D.toPs]⟩
      | _ => simp [alikeD] at ha
    | _ =>
      refine .inr fun p hp => ?_
      obtain ⟨d, hd, rfl⟩ := toPs_mem hp
      have ha := h2 _ (List.mem_cons_self) d hd
      have hi := h3 _ hd
      cases d <;> first | (simp [alikeD] at ha; done) | (simp [srtItem] at hi; done) | (simp [D.toP]; done)
section
variable {X : Cx} {k : Kn}
theorem RDs.srt {G : Hp} {ds : List D} {vs : List V} (r : RDs k G ds vs) : RDs k G (M.srt ds) (((vs.zip (D.toPs ds)).mergeSort (PySem.W.dataLe false (·.2))).map (·.1)) := by
  have key : ∀ (bs : List (D × V)), (∀ b, b ∈ bs → RD k G b.1 b.2) → RDs k G (bs.map (·.1)) (bs.map (·.2)) := fun bs => by
    induction bs with
    | nil => intro _; exact .nil
    | cons b bs ih => intro h; exact .cons (h b (by simp)) (ih fun x hx => h x (by simp [hx]))
  have hl := r.length
  have z1 : (ds.zip vs).map (·.1) = ds := by rw [List.map_fst_zip]; omega
  have z2 : vs.zip (D.toPs ds) = (ds.zip vs).map fun b => (b.2, b.1.toP) := by
    clear r z1
    induction ds generalizing vs with
    | nil => cases vs <;> simp [D.toPs]
    | cons d ds ih =>
      cases vs with
      | nil => simp at hl
      | cons v vs => simp only [D.toPs, List.zip_cons_cons, List.map_cons]; rw [ih (by simpa using hl)]
  have e1 : M.srt ds = ((ds.zip vs).mergeSort fun a b => dle a.1 b.1).map (·.1) := by
    unfold M.srt
    rw [List.map_mergeSort (s := dle) (fun _ _ _ _ => rfl), z1]
  have e2 : ((vs.zip (D.toPs ds)).mergeSort (PySem.W.dataLe false (·.2))).map (·.1) = ((ds.zip vs).mergeSort fun a b => dle a.1 b.1).map (·.2) := by
    rw [z2, ← List.map_mergeSort (r := fun a b => dle a.1 b.1) (f := fun (b : D × V) => (b.2, b.1.toP)) (fun a _ b _ => by rw [PySem.W.dataLe_eq]; rfl), List.map_map]
    rfl
  rw [e1, e2]
  refine key _ fun b hb => ?_
  have hb : b ∈ ds.zip vs := List.mem_mergeSort.mp hb
  have : ∀ {ds : List D} {vs : List V}, RDs k G ds vs → ∀ b, b ∈ ds.zip vs → RD k G b.1 b.2 := fun {ds vs} r => by
    intro b hb
    obtain ⟨i, hi, rfl⟩ := List.mem_iff_getElem.mp hb
    rw [List.getElem_zip]
    have h1 : i < ds.length := by rw [List.length_zip] at hi; omega
    obtain ⟨v, hv, rv⟩ := r.get (List.getElem?_eq_getElem h1)
    have h2 : i < vs.length := by rw [List.length_zip] at hi; omega
    rw [List.getElem?_eq_getElem h2] at hv; cases hv
    exact rv
  exact this r b hb
def srtD : D → R D
  | .lst ds => if srtOk ds then .ok (.lst (srt ds)) else .fail
  | _ => .fail
theorem c_srt (hk : k.K = X.K) (hu : X.A.units + 64 < cLine) : ClR X k (.builtin "sorted") .fr (f1 srtD) := cl1 (cr_srt hu) fun G H x v d e n hg Q p => by
  cases x <;> simp only [srtD] at hg <;> first | (cases hg; done) | skip
  split at hg
  · rename_i ho
    cases hg; obtain ⟨a, vs, rfl, ha, r⟩ := n.lst e
    have hd : doks 59 _ = true := (by unfold srtOk at ho; simp only [Bool.and_eq_true] at ho; exact ho.1.1)
    refine ⟨a, vs, _, rfl, SqL.of ha, hk ▸ (r.mono e).dp 59 hd, fun p hp q hq => ?_, srt_sortable ho, fun q hq => ?_, fun pp hp => p _ _ _ (Step.new' e hp) ⟨pp, _, rfl, e.free hp, hp, upd_same, .lst r.srt⟩⟩
    · obtain ⟨d1, h1, rfl⟩ := toPs_mem hp
      obtain ⟨d2, h2, rfl⟩ := toPs_mem hq
      unfold srtOk at ho
      simp only [Bool.and_eq_true, List.all_eq_true] at ho
      exact alikeD_of _ _ (ho.1.2 d1 h1 d2 h2)
    · obtain ⟨d1, h1, rfl⟩ := toPs_mem hq
      have := (dok_lay 59 d1 (doks_mem hd h1)).2
      omega
  · cases hg
end
end M
set_option Elab.async false
set_option linter.all false
set_option maxRecDepth 100000
set_option maxHeartbeats 4000000
namespace M
open PySem L2
theorem _root_.L2.Room.units5 {k : Nat} {A : Around} (r : Room k A) : A.units + 65 < cLine := by have := r.un; omega
/-- a def, wherever it is called -/
structure Callee (P : Program) (w : World) (K : PySem.W.Frag) (mg : Str → Option Value) (base : Heap) (k : Kn) (lv : Nat) (x : Str) (n : Nat) (fr : Bool) (den : List D → R D) : Prop where
  ex : ∃ (f : Addr) (fd : FuncData) (ps : List Str), ps.length = n ∧ FnOk P w K mg base CX0 lv f fd ps (SpF k fr n den) ∧ mg x = some (.ref f) ∧ PySem.W.keepIn K (.ref f) = true ∧ Binds K fd ps []
theorem Callee.mk' {P : Program} {w : World} {K : PySem.W.Frag} {mg : Str → Option Value} {base : Heap} {k : Kn} {lv : Nat} {x : Str} {n : Nat} {fr : Bool} {den : List D → R D} (f : Addr) (fd : FuncData) (ps : List Str) (hn : ps.length = n) (h1 : FnOk P w K mg base CX0 lv f fd ps (SpF k fr n den)) (h2 : mg x = some (.ref f)) (h3 : PySem.W.keepIn K (.ref f) = true) (h4 : Binds K fd ps []) :
    Callee P w K mg base k lv x n fr den := ⟨f, fd, ps, hn, h1, h2, h3, h4⟩
theorem Callee.at {X : Cx} {k : Kn} {lv m : Nat} {x : Str} {n : Nat} {fr : Bool} {den : List D → R D} (h : Callee X.prog X.w X.K X.mg X.base k lv x n fr den) (hr : Room m X.A) (hle : lv ≤ m) : Fn0 X k x n fr den := by
  obtain ⟨f, fd, ps, hn, h1, h2, h3, h4⟩ := h.ex
  exact ⟨f, fd, lv, ps, hn, h1, hr.mono hle, h2, h3, h4⟩
/-- a name of the module that stands for a datum -/
structure Gc (mg : Str → Option Value) (k : Kn) (x : Str) (d : D) : Prop where
  ex : ∃ v u, mg x = some u ∧ RelV v u ∧ ∀ G, RD k G d v
section
variable {X : Cx} {c : Cf} {k : Kn} {kd k1 k2 k3 : Kd} {a b e o : Expr} {f g h : FE} {pos apos cpos p' : Pos} {fr : Bool} {x y : Str}
def eG (d : D) : FE := fun _ => .ok d
theorem d_g {d : D} (h : Gc X.mg c.k x d) (hg : Gl X x := by rfl) (hd : (x == ("__debug__" : Str)) = false := by decide) : PE' X c .st (.Name x pos) (eG d) := by
  obtain ⟨v, u, hm, r, rd⟩ := h.ex
  exact cst_of (pe_glob hg hm r hd) rd
/-- a built-in class as a value -/
def eY (n : String) : FE := fun _ => .ok (.ty n)
theorem d_ty (n : String) (hm : X.mg x = none) (hv : bootBuiltins x = some (.type n) := by decide +kernel) (hg : Gl X x := by rfl) (hn : x ≠ "__name__" := by decide) (hd : (x == ("__debug__" : Str)) = false := by decide) : PE' X c .st (.Name x pos) (eY n) :=
  cst_of (pe_bltn (v := .ty n) hg hm hv rfl hn hd) fun _ => .ty n
/-! ### isinstance against built-in classes -/
def tyN : D → Option String
  | .non => some "NoneType"
  | .bl _ => some "bool"
  | .int _ => some "int"
  | .str _ => some "str"
  | .tup _ => some "tuple"
  | .lst _ => some "list"
  | .dic _ _ => some "dict"
  | .dit _ _ => some "dict"
  | _ => none
theorem Now.tyX (hk : k.K = X.K) {G H : Hp} {d : D} {v : V} {n : String} (e : Ex G H) (w : Now k G H d v) (h : tyN d = some n) : TyX X.K H v (.type n) := by
  cases d <;> simp only [tyN] at h <;> first | (cases h; done) | skip
  · cases h; obtain rfl := w.non; exact .base .non
  · cases h; obtain rfl := w.bl; exact .base (.bl _)
  · cases h; obtain rfl := w.int; exact .base (.int _)
  · cases h; obtain rfl := w.str; exact .base (.str _)
  · cases h; obtain ⟨a, vs, rfl, ha, r⟩ := w.tup
    rcases e.sqU ha with q | ⟨o, its, m, q1, q2, q3⟩
    · exact .base (.tup q)
    · exact .kTuple (hk ▸ q1) q2
  · cases h; obtain ⟨a, vs, rfl, ha, r⟩ := w.lst e; exact .base (.lst ha)
  · cases h; obtain ⟨a, vs, rfl, ha, r⟩ := w.dic e; exact .base (.dK ha)
  · cases h; obtain ⟨a, vs, rfl, ha, r⟩ := w.dit e; exact .base (.dT ha)
def isiD : D → D → R D
  | x, .ty b => (match tyN x with
    | some a => (match kitB a b with
      | some r => .ok (.bl r)
      | none => .fail)
    | none => .fail)
  | _, _ => .fail
theorem c_isi (hk : k.K = X.K) : ClR X k (.builtin "isinstance") .st (f2 isiD) := cl2 call_isi fun G H x v y u d e n m hg Q p => by
  unfold isiD at hg
  split at hg
  · split at hg
    · rename_i ha
      split at hg
      · rename_i hb
        cases hg; obtain rfl := m.ty
        exact ⟨v, _, _, _, _, rfl, .ty _, n.tyX hk e ha, kit_ty hb, p _ G H (Step.refl e) (.bl _)⟩
      · cases hg
    · cases hg
  · cases hg
/-! ### slices -/
theorem SlR.or {r r' : V → Option Int → Option Int → Hp → VK → Prop} (h : SlR X r) (h' : SlR X r') : SlR X (fun x l u H Q => r x l u H Q ∨ r' x l u H Q) := fun pins s σ H x v vl vu lo hi sl Q I rx hs h1 h2 q => by
  rcases q with q | q
  · exact h pins s σ H x v vl vu lo hi sl Q I rx hs h1 h2 q
  · exact h' pins s σ H x v vl vu lo hi sl Q I rx hs h1 h2 q
abbrev FO := Env → R (Option Int)
def PostO (c : Cf) (G : Hp) (S : Env) (σ : St) (H : Hp) (Q : Option Int → Hp → Prop) : R (Option Int) → Prop
  | .ok b => ∀ G' H', Step G H G' H' → Q b H'
  | .exc x => PX c x
  | .fail => False
def RdO (c : Cf) (f : FO) : TO := fun σ H Q => ∃ G S, Rel c G S σ H ∧ PostO c G S σ H Q (f S)
abbrev PO' (X : Cx) (c : Cf) (e : Option Expr) (f : FO) : Prop := PO X e (RdO c f)
def oN : FO := fun _ => .ok none
def toI : D → R (Option Int)
  | .int i => .ok (some i)
  | _ => .fail
def oS (f : FE) : FO := fun S => f S >>= toI
theorem d_on : PO' X c none oN := poI po_none fun σ H Q ⟨G, S, rel, p⟩ => p G H (Step.refl rel.st.gh)
theorem d_os (he : PE' X c k1 e f) : PO' X c (some e) (oS f) := poI (po_some he) fun σ H Q ⟨G, S, rel, p⟩ => by
  refine rdE_go (g := toI) (Post := PostO c G S σ H Q) rel p (fun _ z => z) (fun z => z) fun d v G' H' s q p1 => ?_
  cases d with
  | int i => exact ⟨i, q.now.int, p1 G' H' s⟩
  | _ => exact p1.elim
def cutL {α : Type} (xs : List α) (lo hi : Option Int) : List α := List.take (HT.sIx xs.length xs.length hi - HT.sIx xs.length 0 lo) (List.drop (HT.sIx xs.length 0 lo) xs)
def slD (x : D) (lo hi : Option Int) : R D := match x with
  | .lst xs => .ok (.lst (cutL xs lo hi))
  | .tup xs => .ok (.tup (cutL xs lo hi))
  | .str z => if z.length ≤ sizeLine then .ok (.str (cutS z lo hi)) else .fail
  | _ => .fail
def eSl (f : FE) (l h : FO) : FE := fun S => f S >>= fun x => l S >>= fun lo => h S >>= fun hi => (slD x lo hi).nox
theorem RDs.cutL {G : Hp} {ds : List D} {vs : List V} (r : RDs k G ds vs) (lo hi : Option Int) : RDs k G (M.cutL ds lo hi) (cutV vs lo hi) := by
  unfold M.cutL cutV
  rw [← r.length]
  exact (r.drop _).take _
theorem rdO_go {f : FO} {G H : Hp} {S : Env} {σ : St} {Q : Option Int → Hp → Prop} {β : Type} {g : Option Int → R β} {Post : R β → Prop} (r : Rel c G S σ H) (p : Post (f S >>= g))
    (hx : ∀ x, Post (.exc x) → PX c x) (hf : Post .fail → False) (k : ∀ d G' H', Step G H G' H' → Post (g d) → Q d H') : RdO c f σ H Q := by
  refine ⟨G, S, r, ?_⟩
  cases e : f S with
  | ok d => rw [e] at p; exact fun G' H' s => k d G' H' s p
  | exc x => rw [e] at p; exact hx x p
  | fail => rw [e] at p; exact hf p
theorem d_sl {lo hi : Option Expr} {fl fh : FO} {p2 : Pos} (hk : c.k.K = X.K) (he : PE' X c k1 e f) (hl : PO' X c lo fl) (hh : PO' X c hi fh) : PE' X c .st (.Subscript e (.Slice lo hi none p2) pos) (eSl f fl fh) :=
  peI (pe_slice (SlR.or sl_list (SlR.or sl_tupA sl_str)) he hl hh) fun σ H Q ⟨G, S, rel, p⟩ => by
    refine rdE_go (g := fun x => fl S >>= fun lo => fh S >>= fun hi => (slD x lo hi).nox) (Post := PostE c .st G S σ H Q) rel p (fun _ z => z) (fun z => z) fun d v G1 H1 s1 q1 p1 => ?_
    refine rdO_go (g := fun lo => fh S >>= fun hi => (slD d lo hi).nox) (Post := PostE c .st G S σ H Q) (rel.grow s1) p1 (fun _ z => z) (fun z => z) fun lo G2 H2 s2 p2 => ?_
    refine rdO_go (g := fun hi => (slD d lo hi).nox) (Post := PostE c .st G S σ H Q) ((rel.grow s1).grow s2) p2 (fun _ z => z) (fun z => z) fun hi G3 H3 s3 p3 => ?_
    have n := (q1.now.grow s2).grow s3
    have sp := (s1.trans s2).trans s3
    cases d with
    | lst xs =>
      obtain ⟨a, vs, rfl, ha, r⟩ := n.lst s3.gh
      exact .inl ⟨a, vs, rfl, SqL.of ha, fun p hp => p3 _ _ _ (sp.trans (Step.new s3.gh hp)) (.lst upd_same ((r.cutL lo hi).mono (Ex.new (s3.gh.free hp))))⟩
    | tup xs =>
      obtain ⟨a, vs, rfl, ha, r⟩ := n.tup
      refine .inr (.inl ⟨a, vs, rfl, hk ▸ s3.gh.sqT ha.t, fun z => ?_, fun _ p hp => p3 _ _ _ (sp.trans (Step.new s3.gh hp)) (.tup (SqU.of upd_same) ((r.cutL lo hi).mono (Ex.new (s3.gh.free hp))))⟩)
      have e1 : cutL xs lo hi = xs := by
        unfold cutL
        rw [r.length, z.1, z.2, List.drop_zero, Nat.sub_zero, ← r.length, List.take_length]
      have p3 : PostE c .st G S σ H Q (.ok (.tup (cutL xs lo hi))) := p3
      rw [e1] at p3
      exact p3 _ _ _ sp (.tup ha r)
    | str z =>
      obtain rfl := n.str
      have p3 : PostE c .st G S σ H Q (if z.length ≤ sizeLine then .ok (.str (cutS z lo hi)) else .fail : R D).nox := p3
      by_cases hz : z.length ≤ sizeLine
      · rw [if_pos hz] at p3
        exact .inr (.inr ⟨z, rfl, hz, p3 _ _ _ sp (.str _)⟩)
      · rw [if_neg hz] at p3; exact p3.elim
    | _ => exact p3.elim
/-- xs[::-1] -/
def revD : D → R D
  | .lst xs => .ok (.lst xs.reverse)
  | _ => .fail
theorem d_rev {kk : Nat} {p1 p2 p3 : Pos} (he : PE' X c k1 e f) : PE' X c .fr (.Subscript e (.Slice none none (some (.UnaryOp .USub (.Constant (.int 1) kk p1) p2)) p3) pos) (e1 revD f) :=
  peI (pe_revL he) fun σ H Q q => e1_go (r := fun x H1 Q => ∃ a xs, x = V.ref a ∧ SqL X.K H1 a xs ∧ ∀ p, H1 p = none → Q (V.ref p) (upd H1 p (.lst xs.reverse))) (fun G H d u r ex n hg Q p => by
    cases d <;> simp only [revD] at hg <;> first | (cases hg; done) | skip
    cases hg; obtain ⟨a, vs, rfl, ha, r⟩ := n.lst ex
    exact ⟨a, vs, rfl, SqL.of ha, fun pp hp => p _ _ _ (Step.new' ex hp) ⟨pp, _, rfl, ex.free hp, hp, upd_same, .lst r.reverse⟩⟩) q
/-- [..] * n, new -/
def mulL : D → D → R D
  | .lst xs, .int j => if -(2 ^ 63) ≤ j ∧ j < 2 ^ 63 ∧ xs.length * j.toNat ≤ sizeLine then .ok (.lst (List.replicate j.toNat xs).flatten) else .fail
  | _, _ => .fail
theorem o_mulL : Op2 X k (binaryOp .Mult) .fr mulL := by
  refine ⟨_, op_rep, ?_⟩
  intro G H x y u v d e nx ny hg Q q
  unfold mulL at hg
  split at hg
  · split at hg
    · rename_i hc
      cases hg; obtain rfl := ny.int
      obtain ⟨a, vs, rfl, ha, ra⟩ := nx.lst e
      exact ⟨a, _, vs, rfl, rfl, ha, hc.1, hc.2.1, by rw [← ra.length]; exact hc.2.2, fun p hp => q _ _ _ (Step.new' e hp) ⟨p, _, rfl, e.free hp, hp, upd_same, .lst (ra.rep _)⟩⟩
    · cases hg
  · cases hg
/-! ### statements -/
/-- a new object goes to a slot, frozen -/
theorem setF_go {i : Nat} {Dn : Ends} {σ : St} {H : Hp} (q : RdS c fr [i] (sSet i f) Dn σ H) : RdE c .fr f σ H fun x H1 => gName i x σ H1 Dn.nx := by
  obtain ⟨G, S, rel, p⟩ := q
  refine rdE_go (g := fun d => .ok (Fl.nx, S.set i (some ⟨false, d⟩))) (Post := PostS c fr [i] G S σ H Dn) rel p (fun _ z => z) (fun z => z) fun d v G' H' sp q p1 => ?_
  obtain ⟨a, o, rfl, hg, hn, ha, ct⟩ := q
  have sp2 : Step G H (upd G' a o) H' := sp.frz ha hn hg
  exact p1 _ _ H' sp2.g ((rel.grow sp2).setS i ((ct.mono (Ex.new hg)).rd upd_same)) ((Frm.step (as := []) rel sp2).trans (Frm.set i _ _))
theorem s_lcZ (i : Nat) {py spos : Pos} {tg elt iter : Expr} {t : FT} {ifs : List Expr} {scope : Scope} (own : List (Str × Nat)) {ki gs : List Nat} {fi : FI} {ga : FG} {fe : FE} (hc : X.calm = true) (hN : X.N.Nodup) (hi : PI' X c ki tg iter fi) (ok : BlkOk X.N X.env.scope scope own)
    (hg : ∀ (s : Shared) (H : Hp) (C : Addr) (cl : List (Str × Addr)) (fp : List Addr), PG' (X.blk s H scope (compEnvC scope cl C X.env) fp) c.nx gs tg ga) (ht : ∀ (s : Shared) (H : Hp) (C : Addr) (cl : List (Str × Addr)) (fp : List Addr), PTs' (X.blk s H scope (compEnvC scope cl C X.env) fp) c.nx ifs t)
    (he : ∀ (s : Shared) (H : Hp) (C : Addr) (cl : List (Str × Addr)) (fp : List Addr), PE' (X.blk s H scope (compEnvC scope cl C X.env) fp) c.nx .st elt fe) (hy : X.N[i]? = some y := by rfl) (hyl : X.env.scope.names.lookup y = some .local := by rfl)
    (hsw : swapsWith (.ListComp elt [⟨tg, iter, ifs, 0⟩] scope pos) (some (.Name y py)) spos.line X.env = pure true := by exact sw_true rfl rfl rfl (by decide +kernel)) (hgs : ∀ i, i ∈ gs → i ∈ own.map (·.2) := by decide) (hs : ∀ x, foldedSetIterable iter X.env x = pure x := by intro _; rfl) :
    PS' X c fr [i] (.Assign [.Name y py] (.ListComp elt [⟨tg, iter, ifs, 0⟩] scope pos) spos) (sSet i (lcE fi ga t fe (own.map (·.2)))) :=
  psI (ps_setLc hc hN hy hyl hsw hi ok hg ht he hs) fun Dn σ H q => lc_go (fun _ _ _ _ z => z) (fun _ _ _ z => z) (fun _ _ _ z => z) hgs (setF_go q)
/-- x op= e, ints -/
def sAug (i : Nat) (o : D → D → R D) (f : FE) : FS := fun S => eV i S >>= fun x => f S >>= fun y => (o x y).nox >>= fun z => .ok (.nx, S.set i (some ⟨false, z⟩))
theorem eV_exc {i : Nat} {S : Env} {x : Exc} : eV i S ≠ .exc x := by unfold eV; split <;> intro h <;> cases h
theorem eV_of {i : Nat} {S : Env} {d : D} (h : eV i S = .ok d) : S[i]? = some (some ⟨false, d⟩) := by
  unfold eV at h
  split at h
  · cases h; assumption
  · cases h
def IpI (X : Cx) (op : Operator) (o : D → D → R D) : Prop := ∃ gf : Int → Int → Int, PIp X op (ipI gf) ∧ ∀ x y d, o x y = .ok d → (∀ i j, x = .int i → y = .int j → d = .int (gf i j))
theorem i_add : IpI X .Add addD := ⟨_, ip_add, fun x y d h i j e1 e2 => by subst e1; subst e2; simp only [addD] at h; cases h; rfl⟩
theorem i_sub : IpI X .Sub subD := ⟨_, ip_sub, fun x y d h i j e1 e2 => by subst e1; subst e2; simp only [subD] at h; cases h; rfl⟩
/-- both are ints -/
def bothI : D → D → Bool
  | .int _, .int _ => true
  | _, _ => false
def sAugI (i : Nat) (o : D → D → R D) (f : FE) : FS := fun S => eV i S >>= fun x => f S >>= fun y => if bothI x y then (o x y).nox >>= fun z => .ok (.nx, S.set i (some ⟨false, z⟩)) else .fail
theorem s_aug (i : Nat) {op : Operator} {oo : D → D → R D} (ho : IpI X op oo) (hN : X.N.Nodup) (he : PE' X c k1 e f) (hi : X.N[i]? = some x := by rfl) (hx : Loc X.env.scope x := by first | exact Or.inl rfl | exact Or.inr rfl) (hf : X.fn x = true ∨ X.env.scope.names.lookup x = some .local := by first | exact .inl rfl | exact .inr rfl) :
    PS' X c fr [i] (.AugAssign (.Name x p') op e pos) (sAugI i oo f) := by
  obtain ⟨gf, h1, h2⟩ := ho
  refine psI (ps_aug hN hi hx he h1 hf) fun Dn σ H ⟨G, S, rel, p⟩ => ?_
  have p : PostS c fr [i] G S σ H Dn (eV i S >>= fun x => f S >>= fun y => if bothI x y then (oo x y).nox >>= fun z => .ok (.nx, S.set i (some ⟨false, z⟩)) else .fail) := p
  cases e0 : eV i S with
  | exc x => exact absurd e0 eV_exc
  | fail => rw [e0] at p; exact p.elim
  | ok d =>
    rw [e0, R.ok_bind] at p
    obtain ⟨v, es, rv⟩ := rel.fz i d (eV_of e0)
    refine ⟨v, es, ?_⟩
    refine rdE_go (Post := PostS c fr [i] G S σ H Dn) rel p (fun _ z => z) (fun z => z) fun d2 v2 G' H' sp q p1 => ?_
    by_cases hb : bothI d d2 = true
    · rw [if_pos hb] at p1
      cases d <;> first | (simp [bothI] at hb; done) | skip
      cases d2 <;> first | (simp [bothI] at hb; done) | skip
      rename_i a1 a2
      cases rv
      obtain rfl := q.now.int
      cases e1 : oo (.int a1) (.int a2) with
      | exc x => rw [e1] at p1; exact p1.elim
      | fail => rw [e1] at p1; exact p1.elim
      | ok z =>
        rw [e1] at p1
        have := h2 _ _ _ e1 a1 a2 rfl rfl
        subst this
        exact ⟨a1, a2, rfl, rfl, p1 G' _ H' sp.g ((rel.grow sp).setS i (.int _)) ((Frm.step (as := []) rel sp).trans (Frm.set i _ _))⟩
    · rw [if_neg hb] at p1; exact p1.elim
/-- a, b = x, y and a, b, c = x, y, z -/
def putS (S : Env) : List Nat → List D → Env
  | i :: is, d :: ds => putS (S.set i (some ⟨false, d⟩)) is ds
  | _, _ => S
def sPar (is : List Nat) (fa : FA) : FS := fun S => fa S >>= fun ds => if ds.length = is.length then .ok (.nx, putS S is ds) else .fail
theorem s_par2 (i j : Nat) {fa : FA} {px py pt pt2 : Pos} {kt kk : Nat} (hN : X.N.Nodup) (ha : PA' X c false [a, b] fa) (hi : X.N[i]? = some x := by rfl) (hj : X.N[j]? = some y := by rfl) (hij : i ≠ j := by decide) (hx : X.env.scope.names.lookup x = some .local := by rfl) (hy : X.env.scope.names.lookup y = some .local := by rfl)
    (hc : X.calm = true := by rfl) (hsw : swappedStores [.Tuple [.Name x px, .Name y py] kt pt] (.Tuple [a, b] kk pt2) X.env = pure (some [x, y]) := by rfl) (hs : swapsWithSole [.Tuple [.Name x px, .Name y py] kt pt] (.Tuple [a, b] kk pt2) pos.line X.env = pure false := by rfl) :
    PS' X c fr [i, j] (.Assign [.Tuple [.Name x px, .Name y py] kt pt] (.Tuple [a, b] kk pt2) pos) (sPar [i, j] fa) :=
  psI (ps_par hc hN hi hj hij hx hy ha hsw hs) fun Dn σ H ⟨G, S, rel, p⟩ => by
    refine rdA_go (g := fun ds => if ds.length = [i, j].length then .ok (Fl.nx, putS S [i, j] ds) else .fail) (Post := PostS c fr [i, j] G S σ H Dn) rel p (fun _ z => z) (fun z => z) fun ds vs G' H' sp q p1 => ?_
    have q : RDs c.k G' ds vs := q
    rcases q with _ | ⟨r1, _ | ⟨r2, _ | ⟨r3, r4⟩⟩⟩
    · exact p1.elim
    · exact p1.elim
    · exact ⟨_, _, rfl, p1 G' _ H' sp.g (((rel.grow sp).setS i r1).setS j r2) ((Frm.step (as := []) rel sp).trans ((Frm.set i _ _).trans (Frm.set j _ _)))⟩
    · simp only [List.length_cons, List.length_nil] at p1; rw [if_neg (by omega)] at p1; exact p1.elim
theorem s_par3 (i j l : Nat) {z : Str} {cc : Expr} {fa : FA} {px py pz pt pt2 : Pos} {kt kk : Nat} (hN : X.N.Nodup) (ha : PA' X c false [a, b, cc] fa) (hi : X.N[i]? = some x := by rfl) (hj : X.N[j]? = some y := by rfl) (hl : X.N[l]? = some z := by rfl) (hij : i ≠ j := by decide) (hil : i ≠ l := by decide) (hjl : j ≠ l := by decide)
    (hx : X.env.scope.names.lookup x = some .local := by rfl) (hy : X.env.scope.names.lookup y = some .local := by rfl) (hz : X.env.scope.names.lookup z = some .local := by rfl)
    (hc : X.calm = true := by rfl) (hsw : swappedStores [.Tuple [.Name x px, .Name y py, .Name z pz] kt pt] (.Tuple [a, b, cc] kk pt2) X.env = pure (some [x, y, z]) := by rfl) (hs : swapsWithSole [.Tuple [.Name x px, .Name y py, .Name z pz] kt pt] (.Tuple [a, b, cc] kk pt2) pos.line X.env = pure false := by rfl) :
    PS' X c fr [i, j, l] (.Assign [.Tuple [.Name x px, .Name y py, .Name z pz] kt pt] (.Tuple [a, b, cc] kk pt2) pos) (sPar [i, j, l] fa) :=
  psI (ps_par3 hc hN hi hj hl hij hil hjl hx hy hz ha hsw hs) fun Dn σ H ⟨G, S, rel, p⟩ => by
    refine rdA_go (g := fun ds => if ds.length = [i, j, l].length then .ok (Fl.nx, putS S [i, j, l] ds) else .fail) (Post := PostS c fr [i, j, l] G S σ H Dn) rel p (fun _ z => z) (fun z => z) fun ds vs G' H' sp q p1 => ?_
    have q : RDs c.k G' ds vs := q
    rcases q with _ | ⟨r1, _ | ⟨r2, _ | ⟨r3, _ | ⟨r4, r5⟩⟩⟩⟩
    · exact p1.elim
    · exact p1.elim
    · exact p1.elim
    · exact ⟨_, _, _, rfl, p1 G' _ H' sp.g ((((rel.grow sp).setS i r1).setS j r2).setS l r3) ((Frm.step (as := []) rel sp).trans ((Frm.set i _ _).trans ((Frm.set j _ _).trans (Frm.set l _ _))))⟩
    · simp only [List.length_cons, List.length_nil] at p1; rw [if_neg (by omega)] at p1; exact p1.elim
end
end M
set_option Elab.async false
set_option linter.all false
set_option maxRecDepth 100000
set_option maxHeartbeats 4000000
namespace M
open PySem L2
/-! ### {elt for target in iter if ..}, the set told by a family of objects -/
section
variable {τ κ : Type}
/-- the new set's object -/
def freshSet (w : World) : Obj := { cls := .type "set", dict := none, data := .set #[] 0 (.fresh 0 0 (!w.params.followText "set-order")) }
structure Fam (P : Program) (w : World) (K : PySem.W.Frag) (τ κ : Type) where
  ob : τ → Addr → HO
  t0 : τ
  pre : τ → V → κ → Hp → Prop
  post : τ → V → κ → τ → Prop
  new : ∀ (H : Hp) (h : Heap) (a : Addr), h.get? a = some (freshSet w) → ObjOk P w H h a (ob t0 a)
  add : ∀ (X : Cx), X.prog = P → X.w = w → X.K = K → X.A.units + 64 < cLine → ∀ (pins : List (Addr × Obj)) (s : Shared) (σ : L2.St) (H : Hp) (S : Addr) (t : τ) (y : V) (kk : κ) (u : Value) (Q : Value → Shared → Prop) (E : Value → Shared → Prop), Inv X pins σ H s → H S = some (ob t S) → RelV y u → pre t y kk H →
    (∀ t' s', post t y kk t' → Inv X pins σ (upd H S (ob t' S)) s' → Q .none s') → wpAny (model P w) X.A (call (.builtin "set.add") [.ref S, u]) Q E s
def tScG {P : Program} {w : World} {K : PySem.W.Frag} (F : Fam P w K τ κ) (wi : TI) (g : TG) (tt : TT) (te : TE) (vs : List Nat) : TE := fun σ H Q => wi σ H fun J H1 => ∀ S, H1 S = none → ∃ W : Nat → Nat → Hp → Prop, (∃ m, W 0 m (upd H1 S (F.ob F.t0 S))) ∧ ∀ i m H, W i m H →
  (J.stop i H ∧ Q (.ref S) H) ∨ (J.go i H ∧ ∃ Nx : Hp → Prop, (∀ H', Nx H' → ∃ m', m' < m ∧ W (i + 1) m' H') ∧ ∀ x H', J.yld i H x H' → g x (L2.wipe σ vs) H' fun σ2 H2 => L2.wipe σ2 vs = L2.wipe σ vs ∧ tt σ2 H2 fun b H3 =>
    if b = true then te σ2 H3 fun y H4 => ∃ t kk, H4 S = some (F.ob t S) ∧ F.pre t y kk H4 ∧ ∀ t', F.post t y kk t' → Nx (upd H4 S (F.ob t' S)) else Nx H3)
variable {X : Cx}
theorem pe_scG (F : Fam X.prog X.w X.K τ κ) {elt tg iter : Expr} {ifs : List Expr} {scope : Scope} {own : List (Str × Nat)} {pos : Pos} {wi : TI} {g : TG} {tt : TT} {te : TE} (hu : X.A.units + 64 < cLine) (hc : X.calm = true) (hN : X.N.Nodup) (hi : PI X tg iter wi) (ok : BlkOk X.N X.env.scope scope own)
    (hg : ∀ (s : Shared) (H : Hp) (C : Addr) (cl : List (Str × Addr)) (fp : List Addr), PG (X.blk s H scope (compEnvC scope cl C X.env) fp) tg g) (ht : ∀ (s : Shared) (H : Hp) (C : Addr) (cl : List (Str × Addr)) (fp : List Addr), PTs (X.blk s H scope (compEnvC scope cl C X.env) fp) ifs tt)
    (he : ∀ (s : Shared) (H : Hp) (C : Addr) (cl : List (Str × Addr)) (fp : List Addr), PE (X.blk s H scope (compEnvC scope cl C X.env) fp) elt te) (hs : ∀ x, foldedSetIterable iter X.env x = pure x := by intro _; rfl) :
    PE X (.SetComp elt [⟨tg, iter, ifs, 0⟩] scope pos) (tScG F wi g tt te (own.map (·.2))) := by
  constructor
  intro pins s σ H Q I rd
  rw [PpSet.eval_SetComp]
  have cells : ∀ y ∈ scope.names, y.2 = .free → ∃ c, X.env.cells.lookup y.1 = some c := fun y hy e => (ok.free y hy e).elim (fun k => I.ok.has _ (.inl k)) fun k => I.ok.has _ (.inr k)
  refine wpAny_comprehension_free (use := none) rfl hs (closure_ok cells) ok.kind (fun y hy e => by rw [ok.uniq y hy, e]) (thn (hi.run pins s σ H _ I rd) fun xv s1 hx => thn hx fun itv s2 h2 => ?_)
  obtain ⟨it, fp, tn, J, H2, rfl, I2, T, st2, f2, q⟩ := h2
  refine PpSet.newSet_ok (newEnv_comp ?_)
  -- the new set stands at a new place
  have hfr : H2 s2.heap.objs.size = none := I2.hok.fresh (Nat.le_refl _)
  generalize hA : s2.heap.objs.size = A0 at hfr
  obtain ⟨W, ⟨m0, w0⟩, turn⟩ := q A0 hfr
  obtain ⟨s3, hs3⟩ : ∃ s3 : Shared, s3 = { s2 with heap := s2.heap.push (freshSet X.w) } := ⟨_, rfl⟩
  obtain ⟨H3, hH3⟩ : ∃ H3 : Hp, H3 = upd H2 A0 (F.ob F.t0 A0) := ⟨_, rfl⟩
  have old : ∀ b o, s2.heap.get? b = some o → s3.heap.get? b = some o := fun b o e => by rw [hs3]; exact Heap.get?_push_of_some _ e
  have I3 : Inv X pins σ H3 s3 := by
    rw [hs3, hH3]
    exact I2.laid (t' := s2.toks) (fun b o e => Heap.get?_push_of_some _ e) (Nat.le_of_eq hA) (F.new _ _ _ (by rw [← hA]; exact Heap.get?_push_size _ rfl))
  have there : ∀ b ∈ fp, b < s2.heap.objs.size := fun b hb => by
    obtain ⟨o, e, _⟩ := T.obj _ _ st2 b hb
    exact Heap.lt_size e
  have f3 : ∀ b ∈ fp, FpOk X pins H3 b ∧ b < s3.heap.objs.size := fun b hb => by
    have lt := there b hb
    refine ⟨⟨?_, (f2 b hb).2⟩, by rw [hs3]; exact (Heap.size_push ..).symm ▸ Nat.lt_succ_of_lt lt⟩
    rw [hH3, upd_ne (by rw [← hA]; exact Nat.ne_of_lt lt)]
    exact (f2 b hb).1
  have st3 : tn 0 s3.heap := T.keep _ _ _ st2 fun b _ o e => old b o e
  have I4 := block_start I3 ok hN f3
  have pg := hg s3 H3 s3.heap.objs.size (cellsFrom (s3.heap.objs.size + 1) scope.names (cloFrom X.env.cells scope.names [])) fp
  have pt := ht s3 H3 s3.heap.objs.size (cellsFrom (s3.heap.objs.size + 1) scope.names (cloFrom X.env.cells scope.names [])) fp
  have pe := he s3 H3 s3.heap.objs.size (cellsFrom (s3.heap.objs.size + 1) scope.names (cloFrom X.env.cells scope.names [])) fp
  have goal : codeAny (model X.prog X.w) X.A (.compStart (.SetComp elt [⟨tg, iter, ifs, 0⟩] scope pos) 0 (.ref it) (.ref A0) (compEnvC scope (cellsFrom (s3.heap.objs.size + 1) scope.names (cloFrom X.env.cells scope.names [])) s3.heap.objs.size X.env))
      (compPost (model X.prog X.w) X.A X.xe none (EP X pins σ Q) (.ref A0) s3.heap.objs.size) { s3 with heap := pushCells (s3.heap.push { cls := .type "dict", data := .dict #[] }) scope.names } := by
    generalize hce : compEnvC scope (cellsFrom (s3.heap.objs.size + 1) scope.names (cloFrom X.env.cells scope.names [])) s3.heap.objs.size X.env = ce at I4 pg pt pe ⊢
    have cL : ce.locals = s3.heap.objs.size := by subst hce; rfl
    generalize hs4 : ({ s3 with heap := pushCells (s3.heap.push { cls := .type "dict", data := .dict #[] }) scope.names } : Shared) = s4 at I4 ⊢
    have st4 : tn 0 s4.heap := T.keep _ _ _ st3 fun b _ o e => by rw [← hs4]; exact pushCells_keeps _ _ _ _ (Heap.get?_push_of_some _ e)
    have fpo : ∀ {σ' : L2.St} {H' : Hp} {s' : Shared}, Inv (X.blk s3 H3 scope ce fp) [] σ' H' s' → (∀ b ∈ fp, H' b = none) → ∀ b ∈ fp, FpOk (X.blk s3 H3 scope ce fp) [] H' b := fun {σ' H' s'} J' hn b hb =>
      ⟨hn b hb, (J'.ok.exf b hb).1, J'.ok.exfs b hb, .inl hb, (J'.ok.exf b hb).2, fun p hp => by cases (show p ∈ ([] : List (Addr × Obj)) from hp)⟩
    have loop : codeAny (model X.prog X.w) X.A (.compLoop (.SetComp elt [⟨tg, iter, ifs, 0⟩] scope pos) 0 (.ref it) (.ref A0) ce) (compPost (model X.prog X.w) X.A X.xe none (EP X pins σ Q) (.ref A0) s3.heap.objs.size) s4 := by
      refine PpSet.compLoopS_any (fun n s' => ∃ i H', Inv (X.blk s3 H3 scope ce fp) [] (L2.wipe σ (own.map (·.2))) H' s' ∧ tn i s'.heap ∧ (∀ b ∈ fp, H' b = none) ∧ W i n H') ?_ m0 ⟨0, H3, I4, st4, fun b hb => (f3 b hb).1.1, by rw [hH3]; exact w0⟩
      rintro n s5 ⟨i, H5, I5, st5, n5, w5⟩
      rcases turn i n H5 w5 with ⟨stop, qq⟩ | ⟨go, Nx, hNx, step⟩
      · refine thnF (T.done (X.blk s3 H3 scope ce fp) rfl rfl rfl hc i [] s5 _ H5 (fun _ _ => False) I5 (fpo I5 n5) st5 stop) fun r s6 ⟨hr, I6⟩ => ?_
        subst hr
        have I7 : Inv X pins σ H5 s6 := I3.call' (ch := fp) I6.os I6.base I6.hok I6.bare fun b hb => ⟨(f3 b hb).1.2.2.2.1, (f3 b hb).1.2.1, (f3 b hb).1.2.2.2.2.1, (f3 b hb).1.2.2.2.2.2⟩
        have nC : H5 s3.heap.objs.size = none := by rw [← cL]; exact I6.free
        obtain ⟨m, hn, _⟩ := I6.loc
        have hn : s6.heap.Ns ce.locals m := hn
        rw [cL] at hn
        have fC := I3.fpOk (Nat.le_refl _) nC
        exact ⟨m, hn, fun h'' sb => ⟨.ref A0, H5, I7.turned (t' := s6.toks) (fun b o hb e => (sb.2 b hb).trans e) fC.1 fC.2.1 fC.2.2.2.1 fC.2.2.2.2.1 fC.2.2.2.2.2, rfl, qq⟩⟩
      · refine thnF (T.item (X.blk s3 H3 scope ce fp) rfl rfl rfl hc i [] s5 _ H5 (fun _ _ => False) I5 (fpo I5 n5) st5 go) fun r s6 ⟨u, hr, h6⟩ => ?_
        subst hr
        refine thnF h6 fun _ s7 ⟨x, H7, I7, r7, y7, st7, n7⟩ => ?_
        have I7' := I7.pinned (fpo I7 n7) (T.obj _ _ st7)
        refine thnF (pg.run _ s7 _ H7 x u _ I7' r7 (step x H7 y7)) fun _ s8 ⟨σ8, H8, I8, hw8, q8⟩ => ?_
        refine thnF (pt.run _ s8 σ8 H8 _ I8 q8) fun b s9 ⟨H9, I9, q9⟩ => ?_
        have fin : ∀ {s' : Shared} {H' : Hp}, Inv (X.blk s3 H3 scope ce fp) ([] ++ pinsAt fp s7.heap) σ8 H' s' → Nx H' → ∃ m, m < n ∧ ∃ i H', Inv (X.blk s3 H3 scope ce fp) [] (L2.wipe σ (own.map (·.2))) H' s' ∧ tn i s'.heap ∧ (∀ b ∈ fp, H' b = none) ∧ W i m H' := fun {s' H'} I' nx => by
          obtain ⟨m', hm, w'⟩ := hNx H' nx
          have pinned : ∀ b ∈ fp, ∀ o, s7.heap.get? b = some o → s'.heap.get? b = some o ∧ H' b = none := fun b hb o e =>
            let z := I'.pin (b, o) (List.mem_append_right _ (List.mem_append_right _ (mem_pinsAt hb e)))
            ⟨z.1, z.2.1⟩
          refine ⟨m', hm, i + 1, H', (I'.unpinned (pins := [])).weak (by rw [← hw8, wipe_length]) (fun j v e => ?_), T.keep _ _ _ st7 fun b hb o e => (pinned b hb o e).1, fun b hb => ?_, w'⟩
          · rw [← hw8] at e
            exact (wipe_some e).1
          · obtain ⟨o, e, _⟩ := T.obj _ _ st7 b hb
            exact (pinned b hb o e).2
        cases b with
        | false =>
          rw [if_neg Bool.false_ne_true] at q9 ⊢
          exact fin I9 q9
        | true =>
          rw [if_pos rfl] at q9 ⊢
          refine thnF (pe.run _ s9 σ8 H9 _ I9 q9) fun z s10 ⟨yv, H10, I10, r10, t, kk, ht10, hp10, nx⟩ => ?_
          exact F.add (X.blk s3 H3 scope ce fp) rfl rfl rfl hu _ s10 σ8 H10 A0 t yv kk z _ _ I10 ht10 r10 hp10 fun t' s11 hpost I11 => fin I11 (nx t' hpost)
    exact PpSet.codeAny_compStart_set loop (T.self X.A 0 _ _ _ st4 loop)
  rw [hs3] at goal
  exact goal
end
/-! ### a set of tuples of ints -/
section
theorem set_add_tup {P : Program} {w : World} {A : Around} {E : Value → Shared → Prop} {s : Shared} {a x : Addr} {L : List (Addr × List Int)} {es : Array (Int × Value)} {ep : Nat} {t : SetTable} {k : List Int} {Q : Value → Shared → Prop} (R : SetTR P w s.heap a L es ep t) (hx : IsT P w s.heap k x) (hu : A.units + 2 < cLine) (hfew : L.length + 1 < 64)
    (hQ : ∀ h' tk L' es' ep' t', Heap.SameBut a s.heap h' → SetTR P w h' a L' es' ep' t' → (k ∈ L.map (·.2) → L' = L) → (k ∉ L.map (·.2) → L'.Perm ((x, k) :: L)) → Q .none { s with heap := h', toks := tk }) : wpAny (model P w) A (call (.builtin "set.add") [.ref a, .ref x]) Q E s := by
  obtain ⟨o, ho, hex, hd⟩ := R.ob
  have hT : s.TypeIs (.ref a) "set" := ⟨o, ho, hex.1⟩
  refine wpAny_call_entry F.slot_set_add hT F.entry_set_add ?_ (F.args_set_add_2 _ _)
  unfold Builtin.«set.add» Builtin.Frozenset.oneOther
  simp only [List.isEmpty_nil, bind_assoc]
  unfold Builtin.Frozenset.addrOf setAdd
  refine wpAny_bind (wpAny_pure ?_)
  try dsimp only
  refine wpAny_bind (wpAny_pure ?_)
  try dsimp only
  refine wpAny_bind ?_
  refine wpAny_holding ?_
  refine wpAny_bind (wpAny_pyHash_tuple (by first | exact Nat.lt_of_le_of_lt (Nat.le_add_right _ _) hu | (show A.units + 1 < cLine; omega) | omega) hx ?_)
  refine add_at (s := { s with toks := s.toks + (k.length + 1) }) R hx (by first | exact Nat.lt_of_le_of_lt (Nat.le_add_right _ _) hu | (show A.units + 1 < cLine; omega) | omega) hfew fun b h' L' es' ep' t' sb R' c1 c2 => ?_
  show wpAny _ _ (ret Value.none) _ _ _
  exact wpAny_pure ⟨_, rfl, hQ h' _ L' es' ep' t' sb R' c1 c2⟩
def famT (P : Program) (w : World) (K : PySem.W.Frag) : Fam P w K (List (Addr × List Int)) (List Int) where
  ob := fun L a => SetTO P w a L
  t0 := []
  pre := fun L y k H => (∀ p ∈ L, SqT K H p.1 (p.2.map V.int)) ∧ L.length + 1 < 64 ∧ ∃ x, y = .ref x ∧ SqT K H x (k.map V.int)
  post := fun L y k L' => ∃ x, y = .ref x ∧ (k ∈ L.map (·.2) → L' = L) ∧ (k ∉ L.map (·.2) → L'.Perm ((x, k) :: L))
  new := fun H h a e => setTO_new (setTR_fresh e).t0
  add := by
    intro X hP hw hK hu pins s σ H S L y k u Q E I hS ry hp hq
    subst hP hw hK
    obtain ⟨h1, h2, x, rfl, h3⟩ := hp
    cases ry
    have R0 : SetT0 X.prog X.w s.heap S L := (I.hok S _ hS).1
    obtain ⟨es, ep, t, R⟩ := R0.full fun p hp => I.isT (h1 p hp)
    refine set_add_tup R (I.isT h3) (by omega) h2 fun h' tk L' es' ep' t' sb R' c1 c2 => ?_
    have he : ∃ u, h'.get? S = some u := by
      obtain ⟨o, ho, _⟩ := R'.ob
      exact ⟨o, ho⟩
    exact hq L' _ ⟨x, rfl, c1, c2⟩ (I.write (e := S) (t' := tk) (by rw [hS]; trivial) (.inl rfl) (fun b u hb hu => (sb.2 b hb).trans hu) he (setTO_new R'.t0))
/-- len of such a set -/
theorem call_lenT {X : Cx} : CallR X (.builtin "len") (fun xs H Q => ∃ a L, xs = [V.ref a] ∧ H a = some (SetTO X.prog X.w a L) ∧ (∀ p ∈ L, SqT X.K H p.1 (p.2.map V.int)) ∧ Q (.int L.length) H) := by
  intro pins s σ H xs us Q I r h
  obtain ⟨a, L, rfl, ha, ht, q⟩ := h
  rw [Vals.ref1 r]
  have R0 : SetT0 X.prog X.w s.heap a L := (I.hok a _ ha).1
  obtain ⟨es, ep, t, R⟩ := R0.full fun p hp => I.isT (ht p hp)
  obtain ⟨o, ho, hex, hd⟩ := R.ob
  have hs := R.size
  have hf := R.few
  refine call_len_set ho hex hd R.fits (by omega) ⟨.int L.length, H, I.tok _, ⟨_, by rw [hs]⟩, q⟩
/-- the keys of a list, each once -/
def nubT (acc : List (List Int)) (k : List Int) : List (List Int) := if k ∈ acc then acc else k :: acc
def nub (ks : List (List Int)) : List (List Int) := ks.foldl nubT []
def asT : D → Option (List Int)
  | .tup ds => asI ds
  | _ => none
def asTs : List D → Option (List (List Int))
  | [] => some []
  | d :: ds => match asT d, asTs ds with
    | some k, some ks => some (k :: ks)
    | _, _ => none
/-- len({elt for ..}), the elements tuples of ints -/
def lenSc (fi : FI) (ga : FG) (t : FT) (fe : FE) (vs : List Nat) : FE := fun S => fi S >>= fun ds => if ds.length < 60 then lcF ga t fe (wipeS S vs) ds >>= fun ys => (match asTs ys with
  | some ks => .ok (.int (nub ks).length)
  | none => .fail) else .fail
theorem RD.asT {k : Kn} {G : Hp} {d : D} {v : V} {ns : List Int} (r : RD k G d v) (h : M.asT d = some ns) : ∃ a, v = .ref a ∧ SqU k.K G a (ns.map V.int) := by
  cases d <;> simp only [M.asT] at h <;> first | (cases h; done) | skip
  cases r with
  | tup hs hr =>
    have := asI_of hr h
    subst this
    exact ⟨_, rfl, hs⟩
theorem lenSc_go {X : Cx} {c : Cf} {t : FT} {ki gs vs : List Nat} {fi : FI} {ga : FG} {fe : FE} {σ : L2.St} {H : Hp} {Q : VK} {gi : TG} {tt : TT} {te : TE} (hk : c.k.K = X.K) (hg : ∀ v σ H Q, RdG c.nx gs ga v σ H Q → gi v σ H Q) (ht : ∀ σ H Q, RdT c.nx t σ H Q → tt σ H Q) (he : ∀ σ H Q, RdE c.nx .st fe σ H Q → te σ H Q)
    (hgs : ∀ i, i ∈ gs → i ∈ vs) (q : RdE c .st (lenSc fi ga t fe vs) σ H Q) :
    tScG (famT X.prog X.w X.K) (RdI c ki fi) gi tt te vs σ H fun v H1 => ∃ a L, [v] = [V.ref a] ∧ H1 a = some (SetTO X.prog X.w a L) ∧ (∀ p ∈ L, SqT X.K H1 p.1 (p.2.map V.int)) ∧ Q (.int L.length) H1 := by
  obtain ⟨G, S, rel, p⟩ := q
  refine ⟨G, S, rel, ?_⟩
  have p : PostE c .st G S σ H Q (fi S >>= fun ds => if ds.length < 60 then lcF ga t fe (wipeS S vs) ds >>= fun ys => (match asTs ys with
    | some ks => .ok (.int (nub ks).length)
    | none => .fail) else .fail) := p
  cases e0 : fi S with
  | exc x => rw [e0] at p; exact p
  | fail => rw [e0] at p; exact p
  | ok ds =>
    rw [e0, R.ok_bind] at p
    by_cases hz : ds.length < 60
    · rw [if_pos hz] at p
      intro J G1 H1 sp it Dl hD
      have relb := ((rel.grow sp).wipe vs).cw (W := E0)
      refine ⟨fun i m H2 => m = ds.length - i ∧ i ≤ ds.length ∧ ∃ G2 L ac, Step G1 H1 G2 H2 ∧ G2 Dl = none ∧ H2 Dl = some (SetTO X.prog X.w Dl L) ∧ (∀ p ∈ L, SqU c.k.K G2 p.1 (p.2.map V.int)) ∧ (L.map (·.2)).Perm ac ∧ ac.length ≤ i ∧
          PostE c .st G S σ H Q (lcF ga t fe (wipeS S vs) (ds.drop i) >>= fun ys => (match asTs ys with
            | some ks => .ok (.int (ks.foldl nubT ac).length)
            | none => .fail)),
        ⟨_, rfl, Nat.zero_le _, G1, [], [], Step.new' sp.gh hD, sp.gh.free hD, upd_same, fun p hp => (by cases hp), List.Perm.nil, Nat.zero_le _, by simpa [nub] using p⟩, ?_⟩
      rintro i m H2 ⟨rfl, hle, G2, L, ac, sp2, hGD, hHD, hr, hpm, hal, p2⟩
      have rel2 : Rel c.nx G2 (wipeS S vs) (L2.wipe σ vs) H2 := relb.grow sp2
      have itm := it G2 H2 sp2.g sp2.gh fun j hj x ow => by
        obtain ⟨_, _, o, _, ho, _⟩ := (rel.grow sp).own ow
        rw [ho, sp2.h _ _ ho]
      have nD : ∀ {G6 H6 : Hp}, Step G2 H2 G6 H6 → G6 Dl = none ∧ H6 Dl = some (SetTO X.prog X.w Dl L) := fun {G6 H6} z => by
        refine ⟨?_, z.h _ _ hHD⟩
        cases q : G6 Dl with
        | none => rfl
        | some o =>
          rcases z.gr _ _ q with w | w
          · rw [hGD] at w; cases w
          · rw [hHD] at w; cases w
      by_cases hlt : i < ds.length
      · obtain ⟨d, hd⟩ : ∃ d, ds[i]? = some d := ⟨ds[i], List.getElem?_eq_getElem hlt⟩
        have hdrop : ds.drop i = d :: ds.drop (i + 1) := by
          rw [List.drop_eq_getElem_cons hlt]; congr 1; rw [List.getElem?_eq_getElem hlt] at hd; exact Option.some.inj hd
        rw [hdrop] at p2
        obtain ⟨hgo, hy⟩ := itm.2 i d hd
        refine .inr ⟨hgo, fun H' => ∃ G3 L ac, Step G1 H1 G3 H' ∧ G3 Dl = none ∧ H' Dl = some (SetTO X.prog X.w Dl L) ∧ (∀ p ∈ L, SqU c.k.K G3 p.1 (p.2.map V.int)) ∧ (L.map (·.2)).Perm ac ∧ ac.length ≤ i + 1 ∧
          PostE c .st G S σ H Q (lcF ga t fe (wipeS S vs) (ds.drop (i + 1)) >>= fun ys => (match asTs ys with
            | some ks => .ok (.int (ks.foldl nubT ac).length)
            | none => .fail)), fun H' ⟨G3, r3⟩ => ⟨_, by omega, rfl, hlt, G3, r3⟩, fun x H3 hx => ?_⟩
        obtain ⟨G3, sp3, hd3⟩ := hy x H3 hx
        refine hg x _ H3 _ ⟨G3, wipeS S vs, d, rel2.grow sp3, hd3, ?_⟩
        unfold lcF at p2
        cases e1 : ga d (wipeS S vs) with
        | exc x => rw [e1] at p2; exact p2.elim
        | fail => rw [e1] at p2; exact p2.elim
        | ok S1 =>
          rw [e1, R.nox_ok, R.ok_bind] at p2
          intro G4 σ4 H4 sp4 rel4 f4
          refine ⟨wipe_eq (by rw [f4.len, wipe_length]) fun j hj => f4.sg j fun z => hj (hgs j z), ht σ4 H4 _ ⟨G4, S1, rel4, ?_⟩⟩
          cases e2 : t S1 with
          | exc x => rw [e2] at p2; exact p2.elim
          | fail => rw [e2] at p2; exact p2.elim
          | ok b =>
            rw [e2, R.nox_ok, R.ok_bind] at p2
            intro G5 H5 sp5
            have spA : Step G2 H2 G5 H5 := (sp3.trans sp4).trans sp5
            cases b with
            | false =>
              rw [if_neg Bool.false_ne_true] at p2 ⊢
              exact ⟨G5, L, ac, sp2.trans spA, (nD spA).1, (nD spA).2, fun p hp => spA.g.sqU (hr p hp), hpm, by omega, p2⟩
            | true =>
              rw [if_pos rfl] at p2 ⊢
              refine he σ4 H5 _ ⟨G5, S1, rel4.grow sp5, ?_⟩
              cases e3 : fe S1 with
              | exc x => rw [e3] at p2; exact p2.elim
              | fail => rw [e3] at p2; exact p2.elim
              | ok y =>
                rw [e3, R.nox_ok, R.ok_bind] at p2
                intro v G6 H6 sp6 hv
                have hv : RD c.k G6 y v := hv
                have spB := spA.trans sp6
                cases e4 : lcF ga t fe (wipeS S vs) (ds.drop (i + 1)) with
                | exc x => exact absurd e4 (lcF_exc _)
                | fail => rw [e4] at p2; exact p2.elim
                | ok ys =>
                  rw [e4] at p2
                  have p2 : PostE c .st G S σ H Q (match asTs (y :: ys) with
                    | some ks => .ok (.int (ks.foldl nubT ac).length)
                    | none => .fail) := p2
                  simp only [asTs] at p2
                  cases ek : asT y with
                  | none => rw [ek] at p2; exact p2.elim
                  | some kk =>
                    cases es : asTs ys with
                    | none => rw [ek, es] at p2; exact p2.elim
                    | some ks =>
                      rw [ek, es] at p2
                      obtain ⟨xa, rfl, hxa⟩ := hv.asT ek
                      have hlen : L.length = ac.length := by rw [← List.length_map (f := fun (p : Addr × List Int) => p.2)]; exact hpm.length_eq
                      have hr6 : ∀ p ∈ L, SqU c.k.K G6 p.1 (p.2.map V.int) := fun p hp => spB.g.sqU (hr p hp)
                      refine ⟨L, kk, (nD spB).2, ⟨fun p hp => hk ▸ (sp6.gh.sqU (hr6 p hp)).t, by omega, xa, rfl, hk ▸ (sp6.gh.sqU hxa).t⟩, ?_⟩
                      rintro L' ⟨xb, hxb, c1, c2⟩
                      cases hxb
                      have spC : Step G1 H1 G6 (upd H6 Dl (SetTO X.prog X.w Dl L')) := by
                        have z := sp2.trans spB
                        exact ⟨z.g, z.h.upd hD, z.gh.upd (nD spB).1, z.gr⟩
                      by_cases hm : kk ∈ L.map (·.2)
                      · have := c1 hm
                        subst this
                        refine ⟨G6, L', ac, spC, (nD spB).1, upd_same, hr6, hpm, by omega, ?_⟩
                        rw [R.ok_bind, es]
                        have hm' : kk ∈ ac := hpm.mem_iff.mp hm
                        simpa only [List.foldl_cons, nubT, if_pos hm'] using p2
                      · have hp' := c2 hm
                        refine ⟨G6, L', kk :: ac, spC, (nD spB).1, upd_same, fun p hp => ?_, ?_, by simp only [List.length_cons]; omega, ?_⟩
                        · rcases List.mem_cons.mp (hp'.mem_iff.mp hp) with rfl | hp
                          · exact hxa
                          · exact hr6 p hp
                        · exact (hp'.map _).trans (List.Perm.cons _ hpm)
                        · rw [R.ok_bind, es]
                          have hm' : kk ∉ ac := fun z => hm (hpm.mem_iff.mpr z)
                          simpa only [List.foldl_cons, nubT, if_neg hm'] using p2
      · have hi : i = ds.length := by omega
        subst hi
        rw [List.drop_length] at p2
        refine .inl ⟨itm.1 _ (Nat.le_refl _), Dl, L, rfl, hHD, fun p hp => hk ▸ (sp2.gh.sqU (hr p hp)).t, ?_⟩
        have p2 : PostE c .st G S σ H Q (.ok (.int ac.length)) := p2
        have hlen : L.length = ac.length := by rw [← List.length_map (f := fun (p : Addr × List Int) => p.2)]; exact hpm.length_eq
        rw [hlen]
        exact p2 _ G2 H2 (sp.trans sp2) (.int _)
    · rw [if_neg hz] at p; exact p.elim
/-- len({elt for target in iter if ..}) -/
theorem d_lenSc {X : Cx} {c : Cf} {t : FT} {tg elt iter : Expr} {ifs : List Expr} {scope : Scope} {p1 p2 pos : Pos} {x : Str} (own : List (Str × Nat)) {ki gs : List Nat} {fi : FI} {ga : FG} {fe : FE} (hk : c.k.K = X.K) (hu : X.A.units + 64 < cLine) (hm : X.mg x = none) (hc : X.calm = true) (hN : X.N.Nodup) (hi : PI' X c ki tg iter fi) (ok : BlkOk X.N X.env.scope scope own)
    (hg : ∀ (s : Shared) (H : Hp) (C : Addr) (cl : List (Str × Addr)) (fp : List Addr), PG' (X.blk s H scope (compEnvC scope cl C X.env) fp) c.nx gs tg ga) (ht : ∀ (s : Shared) (H : Hp) (C : Addr) (cl : List (Str × Addr)) (fp : List Addr), PTs' (X.blk s H scope (compEnvC scope cl C X.env) fp) c.nx ifs t)
    (he : ∀ (s : Shared) (H : Hp) (C : Addr) (cl : List (Str × Addr)) (fp : List Addr), PE' (X.blk s H scope (compEnvC scope cl C X.env) fp) c.nx .st elt fe) (hgs : ∀ i, i ∈ gs → i ∈ own.map (·.2) := by decide) (hs : ∀ x, foldedSetIterable iter X.env x = pure x := by intro _; rfl)
    (hv : bootBuiltins x = some (.builtin "len") := by decide +kernel) (hgl : Gl X x := by rfl) (hn : x ≠ "__name__" := by decide) (hdb : (x == ("__debug__" : Str)) = false := by decide) :
    PE' X c .st (.Call (.Name x p1) [.SetComp elt [⟨tg, iter, ifs, 0⟩] scope p2] [] pos) (lenSc fi ga t fe (own.map (·.2))) :=
  peI (pe_callB call_lenT hgl hm hv (pa_cons (pe_scG (famT X.prog X.w X.K) hu hc hN hi ok hg ht he hs) pa_nil rfl) hn hdb rfl rfl) fun σ H Q q => lenSc_go hk (fun _ _ _ _ z => z) (fun _ _ _ z => z) (fun _ _ _ z => z) hgs q
end
end M
set_option Elab.async false
set_option linter.all false
set_option maxRecDepth 100000
set_option maxHeartbeats 4000000
namespace M
open PySem L2
open AutoSeq1 (wpAny_loadPart')
/-! ### enumerate of a tuple -/
theorem enum_new1 {v : Value} {o : Obj} {H : Heap → Prop} (B : Begins v o H) :
    Meets (Builtin.«enumerate.__new__» ⟨[.type "enumerate", v], []⟩) (fun _ R s => H s.heap ∧
      R (.ok (.ret (.ref (s.heap.push o).objs.size))) { s with heap := (s.heap.push o).push { cls := .type "enumerate", data := .fields #[.none, .bool false, .ref s.heap.objs.size, rawInt 0, .none, .none] } }) :=
  .of_wp fun prog w A R s h => by
    obtain ⟨hp, g, d, tk, os⟩ := s; obtain ⟨h1, h⟩ := h
    have hsub := sub_enumerate
    have q1 : ∀ {A' : Around} {E : Value → Shared → Prop} {Q : Value → Shared → Prop}, Q (.ref hp.objs.size) ⟨hp.push o, g, d, tk, os⟩ → wpAny (model prog w) A' (pyIter v) Q E ⟨hp, g, d, tk, os⟩ :=
      fun q => B.iter prog w _ _ ⟨hp, g, d, tk, os⟩ _ h1 q
    wp_walk using q1
    refine wpAny_stack_any fun st => wpAny_pure ?_
    split
    · rename_i c _ _ _ _ _
      cases (c == Value.type "enumerate")
      · wp_walk using q1
        exact ⟨_, rfl, h⟩
      · wp_walk using q1
        exact ⟨_, rfl, h⟩
    · wp_walk using q1
      exact ⟨_, rfl, h⟩
theorem enum_begins1 {prog : Program} {w : World} {A : Around} {E : Value → Shared → Prop} {s : Shared} {v : Value} {o : Obj} {H : Heap → Prop} {Q : Value → Shared → Prop} (B : Begins v o H) (h1 : H s.heap)
    (h : ∀ h', IsEnum h' (s.heap.objs.size + 1) s.heap.objs.size 0 .none → h'.get? s.heap.objs.size = some o → (∀ b o, s.heap.get? b = some o → h'.get? b = some o) → Q (.ref (s.heap.objs.size + 1)) { s with heap := h' }) :
    wpAny (model prog w) A (call (.type "enumerate") [v]) Q E s := by
  refine callType_new F.called_enumerate (by decide) (F.typeCall_enumerate_1 _) (F.newCall_enumerate_1 _) (fun obj => F.args_object_init_2 obj _) F.entry_enumerate_new (enum_new1 B) ⟨h1, ?_⟩
  have hz : (s.heap.push o).objs.size = s.heap.objs.size + 1 := Heap.size_push ..
  show _ ∧ _
  rw [hz]
  have he : IsEnum ((s.heap.push o).push { cls := .type "enumerate", data := .fields #[.none, .bool false, .ref s.heap.objs.size, rawInt 0, .none, .none] }) (s.heap.objs.size + 1) s.heap.objs.size 0 .none := by
    have := Heap.get?_push_size (s.heap.push o) (o := { cls := .type "enumerate", data := .fields #[.none, .bool false, .ref s.heap.objs.size, rawInt 0, .none, .none] }) rfl
    rw [hz] at this; exact this
  exact ⟨⟨_, he, rfl⟩, h _ he (Heap.get?_push_of_some _ (Heap.get?_push_size _ B.free)) fun b o x => Heap.get?_push_of_some _ (Heap.get?_push_of_some _ x)⟩
/-- the tuple at a, its items in new pairs with their numbers -/
def ItU (K : PySem.W.Frag) (a : Addr) : It :=
  ⟨fun i H => ∃ (xs : List V) (x : V), SqT K H a xs ∧ xs[i]? = some x, fun i H v H' => ∃ T x, v = .ref T ∧ H T = none ∧ H' = upd H T (.tup [.int (i : Nat), x]) ∧ ∀ xs, SqT K H a xs → xs[i]? = some x, fun i H => ∃ xs : List V, SqT K H a xs ∧ xs.length ≤ i⟩
theorem turn_enumT {P : Program} {w : World} {K : PySem.W.Frag} {elts : List Expr} {kk : Nat} {tpos : Pos} (a e it : Addr) :
    Turn P w K (.Tuple elts kk tpos) (ItU K a) [e, it] e (fun i h => (∃ old, IsEnum h e it ((i : Nat) : Int) old) ∧ h.IsTupleIter it a i ∧ e ≠ it) := by
  refine ⟨by simp, fun i h st b hb => ?_, fun i h h' st k => ?_, ?_, ?_, fun A i s Q E st h => ?_⟩
  · obtain ⟨⟨old, he⟩, ⟨o, ho, hc, hd⟩, _⟩ := st
    rcases (by simpa using hb : b = e ∨ b = it) with z | z
    · rw [z]; exact ⟨_, he, fun v q => nomatch q⟩
    · rw [z]; exact ⟨o, ho, fun v q => by rw [hd] at q; cases q⟩
  · obtain ⟨⟨old, he⟩, hi, hne⟩ := st
    exact ⟨⟨old, k e (by simp) _ he⟩, hi.at fun o q => k it (by simp) o q, hne⟩
  · intro X hP hw hK hc i pins s σ H E I hf st hg
    subst hP hw hK
    obtain ⟨⟨old, he⟩, hit, hne⟩ := st
    obtain ⟨xs, x, hq, hx⟩ := hg
    obtain ⟨its, rv, p, hz⟩ := I.tuple hq
    obtain ⟨u, hu, ru⟩ := rv.get hx
    have pT : s.heap.IsTuple a its.toArray := p
    have hel : e < s.heap.objs.size := Heap.lt_size he
    have hil : it < s.heap.objs.size := by obtain ⟨_, q, _⟩ := hit; exact Heap.lt_size q
    have ai : a ≠ it := by
      rintro rfl
      obtain ⟨o1, q1, c1, _⟩ := hit
      obtain ⟨o2, q2, c2, _⟩ := pT
      rw [q1] at q2; cases q2; rw [c1] at c2; injection c2 with z; exact absurd z (by decide)
    have ea : e ≠ a := by
      rintro rfl
      obtain ⟨o2, q2, c2, _⟩ := pT
      rw [show s.heap.get? e = some _ from he] at q2; cases q2; injection c2 with z; exact absurd z (by decide)
    have hlt : i < its.toArray.size := by rw [List.size_toArray]; exact (List.getElem?_eq_some_iff.mp hu).1
    refine wpAny_pyNext_enum_itemD (Draws.tuple (A := X.A.in1) (I.ok.hd hc) it a ai its.toArray) he ⟨hit, pT⟩ hlt hne (by simp only [List.mem_cons, List.not_mem_nil, or_false, not_or]; exact ⟨hne, ea⟩) fun y h' tk hy ho st' hT hsz hk => ?_
    have hy' : y = u := by
      have z : its[i]? = some y := by simpa using hy
      rw [hu] at z; exact (Option.some.inj z).symm
    subst hy'
    refine ⟨_, rfl, wpAny_letOwnedTupleGo_enum (s := { s with heap := h', toks := tk + 1 }) ho fun h'' he' sb => ?_⟩
    have hT2 : h''.get? s.heap.objs.size = some { cls := .type "tuple", data := .seq #[.int i tk, y] } := (sb.2 _ (Nat.ne_of_gt hel)).trans hT
    have new : ObjOk X.prog X.w (upd H s.heap.objs.size (.tup [.int (i : Nat), x])) h'' s.heap.objs.size (.tup [.int (i : Nat), x]) :=
      ⟨by show 2 ≤ sizeLine; decide, [.int i tk, y], .cons ⟨_, rfl⟩ (.cons ru .nil), ⟨_, hT2, rfl, _, rfl⟩⟩
    have I1 : Inv X pins σ (upd H s.heap.objs.size (.tup [.int (i : Nat), x])) { s with heap := h'', toks := tk + 1 } :=
      I.turnedNew (ch := [e, it]) (fun b ob hb q => (sb.2 b (fun z => hb (by simp [z]))).trans (hk b ob (fun z => hb (by simp [z])) (fun z => hb (by simp [z])) q)) hf (Nat.le_refl _) new
    refine ⟨.ref s.heap.objs.size, _, I1, rfl, ⟨_, x, rfl, I.hok.fresh (Nat.le_refl _), rfl, fun ys hy => by rw [I.tuple_inj hy hq]; exact hx⟩, ⟨⟨y, ?_⟩, st'.1.at fun o q => (sb.2 it (Ne.symm hne)).trans q, hne⟩, fun b hb => ?_⟩
    · have e1 : ((i + 1 : Nat) : Int) = (i : Int) + 1 := by omega
      rw [e1]; exact he'
    · have hb' : b < s.heap.objs.size := by
        rcases (by simpa using hb : b = e ∨ b = it) with z | z
        · rw [z]; exact hel
        · rw [z]; exact hil
      rw [upd_ne (Nat.ne_of_lt hb')]
      exact (hf b hb).1
  · intro X hP hw hK hc i pins s σ H E I hf st hg
    subst hP hw hK
    obtain ⟨⟨old, he⟩, hit, hne⟩ := st
    obtain ⟨xs, hq, hx⟩ := hg
    obtain ⟨its, rv, p, hz⟩ := I.tuple hq
    obtain ⟨f0, f1, f2, f3, f4, f5⟩ := hf it (by simp)
    have pT : s.heap.IsTuple a its.toArray := p
    have ai : a ≠ it := by
      rintro rfl
      obtain ⟨o1, q1, c1, _⟩ := hit
      obtain ⟨o2, q2, c2, _⟩ := pT
      rw [q1] at q2; cases q2; rw [c1] at c2; injection c2 with z; exact absurd z (by decide)
    have hl := rv.length
    have hn : its.toArray[i]? = none := by simp; omega
    have hT : s.TypeIs (.ref e) "enumerate" := ⟨_, he, rfl⟩
    unfold pyNext
    refine wpAny_bind (wpAny_attempt (wpAny_callSpecial?_slot (name := Str.ofString "__next__") hT F.slot_enumerate_next (wpAny_call_entry F.slot_enumerate_next hT F.entry_enumerate_next ?_ (F.args_enumerate_next_1 _))))
    show wpAny _ _ (field (.ref e) 2 >>= _) _ _ _
    refine wpAny_bind (wpAny_field he rfl (x := .ref it) rfl ?_)
    refine wpAny_bind (wpAny_nextOf_tuple_end (A := X.A.in1) (I.ok.hd hc) hit pT hn fun h' x he' hx' => ?_)
    obtain ⟨o, ho, hcl⟩ := hx'
    refine wpAny_bind (wpAny_isInstance (T := "StopIteration") (b := true) ⟨o, ho, hcl⟩ isSubtype_stop ?_)
    exact wpAny_pure ⟨rfl, I.turned (t' := s.toks) (fun b o hb q => he' b o hb q) f0 f1 f3 f4 f5⟩
  · obtain ⟨⟨_, he⟩, _⟩ := st
    exact wpAny_pyIter_enum he h
theorem pi_enumT {X : Cx} {e : Expr} {ta : TA} {p pos tpos : Pos} {elts : List Expr} {kk : Nat} (hg : Gl X "enumerate") (hm : X.mg "enumerate" = none) (ha : PA X [e] ta) (hs : starEach [e] X.env = [(false, eval e X.env)] := by rfl) :
    PI X (.Tuple elts kk tpos) (.Call (.Name "enumerate" p) [e] [] pos) (fun σ H R => ta σ H fun vs H1 => ∃ a xs, vs = [.ref a] ∧ SqT X.K H1 a xs ∧ R (ItU X.K a) H1) := by
  constructor
  intro pins s σ H R I h
  refine PyProof.Rows.Call_ (ld_blt I hg hm PyProof.Rows.boot_enumerate (PyProof.Rows.callWith_type1 (thn (ha.run pos pins s σ H _ I h) fun us s1 ⟨vs, H1, I1, r1, q1⟩ => ?_) hs rfl))
  obtain ⟨a, xs, rfl, hq, q⟩ := q1
  rw [Vals.ref1 r1]
  obtain ⟨its, rv, p', hz⟩ := I1.tuple hq
  refine enum_begins1 (begins_tuple a its.toArray) p' fun h' he hit hk => wpAny_pyIter_enum he ?_
  have I2 : Inv X pins σ H1 { s1 with heap := h' } := I1.kept (t' := s1.toks) hk
  refine ⟨s1.heap.objs.size + 1, [s1.heap.objs.size + 1, s1.heap.objs.size], _, _, H1, rfl, I2, turn_enumT a (s1.heap.objs.size + 1) s1.heap.objs.size, ⟨⟨.none, he⟩, ⟨_, hit, rfl, rfl⟩, Nat.succ_ne_self _⟩, fun b hb => ?_, q⟩
  have hle : s1.heap.objs.size ≤ b := by
    rcases (by simpa using hb : b = s1.heap.objs.size + 1 ∨ b = s1.heap.objs.size) with z | z
    · rw [z]; exact Nat.le_add_right _ _
    · rw [z]; exact Nat.le_refl _
  exact I1.fpOk hle (I1.hok.fresh hle)
def enumAt (n : Nat) : List D → List D
  | [] => []
  | d :: ds => .tup [.int n, d] :: enumAt (n + 1) ds
theorem enumAt_get : ∀ (ds : List D) (n i : Nat), (enumAt n ds)[i]? = ds[i]?.map fun d => .tup [.int ((n + i : Nat) : Int), d]
  | [], n, i => by simp [enumAt]
  | d :: ds, n, 0 => by simp [enumAt]
  | d :: ds, n, i + 1 => by
    simp only [enumAt, List.getElem?_cons_succ]
    rw [enumAt_get ds (n + 1) i]
    congr 1
    funext d
    rw [show n + 1 + i = n + (i + 1) by omega]
theorem enumAt_length : ∀ (ds : List D) (n : Nat), (enumAt n ds).length = ds.length
  | [], n => rfl
  | d :: ds, n => by simp [enumAt, enumAt_length ds]
def enumerateF : List D → R (List D)
  | [.lst ds] => .ok (enumAt 0 ds)
  | [.tup ds] => .ok (enumAt 0 ds)
  | _ => .fail
theorem itm_enumL {k : Kn} {ki : List Nat} {G1 H1 : Hp} {S : Env} {σ : L2.St} {K : PySem.W.Frag} {ds : List D} {vs : List V} {p : Addr} (hr : RDs k G1 ds vs) (hs : G1 p = some (.lst vs)) : Itm k ki G1 S σ H1 (Ite K p) (enumAt 0 ds) := fun G H e1 e2 kp => by
  have q : SqL K H p vs := SqL.of (e2 _ _ (e1 _ _ hs))
  refine ⟨fun i hi => ⟨vs, q, by rw [enumAt_length] at hi; rw [← hr.length]; exact hi⟩, fun i d hd => ?_⟩
  rw [enumAt_get] at hd
  cases hd0 : ds[i]? with
  | none => rw [hd0] at hd; cases hd
  | some d0 =>
    rw [hd0] at hd
    have hd : D.tup [.int ((0 + i : Nat) : Int), d0] = d := Option.some.inj hd
    subst hd
    obtain ⟨v, hv, r⟩ := (hr.mono e1).get hd0
    refine ⟨⟨vs, v, q, hv⟩, fun x H' hx => ?_⟩
    obtain ⟨T, x', rfl, hT, rfl, hy⟩ := hx
    have := hy vs q
    rw [hv] at this; cases this
    refine ⟨_, Step.new e2 hT, .tup (SqU.of upd_same) (.cons ?_ (.cons (r.mono (Ex.new (e2.free hT))) .nil))⟩
    rw [Nat.zero_add]; exact .int _
theorem itm_enumT {k : Kn} {ki : List Nat} {G1 H1 : Hp} {S : Env} {σ : L2.St} {K : PySem.W.Frag} {ds : List D} {vs : List V} {p : Addr} (hr : RDs k G1 ds vs) (hs : SqT K G1 p vs) : Itm k ki G1 S σ H1 (ItU K p) (enumAt 0 ds) := fun G H e1 e2 kp => by
  have q : SqT K H p vs := e2.sqT (e1.sqT hs)
  refine ⟨fun i hi => ⟨vs, q, by rw [enumAt_length] at hi; rw [← hr.length]; exact hi⟩, fun i d hd => ?_⟩
  rw [enumAt_get] at hd
  cases hd0 : ds[i]? with
  | none => rw [hd0] at hd; cases hd
  | some d0 =>
    rw [hd0] at hd
    have hd : D.tup [.int ((0 + i : Nat) : Int), d0] = d := Option.some.inj hd
    subst hd
    obtain ⟨v, hv, r⟩ := (hr.mono e1).get hd0
    refine ⟨⟨vs, v, q, hv⟩, fun x H' hx => ?_⟩
    obtain ⟨T, x', rfl, hT, rfl, hy⟩ := hx
    have := hy vs q
    rw [hv] at this; cases this
    refine ⟨_, Step.new e2 hT, .tup (SqU.of upd_same) (.cons ?_ (.cons (r.mono (Ex.new (e2.free hT))) .nil))⟩
    rw [Nat.zero_add]; exact .int _
theorem i_enumerate {X : Cx} {c : Cf} {e : Expr} {fa : FA} {p pos tpos : Pos} {elts : List Expr} {kk : Nat} (hk : c.k.K = X.K) (hm : X.mg "enumerate" = none) (ha : PA' X c false [e] fa) (hg : Gl X "enumerate" := by rfl) (hs : starEach [e] X.env = [(false, eval e X.env)] := by rfl) :
    PI' X c [] (.Tuple elts kk tpos) (.Call (.Name "enumerate" p) [e] [] pos) (fun S => fa S >>= enumerateF) := by
  constructor
  intro pins st σ H Rq I q
  obtain ⟨G, S, rel, p⟩ := q
  have p : PostI c [] G S σ H Rq (fa S >>= enumerateF) := p
  cases e1 : fa S with
  | exc x => exact (pi_enum hg hm ha hs).run pins st σ H Rq I ⟨G, S, rel, by rw [e1] at p ⊢; exact p⟩
  | fail => rw [e1] at p; exact p.elim
  | ok ds =>
    rw [e1, R.ok_bind] at p
    unfold enumerateF at p
    split at p
    · rename_i ds0
      refine (pi_enum hg hm ha hs).run pins st σ H Rq I ⟨G, S, rel, ?_⟩
      rw [e1]
      intro vs G' H' sp q
      have q : RDs c.k G' [.lst ds0] vs := q
      cases q with
      | cons q1 q2 =>
        cases q2
        cases q1 with
        | lst h r => exact ⟨_, _, rfl, SqL.of (sp.gh _ _ h), p _ G' H' sp (itm_enumL r h)⟩
    · rename_i ds0
      refine (pi_enumT hg hm ha hs).run pins st σ H Rq I ⟨G, S, rel, ?_⟩
      rw [e1]
      intro vs G' H' sp q
      have q : RDs c.k G' [.tup ds0] vs := q
      cases q with
      | cons q1 q2 =>
        cases q2
        cases q1 with
        | tup h r => exact ⟨_, _, rfl, hk ▸ sp.gh.sqT h.t, p _ G' H' sp (itm_enumT r (hk ▸ h.t))⟩
    · exact p.elim
end M
set_option Elab.async false
set_option linter.all false
set_option maxRecDepth 100000
set_option maxHeartbeats 4000000
namespace M
open PySem L2
/-! ### methods -/
theorem zip_none : ∀ {nm : List Str} {vs : List V} {f : Str}, f ∉ nm → (nm.zip vs).lookup f = none
  | [], _, _, _ => by simp
  | _ :: _, [], _, _ => by simp
  | n :: nm, v :: vs, f, h => by
    simp only [List.mem_cons, not_or] at h
    rw [List.zip_cons_cons, List.lookup_cons, beq_eq_false_iff_ne.mpr h.1]
    exact zip_none h.2
def D.isObj (ci : Nat) : D → Bool
  | .obj c _ => c == ci
  | _ => false
/-- a method, wherever it is called -/
structure Method (P : Program) (w : World) (K : PySem.W.Frag) (mg : Str → Option Value) (base : Heap) (k : Kn) (lv : Nat) (ci : Nat) (m : Str) (n : Nat) (fr : Bool) (den : List D → R D) : Prop where
  ex : ∃ (C f : Addr) (fd : FuncData) (ps nm : List Str), ps.length = n ∧ k.cl ci = some (C, nm) ∧ m ∉ nm ∧ Cls K C ∧ Meth K C m f ∧ FnOk P w K mg base CX0 lv f fd ps (SpF k fr n den) ∧ Binds K fd ps []
/-- a class with keywords at the end of its parameters -/
structure MakeK (P : Program) (w : World) (K : PySem.W.Frag) (mg : Str → Option Value) (base : Heap) (k : Kn) (lv : Nat) (x : Str) (ci n : Nat) (ks : List Str) (den : List D → R D) : Prop where
  ex : ∃ (C f : Addr) (fd : FuncData) (ps nm : List Str) (g : List Value → List Value → List Value), k.cl ci = some (C, nm) ∧ Mk K C f ∧ FnOk P w K mg base CX0 lv f fd ps (SpN k ci (n + ks.length + 1) den) ∧ mg x = some (.ref C) ∧ KBn K fd ps (n + 1) ks g (fun vs zs => vs ++ zs)
/-- a class -/
structure Maker (P : Program) (w : World) (K : PySem.W.Frag) (mg : Str → Option Value) (base : Heap) (k : Kn) (lv : Nat) (x : Str) (ci n : Nat) (den : List D → R D) : Prop where
  ex : ∃ (C f : Addr) (fd : FuncData) (ps : List Str) (nm : List Str), ps.length = n + 1 ∧ k.cl ci = some (C, nm) ∧ Mk K C f ∧ FnOk P w K mg base CX0 lv f fd ps (SpN k ci (n + 1) den) ∧ mg x = some (.ref C) ∧ Binds K fd ps []
/-- a property -/
structure Prope (P : Program) (w : World) (K : PySem.W.Frag) (mg : Str → Option Value) (base : Heap) (k : Kn) (lv : Nat) (ci : Nat) (m : Str) (fr : Bool) (den : List D → R D) : Prop where
  ex : ∃ (C p f : Addr) (fd : FuncData) (ps nm : List Str), ps.length = 1 ∧ k.cl ci = some (C, nm) ∧ Cls K C ∧ PropOf K C m p f ∧ FnOk P w K mg base CX0 lv f fd ps (SpF k fr 1 den) ∧ Binds K fd ps []
section
variable {X : Cx} {c : Cf} {k : Kn} {kd k1 k2 k3 : Kd} {a b e o : Expr} {f g h : FE} {pos apos cpos p' : Pos} {fr : Bool} {x y : Str} {den : List D → R D}
theorem rdE_mono {σ : L2.St} {H : Hp} {Q Q' : VK} (q : RdE c kd f σ H Q) (h : ∀ v H, Q v H → Q' v H) : RdE c kd f σ H Q' := by
  obtain ⟨G, S, rel, p⟩ := q
  refine ⟨G, S, rel, ?_⟩
  cases e : f S with
  | ok d => rw [e] at p; exact fun v G' H' s r => h _ _ (p v G' H' s r)
  | exc x => rw [e] at p; exact p
  | fail => rw [e] at p; exact p
def eM (ci : Nat) (den : List D → R D) (f : FE) (fa : FA) : FE := fun S => f S >>= fun o => if o.isObj ci then fa S >>= fun ds => (den (o :: ds)).nox else .fail
theorem meth_go {ci n : Nat} {C : Addr} {nm : List Str} {m : Str} {fa : FA} {σ : L2.St} {H : Hp} {Q : VK} (hcl : c.k.cl ci = some (C, nm)) (hmn : m ∉ nm) (hl : Len n fa) (q : RdE c (kdOf fr) (eM ci den f fa) σ H Q) :
    RdE c .st f σ H fun x H1 => ∃ a dx fs, x = .ref a ∧ H1 a = some (.ins C dx fs) ∧ fs.lookup m = none ∧ RdA c false fa σ H1 fun vs H2 => SpF c.k fr (n + 1) den (x :: (vs ++ [])) H2 Q E0 := by
  obtain ⟨G, S, rel, p⟩ := q
  refine rdE_go (g := fun o => if o.isObj ci then fa S >>= fun ds => (den (o :: ds)).nox else .fail) (Post := PostE c (kdOf fr) G S σ H Q) rel p (fun _ z => z) (fun z => z) fun d v G1 H1 s1 q1 p1 => ?_
  by_cases ho : d.isObj ci = true
  · rw [if_pos ho] at p1
    cases d with
    | obj c' ds =>
      have hc : c' = ci := by simpa [D.isObj] using ho
      subst hc
      have q1 : RD c.k G1 (.obj c' ds) v := q1
      cases q1 with
      | @obj _ _ ad CA dx nm' vs' hcl' hG hr =>
        rw [hcl] at hcl'; cases hcl'
        refine ⟨ad, dx, _, rfl, s1.gh _ _ hG, zip_none hmn, G1, S, rel.grow s1, ?_⟩
        cases e0 : fa S with
        | exc x => rw [e0] at p1; exact p1
        | fail => rw [e0] at p1; exact p1
        | ok as =>
          rw [e0] at p1
          intro vs G2 H2 s2 q2
          have q2 : RDs c.k G2 as vs := q2
          rw [List.append_nil]
          refine ⟨by simp [← q2.length, hl S as e0], G2, .obj c' ds :: as, s2.gh, .cons (.obj hcl (s2.g _ _ hG) (hr.mono s2.g)) q2, ?_⟩
          have p1 : PostE c (kdOf fr) G S σ H Q (den (.obj c' ds :: as)).nox := p1
          cases e1 : den (.obj c' ds :: as) with
          | ok d => rw [e1] at p1; exact fun v G' H' s3 r3 => p1 v G' H' ((s1.trans s2).trans s3) (r3.mono (s1.h.trans s2.h))
          | exc x => rw [e1] at p1; exact p1.elim
          | fail => rw [e1] at p1; exact p1.elim
    | _ => simp [D.isObj] at ho
  · rw [if_neg ho] at p1; exact p1.elim
theorem d_meth {lv m' : Nat} (ci : Nat) {m : Str} {n : Nat} {es : List Expr} {fa : FA} {pl : Sem Bool} (F : Method X.prog X.w X.K X.mg X.base c.k lv ci m (n + 1) fr den) (hr : Room m' X.A) (hle : lv ≤ m') (ho : PE' X c .st o f) (ha : PA' X c false (e :: es) fa) (hl : Len n fa)
    (hst : starEach (e :: es) X.env = (false, eval e X.env) :: starEach es X.env := by rfl) (hpl : (backTo pos (starEach es X.env)).any (·.1) = false := by rfl)
    (ht : eval (.Call (.Attribute o m apos) (e :: es) [] pos) X.env = (do
      let ov ← eval o X.env
      standAt apos.atName
      let (f, first) ← holding [ov] (getMethod ov m pl)
      callWith pos f first (backTo pos (starEach (e :: es) X.env)) (backToKw pos (keywordEach [] X.env))) := by rfl) :
    PE' X c (kdOf fr) (.Call (.Attribute o m apos) (e :: es) [] pos) (eM ci den f fa) := by
  obtain ⟨C, fa', fd, ps, nm, hn, hcl, hmn, cl, mt, ok, bd⟩ := F.ex
  exact peI (pe_meth ho cl mt ok (hr.mono hle) bd .nil pass0 ha hst hpl ht) fun σ H Q q => meth_go hcl hmn hl q
theorem d_meth0 {lv m' : Nat} (ci : Nat) {m : Str} {pl : Sem Bool} (F : Method X.prog X.w X.K X.mg X.base c.k lv ci m 1 fr den) (hr : Room m' X.A) (hle : lv ≤ m') (ho : PE' X c .st o f)
    (ht : eval (.Call (.Attribute o m apos) [] [] pos) X.env = (do
      let ov ← eval o X.env
      standAt apos.atName
      let (f, first) ← holding [ov] (getMethod ov m pl)
      callWith pos f first (backTo pos (starEach [] X.env)) (backToKw pos (keywordEach [] X.env))) := by rfl) :
    PE' X c (kdOf fr) (.Call (.Attribute o m apos) [] [] pos) (eM ci den f fun _ => .ok []) := by
  obtain ⟨C, fa', fd, ps, nm, hn, hcl, hmn, cl, mt, ok, bd⟩ := F.ex
  refine peI (pe_meth0 ho cl mt ok (hr.mono hle) bd .nil pass0 ht) fun σ H Q q => ?_
  have z := meth_go (n := 0) (fa := fun _ => .ok []) hcl hmn (fun S ds h => by cases h; rfl) q
  refine rdE_mono z fun x H1 q1 => ?_
  obtain ⟨a, dx, fs, e1, e2, e3, q2⟩ := q1
  refine ⟨a, dx, fs, e1, e2, e3, ?_⟩
  obtain ⟨G, S, rel, p⟩ := q2
  exact p [] G H1 (Step.refl rel.st.gh) .nil
/-- a property, read -/
def eP (ci : Nat) (den : List D → R D) (f : FE) : FE := eM ci den f fun _ => .ok []
theorem d_prop {lv m' : Nat} (ci : Nat) {m : Str} (F : Prope X.prog X.w X.K X.mg X.base c.k lv ci m fr den) (hr : Room m' X.A) (hle : lv + 1 ≤ m') (ho : PE' X c .st o f)
    (hb : attributeBase o m X.env (eval o X.env) = eval o X.env := by rfl) : PE' X c (kdOf fr) (.Attribute o m pos) (eP ci den f) := by
  obtain ⟨C, p0, fa', fd, ps, nm, hn, hcl, cl, pr, ok, bd⟩ := F.ex
  refine peI (pe_prop ho cl pr ok (hr.mono hle) bd .nil pass0 hb) fun σ H Q q => ?_
  obtain ⟨G, S, rel, p⟩ := q
  refine rdE_go (g := fun o => if o.isObj ci then (R.ok [] >>= fun ds => (den (o :: ds)).nox) else .fail) (Post := PostE c (kdOf fr) G S σ H Q) rel p (fun _ z => z) (fun z => z) fun d v G1 H1 s1 q1 p1 => ?_
  by_cases ho : d.isObj ci = true
  · rw [if_pos ho] at p1
    cases d with
    | obj c' ds =>
      have hc : c' = ci := by simpa [D.isObj] using ho
      subst hc
      have q1 : RD c.k G1 (.obj c' ds) v := q1
      cases q1 with
      | @obj _ _ ad CA dx nm' vs' hcl' hG hr =>
        rw [hcl] at hcl'; cases hcl'
        refine ⟨ad, dx, _, rfl, s1.gh _ _ hG, rfl, G1, [.obj c' ds], s1.gh, .cons (.obj hcl hG hr) .nil, ?_⟩
        have p1 : PostE c (kdOf fr) G S σ H Q (den [.obj c' ds]).nox := p1
        cases e1 : den [.obj c' ds] with
        | ok d => rw [e1] at p1; exact fun v G' H' s3 r3 => p1 v G' H' (s1.trans s3) (r3.mono s1.h)
        | exc x => rw [e1] at p1; exact p1.elim
        | fail => rw [e1] at p1; exact p1.elim
    | _ => simp [D.isObj] at ho
  · rw [if_neg ho] at p1; exact p1.elim
/-! ### classes -/
theorem d_maker {lv m' : Nat} {ci n : Nat} {p : Pos} {es : List Expr} {fa : FA} (F : Maker X.prog X.w X.K X.mg X.base c.k lv x ci n den) (hr : Room m' X.A) (hle : lv + 1 ≤ m') (ha : PA' X c false (e :: es) fa) (hl : Len n fa) (hg : Gl X x := by rfl) (hdb : (x == ("__debug__" : Str)) = false := by decide)
    (hs : starEach (e :: es) X.env = (false, eval e X.env) :: starEach es X.env := by rfl) (hs2 : ((backTo pos (starEach es X.env)).any fun x => x.1) = false := by rfl) : PE' X c .fr (.Call (.Name x p) (e :: es) [] pos) (eC den fa) := by
  obtain ⟨C, f, fd, ps, nm, hn, hcl, mk, ok, hm, hb⟩ := F.ex
  exact d_make ⟨C, f, fd, lv, ps, nm, hn, hcl, mk, ok, hr.mono hle, hm, hb⟩ ha hl hg hdb hs hs2
/-- the arguments and then the keywords -/
def fApp (fa fk : FA) : FA := fun S => fa S >>= fun as => fk S >>= fun bs => .ok (as ++ bs)
abbrev PK' (X : Cx) (c : Cf) (ks : List Keyword) (f : FA) : Prop := PK X ks (RdA c false f)
theorem pkI {ks : List Keyword} {t t' : TA} (h : PK X ks t) (i : ∀ σ H Q, t' σ H Q → t σ H Q) : PK X ks t' := ⟨fun pos pins s σ H Q I q => h.run pos pins s σ H Q I (i σ H Q q)⟩
theorem d_kn : PK' X c [] aN := pkI pk_nil fun σ H Q ⟨G, S, rel, p⟩ => p [] G H (Step.refl rel.st.gh) .nil
theorem d_kc {nm : Option Str} {kp : Pos} {ks : List Keyword} {ga : FA} (ha : PE' X c .st e f) (hr : PK' X c ks ga) : PK' X c (⟨nm, e, kp⟩ :: ks) (aC f ga) :=
  pkI (pk_cons ha hr) fun σ H Q ⟨G, S, rel, p⟩ => by
    refine rdE_go (g := fun x => do let xs ← ga S; .ok (x :: xs)) (Post := PostA c false G S σ H Q) rel p (fun _ z => z) (fun z => z) fun d1 v1 G1 H1 s1 q1 p1 => ?_
    refine rdA_go (g := fun xs => .ok (d1 :: xs)) (Post := PostA c false G S σ H Q) (rel.grow s1) p1 (fun _ z => z) (fun z => z) fun d2 v2 G2 H2 s2 q2 p2 => ?_
    exact p2 _ G2 H2 (s1.trans s2) (.cons (RD.mono s2.g q1) q2)
theorem d_makeK {lv m' : Nat} {ci n : Nat} {ks : List Str} {p : Pos} {es : List Expr} {kws : List Keyword} {fa fk : FA} (F : MakeK X.prog X.w X.K X.mg X.base c.k lv x ci n ks den) (hr : Room m' X.A) (hle : lv + 1 ≤ m') (ha : PA' X c false (e :: es) fa) (hl : Len n fa) (hk : PK' X c kws fk) (hkl : Len ks.length fk) (hg : Gl X x := by rfl)
    (hall : (backToKw pos (keywordEach kws X.env)).all (·.1.isSome) = true := by rfl) (hks : (backToKw pos (keywordEach kws X.env)).filterMap (·.1) = ks := by rfl) (hdb : (x == ("__debug__" : Str)) = false := by decide)
    (he : starEach (e :: es) X.env = (false, eval e X.env) :: starEach es X.env := by rfl) (hpl : ((backTo pos (starEach (e :: es) X.env)).any (·.1) || (backToKw pos (keywordEach kws X.env)).any (·.1.isNone)) = false := by rfl) :
    PE' X c .fr (.Call (.Name x p) (e :: es) kws pos) (eC den (fApp fa fk)) := by
  obtain ⟨C, f, fd, ps, nm, g, hcl, mk, ok, hm, hb⟩ := F.ex
  refine peI (pe_makeK mk ok (hr.mono hle) hg hm hb pass0 ha hk hall hks hdb he hpl) fun σ H Q ⟨G, S, rel, p⟩ => ?_
  have p : PostE c .fr G S σ H Q ((fa S >>= fun as => fk S >>= fun bs => R.ok (as ++ bs)) >>= fun ds => (den ds).nox) := p
  refine ⟨G, S, rel, ?_⟩
  cases e1 : fa S with
  | exc x => rw [e1] at p; exact p
  | fail => rw [e1] at p; exact p
  | ok as =>
    rw [e1] at p
    intro vs G1 H1 s1 q1
    refine ⟨G1, S, rel.grow s1, ?_⟩
    cases e2 : fk S with
    | exc x => simp only [R.ok_bind] at p; rw [e2] at p; exact p
    | fail => simp only [R.ok_bind] at p; rw [e2] at p; exact p
    | ok bs =>
      simp only [R.ok_bind] at p
      rw [e2] at p
      simp only [R.ok_bind] at p
      intro zs G2 H2 s2 q2
      have q1 : RDs c.k G1 as vs := q1
      have q2 : RDs c.k G2 bs zs := q2
      have l1 := hl S as e1
      have l2 := hkl S bs e2
      refine ⟨by rw [← q1.length]; exact l1, by rw [← q2.length]; exact l2, fun x dx hx hdx hne => ?_⟩
      have sp := s1.trans s2
      have q3 : RDs c.k G2 (as ++ bs) (vs ++ zs) := (q1.mono s2.g).append q2
      have hgx : G2 x = none := s2.gh.free hx
      have ex1 : Ex H2 (upd (upd H2 dx (.own x)) x (.ins C dx [])) := (Ex.new hdx).upd hx
      refine ⟨by simp [← q1.length, ← q2.length, l1, l2], x, vs ++ zs, G2, as ++ bs, C, dx, nm, rfl, hcl, upd_same, hgx, s2.gh.trans ex1, q3, ?_⟩
      have p : PostE c .fr G S σ H Q (den (as ++ bs)).nox := p
      cases e1 : den (as ++ bs) with
      | ok d =>
        rw [e1] at p
        intro G' H' o ex hk gh hgx' gr ho ct
        refine ⟨rfl, p _ G' H' (sp.trans ⟨ex, fun b u q => hk b u (ne_of_none q hx) (ex1 b u q), gh, fun b u q => ?_⟩) ⟨x, o, rfl, hgx', sp.h.free hx, ho, ct⟩⟩
        rcases gr b u q with z | z
        · exact .inl z
        · exact .inr (ex1.free z)
      | exc x => rw [e1] at p; exact p.elim
      | fail => rw [e1] at p; exact p.elim
/-! ### isinstance against an own class -/
structure ClsT (K : PySem.W.Frag) (k : Kn) (ci : Nat) : Prop where
  ex : ∃ C nm, k.cl ci = some (C, nm) ∧ Cls K C ∧ PySem.W.findIn K (.ref C) "__class__" = some (some (.builtin "object.__class__")) ∧ PySem.W.specialIn K (.builtin "object.__class__") "__get__" = some (some (.builtin "getset_descriptor.__get__")) ∧
    PySem.W.takesIn K (.builtin "object.__class__") = some true ∧ PySem.W.mroIn K C (.type "object") = some true
def isiC (ci : Nat) : D → D → R D
  | .obj c _, .cls c' => if c = ci ∧ c' = ci then .ok (.bl true) else .fail
  | _, _ => .fail
theorem c_isiC {ci : Nat} (T : ClsT X.K k ci) : ClR X k (.builtin "isinstance") .st (f2 (isiC ci)) := cl2 call_isi fun G H x v y u d e n m hg Q p => by
  unfold isiC at hg
  split at hg
  · split at hg
    · rename_i hc
      obtain ⟨rfl, rfl⟩ := hc
      cases hg
      obtain ⟨C, nm, hcl, cl, t1, t2, t3, t4⟩ := T.ex
      obtain ⟨a, CA, dx, nm', vs, rfl, hcl', ha, r⟩ := n.obj e
      rw [hcl] at hcl'; cases hcl'
      have z : u = .ref C := by
        rcases m with m | ⟨_, _, _, _, ct⟩
        · cases m with
          | cls h1 => rw [hcl] at h1; cases h1; rfl
        · cases ct
      subst z
      exact ⟨_, _, _, _, true, rfl, .own C, .base (.ins ha cl t1 t2 t3 t4), by unfold PySem.W.kitOne; rw [if_pos (by simp)], p _ G H (Step.refl e) (.bl _)⟩
    · cases hg
  · cases hg
/-! ### the same with the kind written -/
theorem d_callS {n : Nat} {p : Pos} {es : List Expr} {fa : FA} (F : Fn0 X c.k x n false den) (ha : PA' X c false (e :: es) fa) (hl : Len n fa) (hg : Gl X x := by rfl) (hdb : (x == ("__debug__" : Str)) = false := by decide)
    (hs : starEach (e :: es) X.env = (false, eval e X.env) :: starEach es X.env := by rfl) (hs2 : ((backTo pos (starEach es X.env)).any fun x => x.1) = false := by rfl) : PE' X c .st (.Call (.Name x p) (e :: es) [] pos) (eC den fa) := d_call F ha hl hg hdb hs hs2
theorem d_methS {lv m' : Nat} (ci : Nat) {m : Str} {n : Nat} {es : List Expr} {fa : FA} {pl : Sem Bool} (F : Method X.prog X.w X.K X.mg X.base c.k lv ci m (n + 1) false den) (hr : Room m' X.A) (hle : lv ≤ m') (ho : PE' X c .st o f) (ha : PA' X c false (e :: es) fa) (hl : Len n fa)
    (hst : starEach (e :: es) X.env = (false, eval e X.env) :: starEach es X.env := by rfl) (hpl : (backTo pos (starEach es X.env)).any (·.1) = false := by rfl)
    (ht : eval (.Call (.Attribute o m apos) (e :: es) [] pos) X.env = (do
      let ov ← eval o X.env
      standAt apos.atName
      let (f, first) ← holding [ov] (getMethod ov m pl)
      callWith pos f first (backTo pos (starEach (e :: es) X.env)) (backToKw pos (keywordEach [] X.env))) := by rfl) :
    PE' X c .st (.Call (.Attribute o m apos) (e :: es) [] pos) (eM ci den f fa) := d_meth ci F hr hle ho ha hl hst hpl ht
theorem d_meth0S {lv m' : Nat} (ci : Nat) {m : Str} {pl : Sem Bool} (F : Method X.prog X.w X.K X.mg X.base c.k lv ci m 1 false den) (hr : Room m' X.A) (hle : lv ≤ m') (ho : PE' X c .st o f)
    (ht : eval (.Call (.Attribute o m apos) [] [] pos) X.env = (do
      let ov ← eval o X.env
      standAt apos.atName
      let (f, first) ← holding [ov] (getMethod ov m pl)
      callWith pos f first (backTo pos (starEach [] X.env)) (backToKw pos (keywordEach [] X.env))) := by rfl) :
    PE' X c .st (.Call (.Attribute o m apos) [] [] pos) (eM ci den f fun _ => .ok []) := d_meth0 ci F hr hle ho ht
theorem d_callF {n : Nat} {p : Pos} {es : List Expr} {fa : FA} (F : Fn0 X c.k x n true den) (ha : PA' X c false (e :: es) fa) (hl : Len n fa) (hg : Gl X x := by rfl) (hdb : (x == ("__debug__" : Str)) = false := by decide)
    (hs : starEach (e :: es) X.env = (false, eval e X.env) :: starEach es X.env := by rfl) (hs2 : ((backTo pos (starEach es X.env)).any fun x => x.1) = false := by rfl) : PE' X c .fr (.Call (.Name x p) (e :: es) [] pos) (eC den fa) := d_call F ha hl hg hdb hs hs2
theorem d_methF {lv m' : Nat} (ci : Nat) {m : Str} {n : Nat} {es : List Expr} {fa : FA} {pl : Sem Bool} (F : Method X.prog X.w X.K X.mg X.base c.k lv ci m (n + 1) true den) (hr : Room m' X.A) (hle : lv ≤ m') (ho : PE' X c .st o f) (ha : PA' X c false (e :: es) fa) (hl : Len n fa)
    (hst : starEach (e :: es) X.env = (false, eval e X.env) :: starEach es X.env := by rfl) (hpl : (backTo pos (starEach es X.env)).any (·.1) = false := by rfl)
    (ht : eval (.Call (.Attribute o m apos) (e :: es) [] pos) X.env = (do
      let ov ← eval o X.env
      standAt apos.atName
      let (f, first) ← holding [ov] (getMethod ov m pl)
      callWith pos f first (backTo pos (starEach (e :: es) X.env)) (backToKw pos (keywordEach [] X.env))) := by rfl) :
    PE' X c .fr (.Call (.Attribute o m apos) (e :: es) [] pos) (eM ci den f fa) := d_meth ci F hr hle ho ha hl hst hpl ht
theorem d_meth0F {lv m' : Nat} (ci : Nat) {m : Str} {pl : Sem Bool} (F : Method X.prog X.w X.K X.mg X.base c.k lv ci m 1 true den) (hr : Room m' X.A) (hle : lv ≤ m') (ho : PE' X c .st o f)
    (ht : eval (.Call (.Attribute o m apos) [] [] pos) X.env = (do
      let ov ← eval o X.env
      standAt apos.atName
      let (f, first) ← holding [ov] (getMethod ov m pl)
      callWith pos f first (backTo pos (starEach [] X.env)) (backToKw pos (keywordEach [] X.env))) := by rfl) :
    PE' X c .fr (.Call (.Attribute o m apos) [] [] pos) (eM ci den f fun _ => .ok []) := d_meth0 ci F hr hle ho ht
theorem d_propS {lv m' : Nat} (ci : Nat) {m : Str} (F : Prope X.prog X.w X.K X.mg X.base c.k lv ci m false den) (hr : Room m' X.A) (hle : lv + 1 ≤ m') (ho : PE' X c .st o f)
    (hb : attributeBase o m X.env (eval o X.env) = eval o X.env := by rfl) : PE' X c .st (.Attribute o m pos) (eP ci den f) := d_prop ci F hr hle ho hb
end
end M
set_option Elab.async false
set_option linter.all false
set_option maxRecDepth 100000
set_option maxHeartbeats 4000000
namespace M
open PySem L2
/-! ### plain evaluation: what an answer keeps -/
def Ok {α : Type} (r : R α) (Q : α → Prop) : Prop := ∃ a, r = .ok a ∧ Q a
section
variable {α β : Type} {Q : α → Prop} {S : Env}
theorem Ok.mono {r : R α} {P : α → Prop} (h : Ok r P) (k : ∀ a, P a → Q a) : Ok r Q := by obtain ⟨a, e, p⟩ := h; exact ⟨a, e, k a p⟩
theorem ok_ok {a : α} : Ok (.ok a) Q ↔ Q a := ⟨fun ⟨_, e, q⟩ => (by cases e; exact q), fun q => ⟨a, rfl, q⟩⟩
theorem ok_eq {r : R α} {a : α} (e : r = .ok a) : Ok r Q ↔ Q a := by rw [e]; exact ok_ok
theorem ok_bind {r : R β} {f : β → R α} : Ok (r >>= f) Q ↔ Ok r fun b => Ok (f b) Q := by
  cases r with
  | ok b => rw [ok_ok]; exact Iff.rfl
  | exc x => exact ⟨fun ⟨_, e, _⟩ => (nomatch e), fun ⟨_, e, _⟩ => (nomatch e)⟩
  | fail => exact ⟨fun ⟨_, e, _⟩ => (nomatch e), fun ⟨_, e, _⟩ => (nomatch e)⟩
theorem ok_nox {r : R α} : Ok r.nox Q ↔ Ok r Q := by
  cases r with
  | ok b => exact Iff.rfl
  | exc x => exact ⟨fun ⟨_, e, _⟩ => (nomatch e), fun ⟨_, e, _⟩ => (nomatch e)⟩
  | fail => exact Iff.rfl
theorem ok_if {c : Prop} [Decidable c] {a : R α} : Ok (if c then a else .fail) Q ↔ c ∧ Ok a Q := by
  by_cases h : c
  · rw [if_pos h]; exact ⟨fun z => ⟨h, z⟩, fun z => z.2⟩
  · rw [if_neg h]; exact ⟨fun ⟨_, e, _⟩ => (nomatch e), fun z => absurd z.1 h⟩
theorem ok_ite {c : Prop} [Decidable c] {a b : R α} : Ok (if c then a else b) Q ↔ (c → Ok a Q) ∧ (¬ c → Ok b Q) := by
  by_cases h : c
  · rw [if_pos h]; exact ⟨fun z => ⟨fun _ => z, fun q => absurd h q⟩, fun z => z.1 h⟩
  · rw [if_neg h]; exact ⟨fun z => ⟨fun q => absurd q h, fun _ => z⟩, fun z => z.2 h⟩
theorem Ok.eq {r : R α} {a : α} (h : Ok r fun x => x = a) : r = .ok a := by obtain ⟨x, e, rfl⟩ := h; exact e
end
section
variable {Q : D → Prop} {QB : Bool → Prop} {QL : List D → Prop} {QE : Env → Prop} {QS : Fl × Env → Prop} {QO : Option Int → Prop} {S : Env} {f g h : FE} {t u : FT} {fa : FA} {s r : FS} {i j : Nat} {d x y : D}
theorem k_I {i : Int} : Ok (eI i S) Q ↔ Q (.int i) := ok_ok
theorem k_S {i : Str} : Ok (eS i S) Q ↔ Q (.str i) := ok_ok
theorem k_B {i : Bool} : Ok (eB i S) Q ↔ Q (.bl i) := ok_ok
theorem k_N : Ok (eN S) Q ↔ Q .non := ok_ok
theorem k_G : Ok (eG d S) Q ↔ Q d := ok_ok
theorem k_Y {n : String} : Ok (eY n S) Q ↔ Q (.ty n) := ok_ok
def get0 (i : Nat) (S : Env) (Q : D → Prop) : Prop := match S[i]? with | some (some ⟨false, d⟩) => Q d | _ => False
def getA (i : Nat) (S : Env) (Q : D → Prop) : Prop := match S[i]? with | some (some ⟨_, d⟩) => Q d | _ => False
def get1 (i : Nat) (S : Env) (Q : D → Prop) : Prop := match S[i]? with | some (some ⟨true, d⟩) => Q d | _ => False
theorem ok_fail {α : Type} {Q : α → Prop} : Ok (.fail : R α) Q ↔ False := ⟨fun ⟨_, e, _⟩ => (nomatch e), False.elim⟩
theorem k_V : Ok (eV i S) Q ↔ get0 i S Q := by
  unfold eV get0
  cases S[i]? with
  | none => exact ok_fail
  | some o =>
    cases o with
    | none => exact ok_fail
    | some sl => obtain ⟨b, d⟩ := sl; cases b <;> first | exact ok_ok | exact ok_fail
theorem k_W : Ok (eW i S) Q ↔ getA i S Q := by
  unfold eW getA
  cases S[i]? with
  | none => exact ok_fail
  | some o =>
    cases o with
    | none => exact ok_fail
    | some sl => obtain ⟨b, d⟩ := sl; cases b <;> first | exact ok_ok | exact ok_fail
theorem k_O : Ok (eO i S) Q ↔ get1 i S Q := by
  unfold eO get1
  cases S[i]? with
  | none => exact ok_fail
  | some o =>
    cases o with
    | none => exact ok_fail
    | some sl => obtain ⟨b, d⟩ := sl; cases b <;> first | exact ok_ok | exact ok_fail
theorem g0_z {b : List (Option Sl)} {Q : D → Prop} : get0 0 (some ⟨false, d⟩ :: b) Q ↔ Q d := Iff.rfl
theorem g0_s {a : Option Sl} {b : List (Option Sl)} {Q : D → Prop} : get0 (i + 1) (a :: b) Q ↔ get0 i b Q := Iff.rfl
theorem gA_z {o : Bool} {b : List (Option Sl)} {Q : D → Prop} : getA 0 (some ⟨o, d⟩ :: b) Q ↔ Q d := Iff.rfl
theorem gA_s {a : Option Sl} {b : List (Option Sl)} {Q : D → Prop} : getA (i + 1) (a :: b) Q ↔ getA i b Q := Iff.rfl
theorem g1_z {b : List (Option Sl)} {Q : D → Prop} : get1 0 (some ⟨true, d⟩ :: b) Q ↔ Q d := Iff.rfl
theorem g1_s {a : Option Sl} {b : List (Option Sl)} {Q : D → Prop} : get1 (i + 1) (a :: b) Q ↔ get1 i b Q := Iff.rfl
theorem k_1 {o : D → R D} : Ok (e1 o f S) Q ↔ Ok (f S) fun x => Ok (o x) Q := by unfold e1; simp only [ok_bind, ok_nox]
theorem k_2 {o : D → D → R D} : Ok (e2 o f g S) Q ↔ Ok (f S) fun x => Ok (g S) fun y => Ok (o x y) Q := by unfold e2; simp only [ok_bind, ok_nox]
theorem k_n : Ok (aN S) QL ↔ QL [] := ok_ok
theorem k_c : Ok (aC f fa S) QL ↔ Ok (f S) fun x => Ok (fa S) fun xs => QL (x :: xs) := by unfold aC; simp only [ok_bind, ok_ok]
theorem k_T : Ok (eT fa S) Q ↔ Ok (fa S) fun xs => xs.length ≤ sizeLine ∧ Q (.tup xs) := by unfold eT mkT; simp only [ok_bind, ok_if, ok_ok]
theorem k_L : Ok (eL fa S) Q ↔ Ok (fa S) fun xs => xs.length ≤ sizeLine ∧ Q (.lst xs) := by unfold eL mkL; simp only [ok_bind, ok_if, ok_ok]
theorem k_C {o : List D → R D} : Ok (eC o fa S) Q ↔ Ok (fa S) fun xs => Ok (o xs) Q := by unfold eC; simp only [ok_bind, ok_nox]
theorem k_f1 {o : D → R D} : Ok (f1 o [x]) Q ↔ Ok (o x) Q := Iff.rfl
theorem k_f2 {o : D → D → R D} : Ok (f2 o [x, y]) Q ↔ Ok (o x y) Q := Iff.rfl
theorem k_App {fk : FA} : Ok (fApp fa fk S) QL ↔ Ok (fa S) fun xs => Ok (fk S) fun ys => QL (xs ++ ys) := by unfold fApp; simp only [ok_bind, ok_ok]
theorem k_M {ci : Nat} {den : List D → R D} : Ok (eM ci den f fa S) Q ↔ Ok (f S) fun o => o.isObj ci = true ∧ Ok (fa S) fun ds => Ok (den (o :: ds)) Q := by unfold eM; simp only [ok_bind, ok_if, ok_nox]
theorem k_P {ci : Nat} {den : List D → R D} : Ok (eP ci den f S) Q ↔ Ok (f S) fun o => o.isObj ci = true ∧ Ok (den [o]) Q := by unfold eP; rw [k_M]; simp only [ok_ok]
theorem ok_b {α : Type} {Q : α → Prop} {b : Bool} {a c : R α} : Ok (if b = true then a else c) Q ↔ (b = true → Ok a Q) ∧ (b = false → Ok c Q) := by cases b <;> simp
theorem k_3 {o o' : D → D → R D} : Ok (e3 o o' f g h S) Q ↔ Ok (f S) fun x => Ok (g S) fun y => Ok (o x y) fun b => Ok (toB b) fun b => (b = true → Ok (h S) fun z => Ok (o' y z) Q) ∧ (b = false → Q (.bl false)) := by
  unfold e3
  simp only [ok_bind, ok_nox, ok_b, ok_ok]
/-! tests -/
theorem k_tB : Ok (tB' f S) QB ↔ Ok (f S) fun x => Ok (toB x) QB := by unfold tB'; simp only [ok_bind]
theorem k_tT : Ok (tT' f S) QB ↔ Ok (f S) fun x => Ok (truD x) QB := by unfold tT'; simp only [ok_bind]
theorem k_toB {b : Bool} : Ok (toB (.bl b)) QB ↔ QB b := ok_ok
theorem k_tNo : Ok (tNo t S) QB ↔ Ok (t S) fun b => QB (!b) := by unfold tNo; simp only [ok_bind, ok_ok]
theorem k_tA : Ok (tA t u S) QB ↔ Ok (t S) fun b => (b = true → Ok (u S) QB) ∧ (b = false → QB false) := by unfold tA; simp only [ok_bind, ok_b, ok_ok]
theorem k_tO : Ok (tO t u S) QB ↔ Ok (t S) fun b => (b = true → QB true) ∧ (b = false → Ok (u S) QB) := by unfold tO; simp only [ok_bind, ok_b, ok_ok]
theorem k_tY : Ok (tY S) QB ↔ QB true := ok_ok
theorem k_And : Ok (eAnd f g S) Q ↔ Ok (f S) fun x => Ok (toB x) fun b => (b = true → Ok (g S) Q) ∧ (b = false → Q (.bl false)) := by unfold eAnd; simp only [ok_bind, ok_b, ok_ok]
theorem k_Or : Ok (eOr f g S) Q ↔ Ok (f S) fun x => Ok (toB x) fun b => (b = true → Q (.bl true)) ∧ (b = false → Ok (g S) Q) := by unfold eOr; simp only [ok_bind, ok_b, ok_ok]
theorem k_Not : Ok (eNot f S) Q ↔ Ok (f S) fun x => Ok (toB x) fun b => Q (.bl (!b)) := by unfold eNot; simp only [ok_bind, ok_ok]
theorem k_eIf : Ok (eIf t f g S) Q ↔ Ok (t S) fun b => (b = true → Ok (f S) Q) ∧ (b = false → Ok (g S) Q) := by unfold eIf; simp only [ok_bind, ok_b]
/-! statements -/
theorem k_nil : Ok (sNil S) QS ↔ QS (.nx, S) := ok_ok
theorem k_seq : Ok (sSeq s r S) QS ↔ Ok (s S) fun z => match z.1 with | .nx => Ok (r z.2) QS | _ => QS z := by
  unfold sSeq
  rw [ok_bind]
  apply iff_of_eq
  congr 1
  funext z
  obtain ⟨fl, S'⟩ := z
  cases fl <;> simp [ok_ok]
theorem k_set : Ok (sSet i f S) QS ↔ Ok (f S) fun d => QS (.nx, S.set i (some ⟨false, d⟩)) := by unfold sSet; simp only [ok_bind, ok_ok]
theorem k_own : Ok (sOwn i f S) QS ↔ Ok (f S) fun d => QS (.nx, S.set i (some ⟨true, d⟩)) := by unfold sOwn; simp only [ok_bind, ok_ok]
theorem k_drop : Ok (sDrop f S) QS ↔ Ok (f S) fun d => QS (.nx, S) := by unfold sDrop; simp only [ok_bind, ok_ok]
theorem k_ret : Ok (sRet f S) QS ↔ Ok (f S) fun d => QS (.rt d, S) := by unfold sRet; simp only [ok_bind, ok_ok]
theorem k_retN : Ok (sRetN S) QS ↔ QS (.rt .non, S) := ok_ok
theorem k_retO : Ok (sRetO i S) QS ↔ get1 i S fun d => QS (.rt d, S) := by unfold sRetO; simp only [ok_bind, ok_ok, k_O]
theorem k_if : Ok (sIf t s r S) QS ↔ Ok (t S) fun b => (b = true → Ok (s S) QS) ∧ (b = false → Ok (r S) QS) := by unfold sIf; simp only [ok_bind, ok_b]
theorem k_fz : Ok (sFz i s S) QS ↔ Ok (s (fzS S i)) QS := Iff.rfl
theorem fz_z {b : Bool} {l : List (Option Sl)} : fzS (some ⟨b, d⟩ :: l) 0 = some ⟨false, d⟩ :: l := by cases b <;> rfl
theorem fz_s {a : Option Sl} {l : List (Option Sl)} : fzS (a :: l) (i + 1) = a :: fzS l i := by
  unfold fzS
  rw [List.getElem?_cons_succ]
  split <;> simp [*]
theorem k_gN : Ok (gN i d S) QE ↔ QE (S.set i (some ⟨false, d⟩)) := ok_ok
theorem k_gsN : Ok (gsN [] S) QE ↔ QE S := ok_ok
theorem k_gsC {ga : FG} {gr : FGs} {ds : List D} : Ok (gsC ga gr (d :: ds) S) QE ↔ Ok (ga d S) fun S1 => Ok (gr ds S1) QE := ok_bind
theorem k_gT {n : Nat} {gr : FGs} {ds : List D} : Ok (gT n gr (.tup ds) S) QE ↔ ds.length = n ∧ Ok (gr ds S) QE := ok_if
theorem k_asg {ga : FG} : Ok (sAsg ga f S) QS ↔ Ok (f S) fun d => Ok (ga d S) fun S1 => QS (.nx, S1) := by unfold sAsg; simp only [ok_bind, ok_nox, ok_ok]
theorem k_for {fi : FI} {ga : FG} : Ok (sFor fi ga s S) QS ↔ Ok (fi S) fun ds => Ok (forF ga s ds S) QS := ok_bind
theorem k_fnil {ga : FG} : Ok (forF ga s [] S) QS ↔ QS (.nx, S) := ok_ok
theorem k_fcons {ga : FG} {ds : List D} : Ok (forF ga s (d :: ds) S) QS ↔ Ok (ga d S) fun S1 => Ok (s S1) fun z => match z.1 with
    | .nx => Ok (forF ga s ds z.2) QS
    | .ct => Ok (forF ga s ds z.2) QS
    | .bk => QS (.nx, z.2)
    | .rt d => QS (.rt d, z.2) := by
  show Ok ((ga d S).nox >>= _) QS ↔ _
  rw [ok_bind, ok_nox]
  apply iff_of_eq
  congr 1
  funext S1
  refine propext ?_
  rw [ok_bind]
  apply iff_of_eq
  congr 1
  funext z
  obtain ⟨fl, S'⟩ := z
  cases fl <;> simp [ok_ok]
theorem for_inv {ga : FG} (P : Nat → Env → Prop) : ∀ (ds : List D) (n : Nat) (S : Env), P n S → (∀ i d S, ds[i]? = some d → P (n + i) S → Ok (ga d S) fun S1 => Ok (s S1) fun z => match z.1 with
    | .nx => P (n + i + 1) z.2
    | .ct => P (n + i + 1) z.2
    | .bk => QS (.nx, z.2)
    | .rt d => QS (.rt d, z.2)) → (∀ S, P (n + ds.length) S → QS (.nx, S)) → Ok (forF ga s ds S) QS
  | [], n, S, h, _, q => ok_ok.mpr (q S h)
  | d :: ds, n, S, h, k, q => by
    rw [k_fcons]
    refine (k 0 d S rfl h).mono fun S1 h1 => h1.mono fun z hz => ?_
    have next : ∀ S', P (n + 0 + 1) S' → Ok (forF ga s ds S') QS := fun S' hp => for_inv P ds (n + 1) S' hp (fun i d' S'' hi hp => by
      have := k (i + 1) d' S'' (by simpa using hi) (by rwa [show n + (i + 1) = n + 1 + i by omega])
      rwa [show n + (i + 1) + 1 = n + 1 + i + 1 by omega] at this) fun S'' h => q S'' (by rwa [List.length_cons, show n + (ds.length + 1) = n + 1 + ds.length by omega])
    obtain ⟨fl, S'⟩ := z
    cases fl with
    | nx => exact next S' hz
    | ct => exact next S' hz
    | bk => exact hz
    | rt d => exact hz
theorem k_app : Ok (sApp i f S) QS ↔ Ok (ownL i S) fun ds => Ok (f S) fun d => ds.length < sizeLine ∧ QS (.nx, S.set i (some ⟨true, .lst (ds ++ [d])⟩)) := by unfold sApp; simp only [ok_bind, ok_if, ok_ok]
theorem oL_z {l : List (Option Sl)} {ds : List D} : Ok (ownL 0 (some ⟨true, .lst ds⟩ :: l)) QL ↔ QL ds := ok_ok
theorem oL_s {a : Option Sl} {l : List (Option Sl)} : Ok (ownL (i + 1) (a :: l)) QL ↔ Ok (ownL i l) QL := Iff.rfl
theorem k_par {is : List Nat} : Ok (sPar is fa S) QS ↔ Ok (fa S) fun ds => ds.length = is.length ∧ QS (.nx, putS S is ds) := by unfold sPar; simp only [ok_bind, ok_if, ok_ok]
theorem k_run {n : Nat} {ds : List D} : Ok (runF false n s ds) Q ↔ Ok (s (startS n ds)) fun z => match z.1 with | .rt d => Q d | .nx => Q .non | _ => False := by
  unfold runF
  cases e : s (startS n ds) with
  | ok z =>
    rw [ok_ok]
    obtain ⟨fl, S'⟩ := z
    cases fl <;> simp [endF, ok_ok, ok_fail]
  | exc x => exact ⟨fun ⟨_, e, _⟩ => (nomatch e), fun ⟨_, e, _⟩ => (nomatch e)⟩
  | fail => exact ⟨fun ⟨_, e, _⟩ => (nomatch e), fun ⟨_, e, _⟩ => (nomatch e)⟩
theorem k_runN {n ci : Nat} {ds : List D} : Ok (runN n ci s ds) Q ↔ Ok (s (startN n ci ds)) fun z => match z.1 with | .nx => get1 0 z.2 Q | _ => False := by
  unfold runN
  cases e : s (startN n ci ds) with
  | ok z =>
    rw [ok_ok]
    obtain ⟨fl, S'⟩ := z
    cases fl with
    | nx =>
      show Ok (endN (.ok (.nx, S'))) Q ↔ get1 0 S' Q
      unfold endN get1
      dsimp only
      cases S'[0]? with
      | none => exact ok_fail
      | some o =>
        cases o with
        | none => exact ok_fail
        | some sl => obtain ⟨b, d⟩ := sl; cases b <;> first | exact ok_ok | exact ok_fail
    | _ => exact ok_fail
  | exc x => exact ⟨fun ⟨_, e, _⟩ => (nomatch e), fun ⟨_, e, _⟩ => (nomatch e)⟩
  | fail => exact ⟨fun ⟨_, e, _⟩ => (nomatch e), fun ⟨_, e, _⟩ => (nomatch e)⟩
theorem k_fld {ci : Nat} : Ok (sFldN ci i j f S) QS ↔ Ok (ownO ci i S) fun ds => Ok (f S) fun d => ds.length = j ∧ QS (.nx, S.set i (some ⟨true, .obj ci (ds ++ [d])⟩)) := by unfold sFldN; simp only [ok_bind, ok_if, ok_ok]
theorem oO_z {ci : Nat} {l : List (Option Sl)} {ds : List D} : Ok (ownO ci 0 (some ⟨true, .obj ci ds⟩ :: l)) QL ↔ QL ds := by
  show Ok (if ci = ci then _ else _) QL ↔ _
  rw [if_pos rfl]; exact ok_ok
/-! operations -/
theorem k_add {a b : Int} : Ok (addD (.int a) (.int b)) Q ↔ Q (.int (a + b)) := ok_ok
theorem k_addL {a b : List D} : Ok (addD (.lst a) (.lst b)) Q ↔ a.length + b.length ≤ sizeLine ∧ Q (.lst (a ++ b)) := by show Ok (if _ then _ else _) Q ↔ _; rw [ok_if, ok_ok]
theorem k_sub {a b : Int} : Ok (subD (.int a) (.int b)) Q ↔ Q (.int (a - b)) := ok_ok
theorem k_mul {a b : Int} : Ok (mulD (.int a) (.int b)) Q ↔ (CMul a b ∨ CMulX a b) ∧ Q (.int (a * b)) := by show Ok (if _ then _ else _) Q ↔ _; rw [ok_if, ok_ok]
theorem k_div {a b : Int} : Ok (fdivD (.int a) (.int b)) Q ↔ CDiv a b ∧ Q (.int (a / b)) := by show Ok (if _ then _ else _) Q ↔ _; rw [ok_if, ok_ok]
theorem k_mod {a b : Int} : Ok (modD (.int a) (.int b)) Q ↔ 0 < b ∧ Q (.int (a % b)) := by show Ok (if _ then _ else _) Q ↔ _; rw [ok_if, ok_ok]
theorem k_pow {a b : Int} : Ok (powD (.int a) (.int b)) Q ↔ CPow a b ∧ Q (.int (a ^ b.toNat)) := by show Ok (if _ then _ else _) Q ↔ _; rw [ok_if, ok_ok]
theorem k_neg {a : Int} : Ok (negD (.int a)) Q ↔ Q (.int (-a)) := ok_ok
theorem k_lt {a b : Int} : Ok (ltD (.int a) (.int b)) Q ↔ Q (.bl (decide (a < b))) := ok_ok
theorem k_le {a b : Int} : Ok (leD (.int a) (.int b)) Q ↔ Q (.bl (decide (a ≤ b))) := ok_ok
theorem k_gt {a b : Int} : Ok (gtD (.int a) (.int b)) Q ↔ Q (.bl (decide (b < a))) := ok_ok
theorem k_ge {a b : Int} : Ok (geD (.int a) (.int b)) Q ↔ Q (.bl (decide (b ≤ a))) := ok_ok
theorem k_eqI {a b : Int} : Ok (eqD (.int a) (.int b)) Q ↔ Q (.bl (decide (a = b))) := by
  have e : eqD (.int a) (.int b) = .ok (.bl (decide (a = b))) := by
    unfold eqD; simp only [dok, deq, Bool.and_self, if_true]; rfl
  rw [e, ok_ok]
theorem k_neI {a b : Int} : Ok (neD (.int a) (.int b)) Q ↔ Q (.bl (!decide (a = b))) := by
  have e : neD (.int a) (.int b) = .ok (.bl (!decide (a = b))) := by
    unfold neD; simp only [dok, deq, Bool.and_self, if_true]; rfl
  rw [e, ok_ok]
theorem k_int {a : Int} : Ok (intD (.int a)) Q ↔ Q (.int a) := ok_ok
theorem k_intB {b : Bool} : Ok (intD (.bl b)) Q ↔ Q (.int (if b then 1 else 0)) := ok_ok
theorem k_abs {a : Int} : Ok (absD (.int a)) Q ↔ Q (.int (if a < 0 then -a else a)) := ok_ok
theorem k_lenL {a : List D} : Ok (lenD (.lst a)) Q ↔ Q (.int a.length) := ok_ok
theorem k_lenT {a : List D} : Ok (lenD (.tup a)) Q ↔ Q (.int a.length) := ok_ok
theorem k_lenC {a : List Int} : Ok (lenD (.scr a)) Q ↔ Q (.int a.length) := ok_ok
theorem k_tru {b : Bool} : Ok (truD (.bl b)) QB ↔ QB b := ok_ok
theorem k_tupL {a : List D} : Ok (tupD (.lst a)) Q ↔ Q (.tup a) := ok_ok
theorem k_tupT {a : List D} : Ok (tupD (.tup a)) Q ↔ Q (.tup a) := ok_ok
theorem k_fldD {ci j : Nat} {ds : List D} : Ok (fldD ci j (.obj ci ds)) Q ↔ ∃ d, ds[j]? = some d ∧ Q d := by
  show Ok (if ci = ci then _ else _) Q ↔ _
  rw [if_pos rfl]
  cases h : ds[j]? with
  | none => exact ⟨fun ⟨_, e, _⟩ => (nomatch e), fun ⟨_, e, _⟩ => (nomatch e)⟩
  | some d => exact ⟨fun q => ⟨d, rfl, ok_ok.mp q⟩, fun ⟨_, e, q⟩ => by cases e; exact ok_ok.mpr q⟩
theorem k_items_l {ds : List D} : Ok (itemsD (.lst ds)) QL ↔ QL ds := ok_ok
theorem k_items_t {ds : List D} : Ok (itemsD (.tup ds)) QL ↔ QL ds := ok_ok
theorem k_rng1 {j : Int} : Ok (rng1 [.int j]) QL ↔ (-(2 ^ 62) ≤ j ∧ j < 2 ^ 62) ∧ QL (rngL 0 j.toNat) := by show Ok (if _ then _ else _) QL ↔ _; rw [ok_if, ok_ok]
theorem k_ixL {xs : List D} {i : Int} : Ok (ixD (.lst xs) (.int i)) Q ↔ ∃ d, L2.atI xs i = some d ∧ Q d := by
  show Ok (match L2.atI xs i with | some d => .ok d | none => .fail) Q ↔ _
  cases L2.atI xs i with
  | none => exact ⟨fun ⟨_, e, _⟩ => (nomatch e), fun ⟨_, e, _⟩ => (nomatch e)⟩
  | some d => exact ⟨fun q => ⟨d, rfl, ok_ok.mp q⟩, fun ⟨_, e, q⟩ => by cases e; exact ok_ok.mpr q⟩
theorem k_ixT {xs : List D} {i : Int} : Ok (ixD (.tup xs) (.int i)) Q ↔ ∃ d, L2.atI xs i = some d ∧ Q d := by
  show Ok (match L2.atI xs i with | some d => .ok d | none => .fail) Q ↔ _
  cases L2.atI xs i with
  | none => exact ⟨fun ⟨_, e, _⟩ => (nomatch e), fun ⟨_, e, _⟩ => (nomatch e)⟩
  | some d => exact ⟨fun q => ⟨d, rfl, ok_ok.mp q⟩, fun ⟨_, e, q⟩ => by cases e; exact ok_ok.mpr q⟩
theorem k_ixC {xs : List Int} {i : Int} : Ok (ixD (.scr xs) (.int i)) Q ↔ ∃ d, L2.atI xs i = some d ∧ Q (.int d) := by
  show Ok (match L2.atI xs i with | some d => .ok (.int d) | none => .fail) Q ↔ _
  cases L2.atI xs i with
  | none => exact ⟨fun ⟨_, e, _⟩ => (nomatch e), fun ⟨_, e, _⟩ => (nomatch e)⟩
  | some d => exact ⟨fun q => ⟨d, rfl, ok_ok.mp q⟩, fun ⟨_, e, q⟩ => by cases e; exact ok_ok.mpr q⟩
theorem k_fun {β : Type} {r : R β} {f : β → R (List D)} : Ok (r >>= f) QL ↔ Ok r fun b => Ok (f b) QL := ok_bind
end
theorem k_no {QS : Fl × Env → Prop} {S : Env} : Ok (sNo S) QS ↔ False := ok_fail
theorem k_guard {QS : Fl × Env → Prop} {S : Env} {t : FT} : Ok (sIf t sNo sNil S) QS ↔ Ok (t S) fun b => b = false ∧ QS (.nx, S) := by
  rw [k_if]
  apply iff_of_eq
  congr 1
  funext b
  cases b <;> simp [k_no, k_nil]
theorem seq_cut {QS : Fl × Env → Prop} {S : Env} {s r : FS} (P : Env → Prop) (h : Ok (s S) fun z => z.1 = .nx ∧ P z.2) (k : ∀ S', P S' → Ok (r S') QS) : Ok (sSeq s r S) QS := by
  rw [k_seq]
  refine h.mono fun z hz => ?_
  obtain ⟨fl, S'⟩ := z
  obtain ⟨rfl, hp⟩ := hz
  exact k S' hp
theorem mul_r {i j : Int} (h1 : -(2 ^ 64) < j) (h2 : j < 2 ^ 64) : CMul i j ∨ CMulX i j := .inl (.inr ⟨h1, h2⟩)
theorem mul_l {i j : Int} (h1 : -(2 ^ 64) < i) (h2 : i < 2 ^ 64) : CMul i j ∨ CMulX i j := .inl (.inl ⟨h1, h2⟩)
theorem div_c {i j : Int} (h1 : 0 < j) (h2 : j < 1073741824) : CDiv i j := ⟨h1, h2⟩
theorem bits64 {i : Int} (h1 : -(2 ^ 64) < i) (h2 : i < 2 ^ 64) : Builtin.Int.intBits i ≤ 64 := intBits_le_64 h1 h2
theorem atI_mem {α : Type} {xs : List α} {i : Int} {a : α} (h : L2.atI xs i = some a) : a ∈ xs := by
  unfold L2.atI at h
  cases e : ixN xs.length i with
  | none => rw [e] at h; cases h
  | some n => rw [e] at h; exact List.mem_of_getElem? h
theorem atI_lt {α : Type} {xs : List α} {i : Int} (h0 : 0 ≤ i) (h : i < xs.length) : ∃ a, L2.atI xs i = some a := by
  have hi : i.toNat < xs.length := by omega
  refine ⟨xs[i.toNat], ?_⟩
  unfold L2.atI ixN
  rw [if_pos h0, if_pos h]
  exact List.getElem?_eq_getElem hi
theorem rngL_get {lo : Int} {n i : Nat} {d : D} (h : (rngL lo n)[i]? = some d) : i < n ∧ d = .int (lo + i) := by
  unfold rngL at h
  rw [List.getElem?_map] at h
  by_cases hi : i < n
  · rw [List.getElem?_range hi] at h
    cases h
    exact ⟨hi, rfl⟩
  · rw [List.getElem?_eq_none (by simp; omega)] at h
    cases h
theorem rngL_len {lo : Int} {n : Nat} : (rngL lo n).length = n := by unfold rngL; simp
theorem size_ge : (1048576 : Nat) ≤ sizeLine := by decide
end M
namespace M
open PySem L2
/-! ### typed lists -/
theorem lc_typed {α : Type} {ga : FG} {t : FT} {fe : FE} {S : Env} (f : α → D) (p : α → Bool) (g : α → D) : ∀ (xs : List α), (∀ x ∈ xs, Ok (ga (f x) S) fun S1 => Ok (t S1) fun b => b = p x ∧ (p x = true → Ok (fe S1) fun y => y = g x)) → lcF ga t fe S (xs.map f) = .ok ((xs.filter p).map g)
  | [], _ => rfl
  | x :: xs, h => by
    have ih := lc_typed f p g xs fun y hy => h y (List.mem_cons_of_mem _ hy)
    obtain ⟨S1, e1, b, e2, rfl, k⟩ := h x (List.mem_cons_self ..)
    show ((ga (f x) S).nox >>= fun S1 => (t S1).nox >>= fun b => if b then (fe S1).nox >>= fun y => lcF ga t fe S (xs.map f) >>= fun ys => .ok (y :: ys) else lcF ga t fe S (xs.map f)) = _
    rw [e1, R.nox_ok, R.ok_bind, e2, R.nox_ok, R.ok_bind, ih]
    by_cases hp : p x = true
    · obtain ⟨y, e3, rfl⟩ := k hp
      rw [if_pos hp, e3, R.nox_ok, R.ok_bind, R.ok_bind, List.filter_cons_of_pos hp, List.map_cons]
    · rw [if_neg hp, List.filter_cons_of_neg hp]
theorem k_lc {fi : FI} {ga : FG} {t : FT} {fe : FE} {vs : List Nat} {S : Env} {Q : D → Prop} : Ok (lcE fi ga t fe vs S) Q ↔ Ok (fi S) fun ds => ds.length ≤ sizeLine ∧ Ok (lcF ga t fe (wipeS S vs) ds) fun ys => Q (.lst ys) := by
  unfold lcE; simp only [ok_bind, ok_if, ok_ok]
theorem k_lcT {α : Type} {fi : FI} {ga : FG} {t : FT} {fe : FE} {vs : List Nat} {S : Env} {Q : D → Prop} (f : α → D) (p : α → Bool) (g : α → D) (xs : List α) (hi : Ok (fi S) fun ds => ds = xs.map f) (hl : xs.length ≤ sizeLine)
    (h : ∀ x ∈ xs, Ok (ga (f x) (wipeS S vs)) fun S1 => Ok (t S1) fun b => b = p x ∧ (p x = true → Ok (fe S1) fun y => y = g x)) (q : Q (.lst ((xs.filter p).map g))) : Ok (lcE fi ga t fe vs S) Q := by
  rw [k_lc]
  obtain ⟨ds, e, rfl⟩ := hi
  refine ⟨_, e, by rwa [List.length_map], ?_⟩
  rw [lc_typed f p g xs h, ok_ok]
  exact q
theorem filter_true {α : Type} {p : α → Bool} : ∀ {xs : List α}, (∀ x ∈ xs, p x = true) → xs.filter p = xs
  | [], _ => rfl
  | x :: xs, h => by rw [List.filter_cons_of_pos (h x (List.mem_cons_self ..)), filter_true fun y hy => h y (List.mem_cons_of_mem _ hy)]
/-- no test -/
theorem k_lcM {α : Type} {fi : FI} {ga : FG} {fe : FE} {vs : List Nat} {S : Env} {Q : D → Prop} (f : α → D) (g : α → D) (xs : List α) (hi : Ok (fi S) fun ds => ds = xs.map f) (hl : xs.length ≤ sizeLine)
    (h : ∀ x ∈ xs, Ok (ga (f x) (wipeS S vs)) fun S1 => Ok (fe S1) fun y => y = g x) (q : Q (.lst (xs.map g))) : Ok (lcE fi ga tY fe vs S) Q := by
  refine k_lcT f (fun _ => true) g xs hi hl (fun x hx => (h x hx).mono fun S1 h1 => ok_ok.mpr ⟨rfl, fun _ => h1⟩) ?_
  rw [filter_true fun _ _ => rfl]
  exact q
theorem asB_mapf {α : Type} (f : α → Bool) : ∀ xs : List α, asB (xs.map fun x => .bl (f x)) = some (xs.map f)
  | [] => rfl
  | x :: xs => by simp only [List.map_cons, asB, asB_mapf f xs, Option.map_some]
theorem asI_mapf {α : Type} (f : α → Int) : ∀ xs : List α, asI (xs.map fun x => .int (f x)) = some (xs.map f)
  | [] => rfl
  | x :: xs => by simp only [List.map_cons, asI, asI_mapf f xs, Option.map_some]
theorem k_any {α : Type} (f : α → Bool) (xs : List α) {Q : D → Prop} : Ok (anyD (.lst (xs.map fun x => .bl (f x)))) Q ↔ Q (.bl (xs.any f)) := by
  have e : anyD (.lst (xs.map fun x => .bl (f x))) = .ok (.bl (xs.any f)) := by
    simp only [anyD, asB_mapf]
    rw [List.any_map]; rfl
  rw [e, ok_ok]
theorem k_all {α : Type} (f : α → Bool) (xs : List α) {Q : D → Prop} : Ok (allD (.lst (xs.map fun x => .bl (f x)))) Q ↔ Q (.bl (xs.all f)) := by
  have e : allD (.lst (xs.map fun x => .bl (f x))) = .ok (.bl (xs.all f)) := by
    simp only [allD, asB_mapf]
    rw [List.all_map]; rfl
  rw [e, ok_ok]
theorem k_sum {α : Type} (f : α → Int) (xs : List α) {Q : D → Prop} : Ok (sumD (.lst (xs.map fun x => .int (f x)))) Q ↔ Q (.int (xs.map f).sum) := by
  have e : sumD (.lst (xs.map fun x => .int (f x))) = .ok (.int (xs.map f).sum) := by simp only [sumD, asI_mapf]
  rw [e, ok_ok]
theorem k_max {α : Type} (f : α → Int) (x : α) (xs : List α) {Q : D → Prop} : Ok (maxD (.lst ((x :: xs).map fun x => .int (f x)))) Q ↔ Q (.int (maxL ((x :: xs).map f))) := by
  have e : maxD (.lst ((x :: xs).map fun x => .int (f x))) = .ok (.int (maxL ((x :: xs).map f))) := by
    unfold maxD
    simp only [asI_mapf]
    rfl
  rw [e, ok_ok]
theorem k_maxc {α : Type} (f : α → Int) (n : Int) (xs : List α) {Q : D → Prop} : Ok (maxD (.lst (.int n :: xs.map fun x => .int (f x)))) Q ↔ Q (.int (maxL (n :: xs.map f))) := by
  have e : maxD (.lst (.int n :: xs.map fun x => .int (f x))) = .ok (.int (maxL (n :: xs.map f))) := by
    unfold maxD
    simp only [asI, asI_mapf, Option.map_some]
  rw [e, ok_ok]
/-- a for over a typed list -/
theorem for_typed {α : Type} {ga : FG} {s : FS} {QS : Fl × Env → Prop} (f : α → D) (P : List α → Env → Prop) (xs : List α) (S : Env) (h0 : P [] S)
    (h : ∀ (done : List α) (x : α) (rest : List α) (S : Env), xs = done ++ x :: rest → P done S → Ok (ga (f x) S) fun S1 => Ok (s S1) fun z => match z.1 with
      | .nx => P (done ++ [x]) z.2
      | .ct => P (done ++ [x]) z.2
      | .bk => QS (.nx, z.2)
      | .rt d => QS (.rt d, z.2)) (q : ∀ S, P xs S → QS (.nx, S)) : Ok (forF ga s (xs.map f) S) QS := by
  suffices H : ∀ (rest done : List α) (S : Env), xs = done ++ rest → P done S → Ok (forF ga s (rest.map f) S) QS from H xs [] S rfl h0
  intro rest
  induction rest with
  | nil => intro done S e hp; rw [List.append_nil] at e; subst e; exact ok_ok.mpr (q S hp)
  | cons x rest ih =>
    intro done S e hp
    rw [List.map_cons, k_fcons]
    refine (h done x rest S e hp).mono fun S1 h1 => h1.mono fun z hz => ?_
    obtain ⟨fl, S'⟩ := z
    have e' : xs = (done ++ [x]) ++ rest := by rw [e]; simp
    cases fl with
    | nx => exact ih (done ++ [x]) S' e' hz
    | ct => exact ih (done ++ [x]) S' e' hz
    | bk => exact hz
    | rt d => exact hz
end M
set_option Elab.async false
set_option linter.all false
set_option maxRecDepth 100000
set_option maxHeartbeats 4000000
namespace M
open PySem L2
/-! ### what the head's hook looks at -/
mutual
def dB (K : PySem.W.Frag) : D → Value → Bool
  | .non, .none => true
  | .bl b, .bool c => b == c
  | .int i, .int j _ => decide (i = j)
  | .str x, .str y _ => decide (x = y)
  | .tup ds, .ref a => (match K.lookup a with
    | some ⟨.type c, _, .seq its _, _⟩ => decide (c = "tuple") && (decide (its.size ≤ sizeLine) && dsB K ds its.toList)
    | _ => false)
  | _, _ => false
termination_by structural d => d
def dsB (K : PySem.W.Frag) : List D → List Value → Bool
  | [], [] => true
  | d :: ds, u :: us => dB K d u && dsB K ds us
  | _, _ => false
termination_by structural ds => ds
end
section
variable {K : PySem.W.Frag} {cl : Nat → Option (Addr × List Str)}
mutual
theorem dB_ok : ∀ {d : D} {u : Value}, dB K d u = true → ∃ v, RelV v u ∧ ∀ G, RD ⟨K, cl⟩ G d v
  | .non, .none, _ => ⟨.non, rfl, fun _ => .non⟩
  | .bl b, .bool c, h => by simp only [dB, beq_iff_eq] at h; subst h; exact ⟨.bl b, rfl, fun _ => .bl _⟩
  | .int i, .int j t, h => by simp only [dB, decide_eq_true_eq] at h; subst h; exact ⟨.int i, ⟨t, rfl⟩, fun _ => .int _⟩
  | .str x, .str y t, h => by simp only [dB, decide_eq_true_eq] at h; subst h; exact ⟨.str x, ⟨t, rfl⟩, fun _ => .str _⟩
  | .tup ds, .ref a, h => by
    simp only [dB] at h
    split at h
    · rename_i c od its n sl e
      simp only [Bool.and_eq_true, decide_eq_true_eq] at h
      obtain ⟨h1, h2, h3⟩ := h
      obtain ⟨vs, r1, r2⟩ := dsB_ok h3
      exact ⟨.ref a, rfl, fun G => .tup (.inr ⟨_, its, n, e, congrArg Value.type h1, rfl, h2, r1⟩) (r2 G)⟩
    · cases h
theorem dsB_ok : ∀ {ds : List D} {us : List Value}, dsB K ds us = true → ∃ vs, Vals vs us ∧ ∀ G, RDs ⟨K, cl⟩ G ds vs
  | [], [], _ => ⟨[], .nil, fun _ => .nil⟩
  | d :: ds, u :: us, h => by
    simp only [dsB, Bool.and_eq_true] at h
    obtain ⟨v, r1, r2⟩ := dB_ok h.1
    obtain ⟨vs, q1, q2⟩ := dsB_ok h.2
    exact ⟨v :: vs, .cons r1 q1, fun G => .cons (r2 G) (q2 G)⟩
end
end
def gB (K : PySem.W.Frag) (q : Str × D) : Bool := match PySem.W.nsIn K mainGlobals q.1 with
  | some (some u) => dB K q.2 u
  | _ => false
theorem gB_ok {K : PySem.W.Frag} {h : Heap} {mg : Str → Option Value} {cl : Nat → Option (Addr × List Str)} {x : Str} {d : D} (X : K.In h) (G : h.Ns mainGlobals mg) (c : gB K (x, d) = true) : Gc mg ⟨K, cl⟩ x d := by
  unfold gB at c
  split at c
  · rename_i u e
    obtain ⟨v, r1, r2⟩ := dB_ok (cl := cl) c
    exact ⟨v, u, PySem.W.mg_of X G e, r1, r2⟩
  · cases c
theorem gcls_ok {K : PySem.W.Frag} {mg : Str → Option Value} {cl : Nat → Option (Addr × List Str)} {x : Str} {ci : Nat} {C : Addr} {nm : List Str} (h : mg x = some (.ref C)) (hc : cl ci = some (C, nm)) : Gc mg ⟨K, cl⟩ x (.cls ci) :=
  ⟨.ref C, .ref C, h, rfl, fun _ => .cls hc⟩
/-- a class whose instances isinstance knows -/
def tyB (K : PySem.W.Frag) (x : Str) : Bool := He.eqO (PySem.W.findIn K (.ref (He.ga K x)) "__class__") (some (some (.builtin "object.__class__"))) && (He.eqO (PySem.W.specialIn K (.builtin "object.__class__") "__get__") (some (some (.builtin "getset_descriptor.__get__"))) &&
  (decide (PySem.W.takesIn K (.builtin "object.__class__") = some true) && decide (PySem.W.mroIn K (He.ga K x) (.type "object") = some true)))
theorem tyB_ok {K : PySem.W.Frag} {cl : Nat → Option (Addr × List Str)} {x : Str} {ci : Nat} {nm : List Str} (c : tyB K x = true) (h : Cls K (He.ga K x)) (hc : cl ci = some (He.ga K x, nm)) : ClsT K ⟨K, cl⟩ ci := by
  obtain ⟨h1, h2⟩ := He.ba c
  obtain ⟨h3, h4⟩ := He.ba h2
  obtain ⟨h5, h6⟩ := He.ba h4
  exact ⟨_, nm, hc, h, He.eqO_ok h1, He.eqO_ok h3, of_decide_eq_true h5, of_decide_eq_true h6⟩
/-! ### the hook -/
/-- facts: the kit's, constants of the top, classes of isinstance -/
structure Fx where
  fa : List He.Fa
  gs : List (Str × D)
  ts : List Str
def Fx.ok (x : Fx) (K : PySem.W.Frag) : Bool := (x.fa.all fun f => f.ok K) && ((x.gs.all fun g => gB K g) && x.ts.all fun t => tyB K t)
def obsX (x : Fx) (fn : List He.DefD) (K : PySem.W.Frag) : He.AlD := (x.ok K && fn.all fun d => d.ok K, fn.map fun d => He.fnW K d.at_)
def SaysX (x : Fx) (fn : List He.DefD) (K : PySem.W.Frag) : Prop := obsX x fn K = He.valD fn
def obsXG (n : Nat) (x : Fx) (fn : List He.DefD) (g : Addr → Option Obj) : He.AlD := obsX x fn (He.frG g (He.asD g n))
def hookX (n : Nat) (x : Fx) (fn : List He.DefD) : PySem.W.Hook where
  α := He.AlD
  obs := fun s => obsXG n x fn s.heap.get?
  val := fun _ => He.valD fn
  says := fun _ h => ∃ K : PySem.W.Frag, K.In h ∧ SaysX x fn K
  of := fun _ _ e => ⟨_, He.frG_in, e⟩
  keeps := fun _ _ _ ⟨K, hK, c⟩ k => ⟨K, PySem.W.Frag.In.keeps hK k, c⟩
theorem obsXG_eq {n : Nat} {x : Fx} {fn : List He.DefD} {g : Addr → Option Obj} {s : Shared} (h : ∀ a, g a = s.heap.get? a) : obsXG n x fn g = (hookX n x fn).obs s := by
  have e : g = s.heap.get? := funext h
  rw [e] <;> rfl
section
variable {x : Fx} {fn : List He.DefD} {K : PySem.W.Frag}
theorem SaysX.ok (c : SaysX x fn K) : x.ok K = true := (He.ba (show (x.ok K && fn.all fun d => d.ok K) = true from congrArg (fun z : He.AlD => z.1) c)).1
theorem SaysX.fact (c : SaysX x fn K) (i : Nat) {f : He.Fa} (h : x.fa[i]? = some f := by rfl) : f.ok K = true := List.all_eq_true.mp (He.ba c.ok).1 f (List.mem_of_getElem? h)
theorem SaysX.gc (c : SaysX x fn K) (i : Nat) {f : Str × D} (h : x.gs[i]? = some f := by rfl) : gB K f = true := List.all_eq_true.mp (He.ba (He.ba c.ok).2).1 f (List.mem_of_getElem? h)
theorem SaysX.ty (c : SaysX x fn K) (i : Nat) {f : Str} (h : x.ts[i]? = some f := by rfl) : tyB K f = true := List.all_eq_true.mp (He.ba (He.ba c.ok).2).2 f (List.mem_of_getElem? h)
theorem SaysX.def_ (c : SaysX x fn K) (i : Nat) {d : He.DefD} (h : fn[i]? = some d := by rfl) : ∃ fd, FunD K d.name d.qual d.params d.body d.scope (d.dvs K) (d.kws K) (He.fAd K d.at_) fd := by
  have c2 := (He.ba (show (x.ok K && fn.all fun d => d.ok K) = true from congrArg (fun z : He.AlD => z.1) c)).2
  have e : fn.map (fun d => He.fnW K d.at_) = fn.map He.DefD.val := congrArg (fun z : He.AlD => z.2) c
  have e2 : (fn.map fun d => He.fnW K d.at_)[i]? = (fn.map He.DefD.val)[i]? := by rw [e]
  rw [List.getElem?_map, List.getElem?_map, h] at e2
  exact He.DefD.funD (Option.some.inj e2) (List.all_eq_true.mp c2 d (List.mem_of_getElem? h))
end
/-! ### the end -/
theorem walk_ofX {l : PySem.W.OpenLaw} {n k : Nat} {q : Program} {loose : List Str} {XP : (Str → Option Value) → Heap → Prop} {YP : World → Heap → Prop} {d : DefRec} {x : Str} {den : List D → R D}
    (hn : l.most = some n) (hn2 : n ≤ sizeLine) (hdf : d.params.defaults = []) (hr : Room k callerA)
    (F : ∀ (w : World) (mg : Str → Option Value) (fa : Addr) (h : Heap), YP w h → h.Ns mainGlobals mg → mg d.name = some (.ref fa) →
      ∃ (K : PySem.W.Frag) (fd : FuncData) (cl : Nat → Option (Addr × List Str)), K.In h ∧ (∀ (s : Shared) (u : Value), BindsTo s fd ⟨[u], []⟩ [(x, u)]) ∧
        ∀ base : Heap, K.In base → base.Ns mainGlobals mg → FnOk l.prog w K mg base CX0 k fa fd [x] (SpF ⟨K, cl⟩ false 1 den))
    (pure_ : ∀ ns : List Int, ns.length ≤ n → (∀ z ∈ ns, Builtin.Int.intBits z ≤ 1048576) → den [.scr ns] = .ok (.bl true)) :
    PySem.W.WalkO q loose XP YP l.row.toRowW d [] (fun f vs => PySem.call f vs) := by
  refine Att.attach_callB hn hdf fun w s₀ s₁ mg mb fa o pm cd doc a vs ns G Y ho hd hcd hmg hobj hints hlen hbits hg => ?_
  obtain ⟨K, fd, cl, KX, hb, hF⟩ := F w mg fa _ Y G.T.g hmg
  refine law_call KX G.T.g G.T.b G.T.builtins G.T.nolimit hg hobj hints (Nat.le_trans hlen hn2) hr hF hb (fun H hO hS => ?_) fun H e s' z => z
  refine ⟨rfl, H, [.scr ns], Ex.refl H, .cons (.scr hS) .nil, ?_⟩
  rw [pure_ ns hlen hbits]
  intro v G' H' s r
  have r : RD ⟨K, cl⟩ G' (.bl true) v := r
  cases r
  rfl
end M
set_option Elab.async false
set_option linter.all false
set_option maxRecDepth 100000
set_option maxHeartbeats 4000000
namespace M
open PySem L2
/-! ### where a def stands: a global's, a class's method, a property's getter -/
inductive Wh where
  | glo (x : Str) | met (C m : Str) | pro (C m : Str)
def innA (K : PySem.W.Frag) (T : String) (p : Addr) : Addr := match PySem.W.recIn K p T with
  | some (.ref g :: _) => g
  | _ => 0
def Wh.ad (K : PySem.W.Frag) : Wh → Addr
  | .glo x => He.ga K x
  | .met C m => He.ma K (He.ga K C) m
  | .pro C m => innA K "property" (He.ma K (He.ga K C) m)
/-- a def and its place -/
structure Dx where
  w : Wh
  d : He.DefD
def seenF : FuncData → He.FnW := fun z => some (z.name, z.qualname, z.params, z.body, z.scope, z.globals, z.closure, z.builtins)
def Dx.look (K : PySem.W.Frag) (x : Dx) : Option FuncData := (K.lookup (x.w.ad K)).bind fun o => match o.data with
  | .func z => some z
  | _ => none
def Dx.seen (K : PySem.W.Frag) (x : Dx) : He.FnW := (x.look K).bind seenF
def Dx.good (K : PySem.W.Frag) (x : Dx) : Bool := PySem.W.keepIn K (.ref (x.w.ad K)) && ((x.look K).map fun z => PySem.W.codeIn K z.code x.d.qual && (He.dflB K z.defaults (x.d.dvs K) && He.kwdB K z.kwdefaults (x.d.kws K))).getD false
theorem Dx.fund {K : PySem.W.Frag} {x : Dx} (e : x.seen K = x.d.val) (c : x.good K = true) : ∃ z, FunD K x.d.name x.d.qual x.d.params x.d.body x.d.scope (x.d.dvs K) (x.d.kws K) (x.w.ad K) z := by
  obtain ⟨kp, c2⟩ := He.ba c
  cases hl : x.look K with
  | none => rw [hl] at c2; cases c2
  | some z =>
    rw [hl] at c2
    have c3 : (PySem.W.codeIn K z.code x.d.qual && (He.dflB K z.defaults (x.d.dvs K) && He.kwdB K z.kwdefaults (x.d.kws K))) = true := c2
    have e2 : seenF z = x.d.val := by
      unfold Dx.seen at e
      rw [hl] at e
      exact e
    obtain ⟨a1, a2⟩ := He.ba c3
    obtain ⟨a3, a4⟩ := He.ba a2
    have hk : ∃ oc od osl, K.lookup (x.w.ad K) = some ⟨oc, od, .func z, osl⟩ := by
      unfold Dx.look at hl
      cases q : K.lookup (x.w.ad K) with
      | none => rw [q] at hl; cases hl
      | some o =>
        rw [q] at hl
        obtain ⟨oc, od, dt, osl⟩ := o
        cases dt with
        | func y => cases hl; exact ⟨oc, od, osl, rfl⟩
        | _ => cases hl
    obtain ⟨oc, od, osl, hk⟩ := hk
    obtain ⟨y1, y2, y3, y4, y5, y6, y7, y8, y9, y10, y11, y12, y13, y14, y15⟩ := z
    simp only [seenF, He.DefD.val, Option.some.injEq, Prod.mk.injEq] at e2
    obtain ⟨b1, b2, b3, b4, b5, b6, b7, b8⟩ := e2
    subst b1 b2 b3 b4 b5 b6 b7 b8
    exact ⟨_, ⟨oc, od, y8, y9, y10, y11, y12, y13, y14, osl, rfl, hk, a1, He.dflB_ok a3, He.kwdB_ok a4⟩, kp⟩
/-- a property of a class -/
def proB (K : PySem.W.Frag) (q : Str × Str) : Bool :=
  He.eqO (PySem.W.findIn K (.ref (He.ga K q.1)) q.2) (some (some (.ref (He.ma K (He.ga K q.1) q.2)))) && (He.eqO (PySem.W.specialIn K (.ref (He.ma K (He.ga K q.1) q.2)) "__get__") (some (some (.builtin "property.__get__"))) &&
    (decide (PySem.W.takesIn K (.ref (He.ma K (He.ga K q.1) q.2)) = some true) && (match PySem.W.recIn K (He.ma K (He.ga K q.1) q.2) "property" with | some (.ref _ :: _) => true | _ => false)))
theorem proB_ok {K : PySem.W.Frag} {C m : Str} (c : proB K (C, m) = true) : PropOf K (He.ga K C) m (He.ma K (He.ga K C) m) ((Wh.pro C m).ad K) := by
  obtain ⟨h1, h2⟩ := He.ba c
  obtain ⟨h3, h4⟩ := He.ba h2
  obtain ⟨h5, h6⟩ := He.ba h4
  refine ⟨He.eqO_ok h1, He.eqO_ok h3, of_decide_eq_true h5, ?_⟩
  show ∃ rest, PySem.W.recIn K (He.ma K (He.ga K C) m) "property" = some (.ref (innA K "property" (He.ma K (He.ga K C) m)) :: rest)
  unfold innA
  dsimp only at h6
  split at h6
  · rename_i g rest e
    rw [e]
    exact ⟨rest, rfl⟩
  · cases h6
/-! ### the hook -/
structure Fy where
  fa : List He.Fa
  gs : List (Str × D)
  ts : List Str
  ps : List (Str × Str)
def Fy.ok (x : Fy) (K : PySem.W.Frag) : Bool := (x.fa.all fun f => f.ok K) && ((x.gs.all fun g => gB K g) && ((x.ts.all fun t => tyB K t) && x.ps.all fun p => proB K p))
def obsY (x : Fy) (fn : List Dx) (K : PySem.W.Frag) : He.AlD := (x.ok K && fn.all fun d => d.good K, fn.map fun d => d.seen K)
def valY (fn : List Dx) : He.AlD := (true, fn.map fun d => d.d.val)
def SaysY (x : Fy) (fn : List Dx) (K : PySem.W.Frag) : Prop := obsY x fn K = valY fn
def obsYG (n : Nat) (x : Fy) (fn : List Dx) (g : Addr → Option Obj) : He.AlD := obsY x fn (He.frG g (He.asD g n))
def hookY (n : Nat) (x : Fy) (fn : List Dx) : PySem.W.Hook where
  α := He.AlD
  obs := fun s => obsYG n x fn s.heap.get?
  val := fun _ => valY fn
  says := fun _ h => ∃ K : PySem.W.Frag, K.In h ∧ SaysY x fn K
  of := fun _ _ e => ⟨_, He.frG_in, e⟩
  keeps := fun _ _ _ ⟨K, hK, c⟩ k => ⟨K, PySem.W.Frag.In.keeps hK k, c⟩
theorem obsYG_eq {n : Nat} {x : Fy} {fn : List Dx} {g : Addr → Option Obj} {s : Shared} (h : ∀ a, g a = s.heap.get? a) : obsYG n x fn g = (hookY n x fn).obs s := by
  have q : g = s.heap.get? := funext h
  subst q; rfl
section
variable {x : Fy} {fn : List Dx} {K : PySem.W.Frag}
theorem SaysY.both (c : SaysY x fn K) : (x.ok K && fn.all fun d => d.good K) = true := congrArg Prod.fst c
theorem SaysY.ok (c : SaysY x fn K) : x.ok K = true := (He.ba c.both).1
theorem SaysY.fact (c : SaysY x fn K) (i : Nat) {f : He.Fa} (h : x.fa[i]? = some f := by rfl) : f.ok K = true := List.all_eq_true.mp (He.ba c.ok).1 f (List.mem_of_getElem? h)
theorem SaysY.gc (c : SaysY x fn K) (i : Nat) {f : Str × D} (h : x.gs[i]? = some f := by rfl) : gB K f = true := List.all_eq_true.mp (He.ba (He.ba c.ok).2).1 f (List.mem_of_getElem? h)
theorem SaysY.ty (c : SaysY x fn K) (i : Nat) {f : Str} (h : x.ts[i]? = some f := by rfl) : tyB K f = true := List.all_eq_true.mp (He.ba (He.ba (He.ba c.ok).2).2).1 f (List.mem_of_getElem? h)
theorem SaysY.pro (c : SaysY x fn K) (i : Nat) {f : Str × Str} (h : x.ps[i]? = some f := by rfl) : proB K f = true := List.all_eq_true.mp (He.ba (He.ba (He.ba c.ok).2).2).2 f (List.mem_of_getElem? h)
theorem SaysY.def_ (c : SaysY x fn K) (i : Nat) {d : Dx} (h : fn[i]? = some d := by rfl) : ∃ z, FunD K d.d.name d.d.qual d.d.params d.d.body d.d.scope (d.d.dvs K) (d.d.kws K) (d.w.ad K) z := by
  have e : fn.map (fun d => d.seen K) = fn.map fun d => d.d.val := congrArg Prod.snd c
  have e2 := congrArg (fun l : List He.FnW => l[i]?) e
  simp only [List.getElem?_map, h, Option.map_some, Option.some.injEq] at e2
  exact Dx.fund e2 (List.all_eq_true.mp (He.ba c.both).2 d (List.mem_of_getElem? h))
end
end M
set_option Elab.async false
set_option linter.all false
set_option maxRecDepth 100000
set_option maxHeartbeats 4000000
namespace M
open PySem L2
/-! ### texts: join, split; any over texts -/
def isS : D → Bool
  | .str _ => true
  | _ => false
/-- o.m(e) of a text o -/
def eM1 (o : D → D → R D) (f g : FE) : FE := fun S => do
  let x ← f S
  if isS x then do
    let y ← g S
    (o x y).nox
  else .fail
section
variable {X : Cx} {c : Cf} {kd k1 k2 : Kd} {a b e o : Expr} {f g : FE} {pos apos : Pos} {k : Kn}
theorem isS_of {G H : Hp} {d : D} {v : V} (h : isS d = true) (n : Now k G H d v) : ∃ x, d = .str x ∧ v = .str x := by
  cases d with
  | str x => exact ⟨x, rfl, n.str⟩
  | _ => simp [isS] at h
theorem eM1_go {op : D → D → R D} {r : V → List V → Hp → VK → Prop} {σ : St} {H : Hp} {Q : VK} (hr : ∀ G H x y v d, Ex G H → Now c.k G H y v → op (.str x) y = .ok d → ∀ Q : VK, (∀ w G' H', Step G H G' H' → Res c.k H G' H' d w kd → Q w H') → r (.str x) [v] H Q)
    (q : RdE c kd (eM1 op f g) σ H Q) : tM1 r (RdE c k1 f) (RdE c k2 g) σ H Q := by
  obtain ⟨G, S, rel, p⟩ := q
  refine rdE_go (g := fun x => if isS x then (g S >>= fun y => (op x y).nox) else .fail) (Post := PostE c kd G S σ H Q) rel p (fun _ z => z) (fun z => z) fun d1 v1 G1 H1 s1 q1 p1 => ?_
  by_cases hs : isS d1 = true
  · rw [if_pos hs] at p1
    obtain ⟨x, rfl, rfl⟩ := isS_of hs q1.now
    refine ⟨⟨x, rfl⟩, ?_⟩
    refine rdE_go (g := fun y => (op (.str x) y).nox) (Post := PostE c kd G S σ H Q) (rel.grow s1) p1 (fun _ z => z) (fun z => z) fun d2 v2 G2 H2 s2 q2 p2 => ?_
    cases e : op (.str x) d2 with
    | ok d =>
      rw [e] at p2
      exact hr G2 H2 x d2 v2 d s2.gh q2.now e Q fun w G3 H3 s3 q3 => p2 w G3 H3 ((s1.trans s2).trans s3) (q3.mono (s1.h.trans s2.h))
    | exc x => rw [e] at p2; exact p2.elim
    | fail => rw [e] at p2; exact p2.elim
  · rw [if_neg hs] at p1; exact p1.elim
def joinD : D → D → R D
  | .str a, .lst ds => (match asS ds with
    | some ys => if (ys.map (·.length)).sum + ys.length * a.length ≤ 16777216 then .ok (.str (Txt.join a ys)) else .fail
    | none => .fail)
  | .str a, .tup ds => (match asS ds with
    | some ys => if (ys.map (·.length)).sum + ys.length * a.length ≤ 16777216 then .ok (.str (Txt.join a ys)) else .fail
    | none => .fail)
  | _, _ => .fail
theorem d_join (hk : c.k.K = X.K) (ho : PE' X c k1 o f) (he : PE' X c k2 e g) (hs : starEach [e] X.env = [(false, eval e X.env)] := by rfl) (hbase : attributeBase o "join" X.env (eval o X.env) = eval o X.env := by rfl) (hline : (apos.endLine == pos.line) = true := by rfl) :
    PE' X c .st (.Call (.Attribute o "join" apos) [e] [] pos) (eM1 joinD f g) :=
  peI (pe_join ho he hs hbase hline) fun σ H Q q => eM1_go (fun G H x y v d ex n hg Q p => by
    cases y with
    | lst ds =>
      simp only [joinD] at hg
      split at hg
      · rename_i ys hy
        split at hg
        · rename_i hl
          cases hg
          obtain ⟨a, vs, rfl, ha, r⟩ := n.lst ex
          have := asS_of r hy; subst this
          exact ⟨x, a, ys, rfl, rfl, .inl (SqL.of ha), hl, p _ G H (Step.refl ex) (.str _)⟩
        · cases hg
      · cases hg
    | tup ds =>
      simp only [joinD] at hg
      split at hg
      · rename_i ys hy
        split at hg
        · rename_i hl
          cases hg
          obtain ⟨a, vs, rfl, ha, r⟩ := n.tup
          have := asS_of r hy; subst this
          exact ⟨x, a, ys, rfl, rfl, .inr (hk ▸ ex.sqT ha.t), hl, p _ G H (Step.refl ex) (.str _)⟩
        · cases hg
      · cases hg
    | _ => simp [joinD] at hg) q
def splitD : D → D → R D
  | .str a, .str b => if (b.length == 0) = false ∧ a.length + 2 ≤ sizeLine then .ok (.lst ((Txt.split a b).map .str)) else .fail
  | _, _ => .fail
theorem RDs.strs {G : Hp} : ∀ (ns : List Str), RDs k G (ns.map D.str) (ns.map V.str)
  | [] => .nil
  | n :: ns => .cons (.str n) (RDs.strs ns)
theorem d_split (ho : PE' X c k1 o f) (he : PE' X c k2 e g) (hs : starEach [e] X.env = [(false, eval e X.env)] := by rfl) (hbase : attributeBase o "split" X.env (eval o X.env) = eval o X.env := by rfl) (hline : (apos.endLine == pos.line) = true := by rfl) :
    PE' X c .fr (.Call (.Attribute o "split" apos) [e] [] pos) (eM1 splitD f g) :=
  peI (pe_split ho he hs hbase hline) fun σ H Q q => eM1_go (fun G H x y v d ex n hg Q p => by
    cases y with
    | str b =>
      simp only [splitD] at hg
      split at hg
      · rename_i hl
        cases hg
        obtain rfl := n.str
        refine ⟨x, b, rfl, rfl, hl.1, hl.2, ?_⟩
        intro q hq
        exact p _ G _ (Step.new' ex hq) ⟨q, _, rfl, ex.free hq, hq, upd_same, .lst (RDs.strs _)⟩
      · cases hg
    | _ => simp [splitD] at hg) q
/-! any(t), t a tuple of texts -/
theorem reads_strs {h : Heap} : ∀ {ss : List Str} {its : List Value}, Vals (ss.map V.str) its → ∃ as, ReadsAll h its (ss.map PyData.str) as
  | [], _, .nil => ⟨_, .nil⟩
  | s :: ss, _, .cons r rs => by
    obtain ⟨t, rfl⟩ := r
    obtain ⟨as, h⟩ := reads_strs rs
    exact ⟨_, .cons (.str s t) h⟩
theorem plain_strs : ∀ (ss : List Str), PyData.plainAll (ss.map PyData.str) = true
  | [] => rfl
  | s :: ss => by simp [PyData.plainAll, PyData.plain, plain_strs ss]
theorem any_strs (ss : List Str) : (ss.map PyData.str).any PyData.truthy = ss.any fun x => x.length != 0 := by
  rw [List.any_map]
  congr 1
  funext x
  show ((x.length : Int) != 0) = (x.length != 0)
  cases x.length <;> simp <;> first | rfl | omega
theorem cr_anyT (hc : X.calm = true) : CallR X (.builtin "any") (fun vs H Q => ∃ (a : Addr) (ss : List Str), vs = [V.ref a] ∧ SqT X.K H a (ss.map V.str) ∧ (∀ x ∈ ss, x.length ≤ sizeLine) ∧ Q (.bl (ss.any fun x => x.length != 0)) H) := by
  intro pins s σ H vs us Q I r h
  obtain ⟨a, ss, rfl, hs, hl, q⟩ := h
  obtain ⟨its, rv, ht, _⟩ := I.tuple hs
  rw [Vals.ref1 r]
  obtain ⟨as, hr⟩ := reads_strs (h := s.heap) rv
  have hz : (sizeLine : Int) < 2 ^ 63 := by decide
  refine PySem.W.any_tuple_data (I.ok.hd hc) (by obtain ⟨ob, h1, h2, n, h3⟩ := ht; exact ⟨ob, h1, h2, n, h3⟩) hr (plain_strs ss) (fun x hx => ?_) fun h' tk hk => ?_
  · obtain ⟨y, hy, rfl⟩ := List.mem_map.mp hx
    have := hl y hy
    show (y.length : Int) < 2 ^ 63
    omega
  · exact ⟨.bl _, H, I.kept fun b o eo => hk b o eo, by rw [any_strs]; rfl, q⟩
def anyTD : D → R D
  | .lst ds => match asB ds with | some ns => .ok (.bl (ns.any id)) | none => .fail
  | .tup ds => match asS ds with | some ss => if ss.all (fun x => decide (x.length ≤ sizeLine)) then .ok (.bl (ss.any fun x => x.length != 0)) else .fail | none => .fail
  | _ => .fail
theorem c_anyT (hk : k.K = X.K) (hc : X.calm = true) : ClR X k (.builtin "any") .st (f1 anyTD) := cl1 ((cr_any hc).or (cr_anyT hc)) fun G H x v d e n hg Q p => by
  cases x <;> simp only [anyTD] at hg <;> first | (cases hg; done) | skip
  · split at hg
    · rename_i ss hn
      split at hg
      · rename_i hl
        cases hg; obtain ⟨a, vs, rfl, ha, r⟩ := n.tup
        have := asS_of r hn; subst this
        exact .inr ⟨a, ss, rfl, hk ▸ e.sqT ha.t, fun x hx => of_decide_eq_true (List.all_eq_true.mp hl x hx), p _ G H (Step.refl e) (.bl _)⟩
      · cases hg
    · cases hg
  · split at hg
    · rename_i ns hn
      cases hg; obtain ⟨a, vs, rfl, ha, r⟩ := n.lst e
      have := asB_of r hn; subst this
      exact .inl ⟨a, ns, rfl, SqL.of ha, p _ G H (Step.refl e) (.bl _)⟩
    · cases hg
end
end M
namespace M
open PySem L2
/-! list(range(..)), tuple(range(..)) -/
section
variable {X : Cx} {c : Cf} {k1 k2 : Kd} {a b e : Expr} {f g : FE} {pos p p2 pos2 : Pos} {k : Kn}
instance (a b : Int) : Decidable (RgOk a b) := by unfold RgOk; infer_instance
/-- the ends of a range -/
abbrev FRg := Env → R (Int × Int)
def rg1 (f : FE) : FRg := fun S => f S >>= fun x => match x with | .int n => .ok (0, n) | _ => .fail
def rg2 (f g : FE) : FRg := fun S => f S >>= fun x => g S >>= fun y => match x, y with | .int i, .int j => .ok (i, j) | _, _ => .fail
def PostRg (c : Cf) (G : Hp) (S : Env) (σ : St) (H : Hp) (Q : Int → Int → Hp → Prop) : R (Int × Int) → Prop
  | .ok (i, j) => ∀ G' H', Step G H G' H' → Q i j H'
  | .exc x => PX c x
  | .fail => False
def RdRg (c : Cf) (r : FRg) : St → Hp → (Int → Int → Hp → Prop) → Prop := fun σ H Q => ∃ G S, Rel c G S σ H ∧ PostRg c G S σ H Q (r S)
theorem prgI {t t' : St → Hp → (Int → Int → Hp → Prop) → Prop} (h : PRg X e t) (i : ∀ σ H Q, t' σ H Q → t σ H Q) : PRg X e t' := fun pins s σ H Q I q => h pins s σ H Q I (i σ H Q q)
theorem d_rg1 (hm : X.mg "range" = none) (ha : PE' X c k1 a f) (hg : Gl X "range" := by rfl) (na : starEach [a] X.env = (false, eval a X.env) :: starEach [] X.env := by rfl) : PRg X (.Call (.Name "range" p) [a] [] pos) (RdRg c (rg1 f)) :=
  prgI (prg_1 hg hm ha na) fun σ H Q ⟨G, S, rel, q⟩ => by
    refine rdE_go (g := fun x => match x with | .int n => .ok ((0 : Int), n) | _ => .fail) (Post := PostRg c G S σ H Q) rel q (fun _ z => z) (fun z => z) fun d v G' H' s r p1 => ?_
    cases d with
    | int n => exact ⟨n, r.now.int, p1 G' H' s⟩
    | _ => exact p1.elim
theorem d_rg2 (hm : X.mg "range" = none) (ha : PE' X c k1 a f) (hb : PE' X c k2 b g) (hg : Gl X "range" := by rfl) (na : starEach [a, b] X.env = (false, eval a X.env) :: starEach [b] X.env := by rfl)
    (nb : starEach [b] X.env = (false, eval b X.env) :: starEach [] X.env := by rfl) (hp : (backTo pos (starEach [b] X.env)).any (·.1) = false := by rfl) : PRg X (.Call (.Name "range" p) [a, b] [] pos) (RdRg c (rg2 f g)) :=
  prgI (prg_2 hg hm ha hb na nb hp) fun σ H Q ⟨G, S, rel, q⟩ => by
    refine rdE_go (g := fun x => g S >>= fun y => match x, y with | .int i, .int j => .ok (i, j) | _, _ => .fail) (Post := PostRg c G S σ H Q) rel q (fun _ z => z) (fun z => z) fun d v G' H' s r p1 => ?_
    refine rdE_go (g := fun y => match d, y with | .int i, .int j => .ok (i, j) | _, _ => .fail) (Post := PostRg c G S σ H Q) (rel.grow s) p1 (fun _ z => z) (fun z => z) fun d2 v2 G2 H2 s2 r2 p2 => ?_
    cases d with
    | int n =>
      cases d2 with
      | int m => exact ⟨n, m, (r.now.grow s2).int, r2.now.int, p2 G2 H2 (s.trans s2)⟩
      | _ => exact p2.elim
    | _ => cases d2 <;> exact p2.elim
def rgD (a b : Int) : List D := (List.range (b - a).toNat).map fun (i : Nat) => .int (a + i)
theorem RDs.rg {G : Hp} (a b : Int) : RDs k G (rgD a b) (rgV a b) := by
  unfold rgD rgV
  induction (List.range (b - a).toNat) with
  | nil => exact .nil
  | cons x xs ih => exact .cons (.int _) ih
def eLstRg (r : FRg) : FE := fun S => r S >>= fun z => if RgOk z.1 z.2 then .ok (.lst (rgD z.1 z.2)) else .fail
def eTupRg (r : FRg) : FE := fun S => r S >>= fun z => if RgOk z.1 z.2 then .ok (.tup (rgD z.1 z.2)) else .fail
theorem d_lstRg {r : FRg} (hc : X.calm = true) (hm : X.mg "list" = none) (he : PRg X e (RdRg c r)) (hg : Gl X "list" := by rfl) (na : starEach [e] X.env = (false, eval e X.env) :: starEach [] X.env := by rfl) : PE' X c .fr (.Call (.Name "list" p) [e] [] pos) (eLstRg r) :=
  peI (pe_listRg hc hg hm he na) fun σ H Q ⟨G, S, rel, q⟩ => by
    refine ⟨G, S, rel, ?_⟩
    have q : PostE c .fr G S σ H Q (r S >>= fun z => if RgOk z.1 z.2 then .ok (.lst (rgD z.1 z.2)) else .fail) := q
    cases e1 : r S with
    | exc x => rw [e1] at q; exact q
    | fail => rw [e1] at q; exact q
    | ok z =>
      rw [e1, R.ok_bind] at q
      intro G' H' s
      by_cases hl : RgOk z.1 z.2
      · rw [if_pos hl] at q
        exact ⟨hl, fun w hw => q _ G' _ (s.trans (Step.new' s.gh hw)) ⟨w, _, rfl, s.gh.free hw, s.h.free hw, upd_same, .lst (RDs.rg _ _)⟩⟩
      · rw [if_neg hl] at q; exact q.elim
theorem d_tupRg {r : FRg} (hc : X.calm = true) (hm : X.mg "tuple" = none) (he : PRg X e (RdRg c r)) (hg : Gl X "tuple" := by rfl) (na : starEach [e] X.env = (false, eval e X.env) :: starEach [] X.env := by rfl) : PE' X c .st (.Call (.Name "tuple" p) [e] [] pos) (eTupRg r) :=
  peI (pe_tupRg hc hg hm he na) fun σ H Q ⟨G, S, rel, q⟩ => by
    refine ⟨G, S, rel, ?_⟩
    have q : PostE c .st G S σ H Q (r S >>= fun z => if RgOk z.1 z.2 then .ok (.tup (rgD z.1 z.2)) else .fail) := q
    cases e1 : r S with
    | exc x => rw [e1] at q; exact q
    | fail => rw [e1] at q; exact q
    | ok z =>
      rw [e1, R.ok_bind] at q
      intro G' H' s
      by_cases hl : RgOk z.1 z.2
      · rw [if_pos hl] at q
        exact ⟨hl, fun w hw => q _ _ _ (s.trans (Step.new s.gh hw)) (.tup (SqU.of upd_same) (RDs.rg _ _))⟩
      · rw [if_neg hl] at q; exact q.elim
end
end M
set_option Elab.async false
set_option linter.all false
set_option maxRecDepth 100000
set_option maxHeartbeats 4000000
namespace M
open PySem L2
/-! ### a written dict of the module: texts to ints -/
def tabGet (tab : List (Str × Int)) (z : Str) : Option Int := (tab.find? fun p => p.1 == z).map (·.2)
/-- the name x is such a dict -/
structure KTab (K : PySem.W.Frag) (w : World) (mg : Str → Option Value) (x : Str) (tab : List (Str × Int)) : Prop where
  ex : ∃ d es n, mg x = some (.ref d) ∧ KDict K w d es n ∧ ∀ z, ∃ r, PySem.W.nsIn K d z = some r ∧ match tabGet tab z with
    | some i => ∃ t, r = some (.int i t)
    | none => r = none
section
variable {X : Cx} {c : Cf} {kd k1 k2 : Kd} {a b e o : Expr} {f g : FE} {pos apos cpos p : Pos} {k : Kn} {x : Str} {tab : List (Str × Int)}
/-- the name itself -/
theorem pe_ktab {d : Addr} (hm : X.mg x = some (.ref d)) (hg : Gl X x := by rfl) (hd : (x == ("__debug__" : Str)) = false := by decide) : PE X (.Name x p) (tC (.ref d)) := pe_glob (v := .ref d) hg hm rfl hd
def kgetD (tab : List (Str × Int)) : D → R D
  | .str z => match tabGet tab z with | some i => .ok (.int i) | none => .ok .non
  | _ => .fail
def kixD (tab : List (Str × Int)) : D → R D
  | .str z => match tabGet tab z with | some i => .ok (.int i) | none => .fail
  | _ => .fail
def kinD (neg : Bool) (tab : List (Str × Int)) : D → R D
  | .str z => .ok (.bl (if neg then !(tabGet tab z).isSome else (tabGet tab z).isSome))
  | _ => .fail
theorem d_kget (T : KTab X.K X.w X.mg x tab) (he : PE' X c k1 e f) (hg : Gl X x := by rfl) (hd : (x == ("__debug__" : Str)) = false := by decide) (m : M1 X (.Name x p) "get" apos e cpos := by first | exact ⟨rfl, rfl, rfl, rfl⟩ | exact ⟨rfl, rfl, rfl⟩) :
    PE' X c .st (.Call (.Attribute (.Name x p) "get" apos) [e] [] cpos) (e1 (kgetD tab) f) := by
  obtain ⟨d, es, n, hm, KD, hv⟩ := T.ex
  refine ⟨fun pins s σ H Q I h => ?_⟩
  refine wpAny_Call_method m.base m.few m.line PySem.F.plainAttrs_dict PySem.F.slot_dict_get PySem.F.type_dict_get (thn ((pe_ktab (p := p) hm hg hd).run pins s σ H (fun v H1 => v = .ref d ∧ H1 = H) I ⟨rfl, rfl⟩) fun u s1 ⟨y, H1, I1, ry, ey, eH⟩ => ?_)
  subst ey; subst eH
  obtain rfl : u = Value.ref d := ry
  refine ⟨kd_type KD I1, fun b q => ?_, ?_⟩
  · cases q
    exact ⟨_, I1.kIn _ _ KD.at_, rfl⟩
  rw [m.trees]
  refine Calls.callWith_builtin rfl (Calls.evalArgs_plain (Calls.spliced_cons (thn (he.run pins s1 σ _ (fun v H2 => ∃ z r, v = .str z ∧ PySem.W.nsIn X.K d z = some r ∧ ∃ v0, RelV v0 (r.getD .none) ∧ Q v0 H2) I1 ?_) fun iv s2 ⟨y, H2, I2, ry, q2⟩ => Calls.spliced_nil ?_)))
  · obtain ⟨G, S, rel, p⟩ := h
    refine rdE_go (g := fun x => (kgetD tab x).nox) (Post := PostE c .st G S σ _ Q) rel p (fun _ z => z) (fun z => z) fun d1 v1 G1 H1 s1 q1 p1 => ?_
    cases d1 with
    | str z =>
      obtain rfl := q1.now.str
      obtain ⟨r, hr, hz⟩ := hv z
      refine ⟨z, r, rfl, hr, ?_⟩
      simp only [kgetD] at p1
      cases ht : tabGet tab z with
      | some i =>
        rw [ht] at p1 hz
        obtain ⟨t, rfl⟩ := hz
        exact ⟨.int i, ⟨t, rfl⟩, p1 _ G1 H1 s1 (.int i)⟩
      | none =>
        rw [ht] at p1 hz
        subst hz
        exact ⟨.non, rfl, p1 _ G1 H1 s1 .non⟩
    | _ => exact p1.elim
  · obtain ⟨z, r, rfl, hr, v0, rv, qv⟩ := q2
    obtain ⟨t, rfl⟩ := ry
    refine call_meetsIn PySem.F.slot_dict_get (kd_type KD I2) PySem.F.entry_dict_get (PySem.F.args_dict_get_2 _ _) (meets_dict_get (PySem.strKind X.prog X.w) d (PySem.strKind_is X.prog X.w z t) KD.low) ⟨_, PySem.W.mapOf_K (prog := X.prog) I2.kIn KD.at_ KD.lit, ?_⟩
    rw [PySem.W.find_K KD.at_ hr]
    exact ⟨v0, H2, I2.tok _, rv, qv⟩
theorem kin_go {neg : Bool} {σ : St} {H : Hp} {Q : VK} {r : R2} {d : Addr} (hv : ∀ z, ∃ r, PySem.W.nsIn X.K d z = some r ∧ match tabGet tab z with | some i => ∃ t, r = some (.int i t) | none => r = none)
    (hr : ∀ z r' H Q, PySem.W.nsIn X.K d z = some r' → Q (.bl (if neg then !r'.isSome else r'.isSome)) H → r (.str z) (.ref d) H Q) (q : RdE c .st (e1 (kinD neg tab) f) σ H Q) : RdE c k1 f σ H fun x H1 => tC (.ref d) σ H1 fun y H2 => r x y H2 Q := by
  obtain ⟨G, S, rel, p⟩ := q
  refine rdE_go (g := fun x => (kinD neg tab x).nox) (Post := PostE c .st G S σ H Q) rel p (fun _ z => z) (fun z => z) fun d1 v1 G1 H1 s1 q1 p1 => ?_
  cases d1 with
  | str z =>
    obtain rfl := q1.now.str
    obtain ⟨r', hr', hz⟩ := hv z
    refine hr z r' H1 Q hr' ?_
    have e : r'.isSome = (tabGet tab z).isSome := by
      cases ht : tabGet tab z with
      | some i => rw [ht] at hz; obtain ⟨t, rfl⟩ := hz; rfl
      | none => rw [ht] at hz; subst hz; rfl
    rw [e]
    exact p1 _ G1 H1 s1 (.bl _)
  | _ => exact p1.elim
theorem d_kin (T : KTab X.K X.w X.mg x tab) (he : PE' X c k1 e f) (hg : Gl X x := by rfl) (hd : (x == ("__debug__" : Str)) = false := by decide) (hm2 : behindInMarks .In (.Name x p) = false := by rfl) : PE' X c .st (.Compare e [.In] [.Name x p] pos) (e1 (kinD false tab) f) := by
  obtain ⟨d, es, n, hm, KD, hv⟩ := T.ex
  exact peI (pe_cmpR (op_in_kd KD) he (pe_ktab hm hg hd) hm2) fun σ H Q q => kin_go (neg := false) (r := fun x y H Q => ∃ (z : Str) (r : Option Value), x = .str z ∧ y = .ref d ∧ PySem.W.nsIn X.K d z = some r ∧ Q (.bl r.isSome) H) hv (fun z r' H Q h1 h2 => ⟨z, r', rfl, rfl, h1, h2⟩) q
theorem d_knotin (T : KTab X.K X.w X.mg x tab) (he : PE' X c k1 e f) (hg : Gl X x := by rfl) (hd : (x == ("__debug__" : Str)) = false := by decide) (hm2 : behindInMarks .NotIn (.Name x p) = false := by rfl) : PE' X c .st (.Compare e [.NotIn] [.Name x p] pos) (e1 (kinD true tab) f) := by
  obtain ⟨d, es, n, hm, KD, hv⟩ := T.ex
  exact peI (pe_cmpR (op_notIn_kd KD) he (pe_ktab hm hg hd) hm2) fun σ H Q q => kin_go (neg := true) (r := fun x y H Q => ∃ (z : Str) (r : Option Value), x = .str z ∧ y = .ref d ∧ PySem.W.nsIn X.K d z = some r ∧ Q (.bl (!r.isSome)) H) hv (fun z r' H Q h1 h2 => ⟨z, r', rfl, rfl, h1, h2⟩) q
theorem d_kix (T : KTab X.K X.w X.mg x tab) (he : PE' X c k1 e f) (hg : Gl X x := by rfl) (hd : (x == ("__debug__" : Str)) = false := by decide) (hi : PlainIx e := by exact fun _ _ => rfl) : PE' X c .st (.Subscript (.Name x p) e pos) (e1 (kixD tab) f) := by
  obtain ⟨d, es, n, hm, KD, hv⟩ := T.ex
  refine peI (pe_ix ix_kdict (pe_ktab hm hg hd) he hi) fun σ H Q ⟨G, S, rel, p⟩ => ?_
  show RdE c k1 f σ H fun y H2 => _
  refine rdE_go (g := fun x => (kixD tab x).nox) (Post := PostE c .st G S σ H Q) rel p (fun _ z => z) (fun z => z) fun d1 v1 G1 H1 s1 q1 p1 => ?_
  cases d1 with
  | str z =>
    obtain rfl := q1.now.str
    obtain ⟨r, hr, hz⟩ := hv z
    simp only [kixD] at p1
    cases ht : tabGet tab z with
    | some i =>
      rw [ht] at p1 hz
      obtain ⟨t, rfl⟩ := hz
      exact ⟨d, z, .int i, rfl, rfl, ⟨es, n, _, KD.at_, KD.lit, hr, ⟨t, rfl⟩⟩, p1 _ G1 H1 s1 (.int i)⟩
    | none => rw [ht] at p1; exact p1.elim
  | _ => exact p1.elim
/-! ### match of an int by written ints -/
structure PMc (X : Cx) (cs : List MatchCase) (t : Int → TS) : Prop where
  run : ∀ (pins : List (Addr × Obj)) (s : Shared) (σ : St) (H : Hp) (D : Ends) (n : Int) (tk : Tok) (first : Bool), L2.Inv X pins σ H s → t n D σ H → wpAny (model X.prog X.w) X.A (matchCases cs X.env (.int n tk) first) (SP X pins D) X.xe s
theorem pmc_nil : PMc X [] (fun _ D σ H => D.nx σ H) := ⟨fun pins s σ H D n tk first I h => wpAny_matchCases_nil ⟨σ, H, I, h⟩⟩
theorem pmc_any {body : List Stmt} {rest : List MatchCase} {t : TS} (hb : PSs X body t) : PMc X (⟨.MatchAs none none p, none, body⟩ :: rest) (fun _ => t) :=
  ⟨fun pins s σ H D n tk first I h => wpAny_matchCases_cons (wpAny_matchPattern_Capture (wpAny_assignInOrder_none (hb.run pins s σ H D I h)))⟩
theorem pmc_val {i : Int} {j} {vp : Pos} {body : List Stmt} {rest : List MatchCase} {t : TS} {u : Int → TS} (hb : PSs X body t) (hr : PMc X rest u) : PMc X (⟨.MatchValue (.Constant (.int i) j vp) p, none, body⟩ :: rest) (fun n D σ H => if n = i then t D σ H else u n D σ H) :=
  ⟨fun pins s σ H D n tk first I h => by
    refine wpAny_matchCases_cons (wpAny_matchPattern_Value (thn (pe_int.run pins s σ H (fun v H1 => v = .int i ∧ H1 = H) I ⟨rfl, rfl⟩) fun v s1 ⟨y, H1, I1, ry, ey, eH⟩ => ?_))
    subst ey; subst eH
    refine thn (op_eq pins s1 σ _ (.int n) (.int i) _ v (fun z H2 => z = .bl (decide (n = i)) ∧ H2 = H1) I1 ⟨tk, rfl⟩ ry ?_) fun cv s2 ⟨z, H2, I2, rz, ez, eH2⟩ => ?_
    · refine ⟨rfl, ?_, rfl⟩
      simp [V.int.injEq]
    · subst ez; subst eH2
      obtain rfl : cv = .bool (decide (n = i)) := rz
      refine wpAny_truthy_bool ?_
      by_cases hn : n = i
      · rw [if_pos (decide_eq_true hn)]
        rw [if_pos hn] at h
        exact wpAny_assignInOrder_none (hb.run pins s2 σ H2 D I2 h)
      · rw [if_neg (by simpa using hn)]
        rw [if_neg hn] at h
        exact hr.run pins s2 σ H2 D n tk false I2 h⟩
def mcF : List (Option Int × FS) → Int → FS
  | [], _ => sNil
  | (none, s) :: _, _ => s
  | (some i, s) :: r, n => if n = i then s else mcF r n
def PMc' (X : Cx) (c : Cf) (fr : Bool) (as : List Nat) (cs : List MatchCase) (l : List (Option Int × FS)) : Prop := PMc X cs (fun n => RdS c fr as (mcF l n))
theorem m_nil {fr : Bool} : PMc' X c fr [] [] [] := ⟨fun pins s σ H D n tk first I ⟨G, S, rel, q⟩ => pmc_nil.run pins s σ H D n tk first I (q G σ H (Ex.refl _) rel (Frm.refl _ _ _ _))⟩
theorem m_any {fr : Bool} {as : List Nat} {body : List Stmt} {s : FS} (hb : PB' X c fr as body s) : PMc' X c fr as [⟨.MatchAs none none p, none, body⟩] [(none, s)] := pmc_any hb
theorem PostS.up {fr : Bool} {as bs : List Nat} {G H : Hp} {S : Env} {σ : St} {Dn : Ends} {r : R (Fl × Env)} (h : ∀ i, i ∈ as → i ∈ bs) (p : PostS c fr bs G S σ H Dn r) : PostS c fr as G S σ H Dn r := by
  cases r with
  | ok z =>
    obtain ⟨fl, S'⟩ := z
    cases fl with
    | nx => exact fun G' σ' H' e rel fm => p G' σ' H' e rel (fm.mono h)
    | bk => exact fun G' σ' H' e rel fm => p G' σ' H' e rel (fm.mono h)
    | ct => exact fun G' σ' H' e rel fm => p G' σ' H' e rel (fm.mono h)
    | rt d => exact p
  | exc x => exact p
  | fail => exact p
theorem m_val {fr : Bool} {as bs : List Nat} {i : Int} {j} {vp : Pos} {body : List Stmt} {rest : List MatchCase} {s : FS} {l : List (Option Int × FS)} (hb : PB' X c fr as body s) (hr : PMc' X c fr bs rest l) : PMc' X c fr (as ++ bs) (⟨.MatchValue (.Constant (.int i) j vp) p, none, body⟩ :: rest) ((some i, s) :: l) :=
  ⟨fun pins s' σ H D n tk first I ⟨G, S, rel, q⟩ => (pmc_val hb hr).run pins s' σ H D n tk first I (by
    have q : PostS c fr (as ++ bs) G S σ H D ((if n = i then s else mcF l n) S) := q
    by_cases hn : n = i
    · rw [if_pos hn] at q ⊢
      exact ⟨G, S, rel, PostS.up (fun z hz => List.mem_append_left _ hz) q⟩
    · rw [if_neg hn] at q ⊢
      exact ⟨G, S, rel, PostS.up (fun z hz => List.mem_append_right _ hz) q⟩)⟩
def sMatch (f : FE) (l : List (Option Int × FS)) : FS := fun S => f S >>= fun d => match d with
  | .int n => mcF l n S
  | _ => .fail
theorem s_match {fr : Bool} {as : List Nat} {cs : List MatchCase} {l : List (Option Int × FS)} (he : PE' X c k1 e f) (hc : PMc' X c fr as cs l) : PS' X c fr as (.Match e cs pos) (sMatch f l) :=
  ⟨fun pins s σ H D I ⟨G, S, rel, p⟩ => by
    refine wpAny_Match (thn (he.run pins s σ H (fun v H1 => ∃ n, v = .int n ∧ RdS c fr as (mcF l n) D σ H1) I ?_) fun v s1 ⟨y, H1, I1, ry, n, ey, q⟩ => ?_)
    · refine rdE_go (g := fun d => match d with | .int n => mcF l n S | _ => .fail) (Post := PostS c fr as G S σ H D) rel p (fun _ z => z) (fun z => z) fun d v G1 H1 s1 q1 p1 => ?_
      cases d with
      | int n =>
        refine ⟨n, q1.now.int, G1, S, rel.grow s1, ?_⟩
        have p1 : PostS c fr as G S σ H D (mcF l n S) := p1
        cases hm : mcF l n S with
        | ok z =>
          rw [hm] at p1
          obtain ⟨fl, S'⟩ := z
          have fmx : ∀ {S' σ' H'}, Frm as S σ H1 S' σ' H' → Frm as S σ H S' σ' H' := fun fm => ((Frm.step (as := []) rel s1).trans fm).mono fun z hz => by simpa using hz
          cases fl with
          | nx => exact fun G' σ' H' e r fm => p1 G' σ' H' (s1.g.trans e) r (fmx fm)
          | bk => exact fun G' σ' H' e r fm => p1 G' σ' H' (s1.g.trans e) r (fmx fm)
          | ct => exact fun G' σ' H' e r fm => p1 G' σ' H' (s1.g.trans e) r (fmx fm)
          | rt d => exact p1
        | exc x => rw [hm] at p1; exact p1
        | fail => rw [hm] at p1; exact p1
      | _ => exact p1.elim
    · subst ey
      obtain ⟨tk, rfl⟩ := ry
      exact hc.run pins s1 σ H1 D n tk true I1 q⟩
end
end M
namespace M
open PySem L2
section
variable {X : Cx} {c : Cf} {k1 : Kd} {e : Expr} {f : FE} {pos p tp q1 q2 : Pos} {k : Kn} {x y z : Str}
/-- isinstance(e, (T1, T2)) -/
def isi2D (b1 b2 : String) (d : D) : R D := match tyN d with
  | some a => match kitB a b1, kitB a b2 with
    | some r1, some r2 => .ok (.bl (r1 || r2))
    | _, _ => .fail
  | none => .fail
theorem d_isi2 {kk} (b1 b2 : String) (hk : c.k.K = X.K) (hm : X.mg x = none) (hm1 : X.mg y = none) (hm2 : X.mg z = none) (he : PE' X c k1 e f) (hv : bootBuiltins x = some (.builtin "isinstance") := by decide +kernel) (hv1 : bootBuiltins y = some (.type b1) := by decide +kernel) (hv2 : bootBuiltins z = some (.type b2) := by decide +kernel) (hg : Gl X x := by rfl) (hg1 : Gl X y := by rfl) (hg2 : Gl X z := by rfl)
    (hn : x ≠ "__name__" := by decide) (hdb : (x == ("__debug__" : Str)) = false := by decide) (hn1 : y ≠ "__name__" := by decide) (hdb1 : (y == ("__debug__" : Str)) = false := by decide) (hn2 : z ≠ "__name__" := by decide) (hdb2 : (z == ("__debug__" : Str)) = false := by decide)
    (hs : starEach [e, .Tuple [.Name y q1, .Name z q2] kk tp] X.env = (false, eval e X.env) :: starEach [.Tuple [.Name y q1, .Name z q2] kk tp] X.env := by rfl) (hs2 : ((backTo pos (starEach [.Tuple [.Name y q1, .Name z q2] kk tp] X.env)).any fun x => x.1) = false := by rfl) :
    PE' X c .st (.Call (.Name x p) [e, .Tuple [.Name y q1, .Name z q2] kk tp] [] pos) (e1 (isi2D b1 b2) f) := by
  have ht : PE X (.Tuple [.Name y q1, .Name z q2] kk tp) _ := pe_tup (pa_cons (pe_bltn (v := .ty b1) hg1 hm1 hv1 rfl hn1 hdb1) (pa_cons (pe_bltn (v := .ty b2) hg2 hm2 hv2 rfl hn2 hdb2) pa_nil rfl) rfl)
  refine peI (pe_callB call_isiT hg hm hv (pa_cons he (pa_cons ht pa_nil rfl) hs) hn hdb hs hs2) fun σ H Q ⟨G, S, rel, p⟩ => ?_
  refine rdE_go (g := fun x => (isi2D b1 b2 x).nox) (Post := PostE c .st G S σ H Q) rel p (fun _ z => z) (fun z => z) fun d v G1 H1 s1 r1 p1 => ?_
  refine ⟨by show 2 ≤ sizeLine; have := sizeLine_eq; omega, fun t ht => ?_⟩
  have s2 : Step G1 H1 G1 (upd H1 t (.tup [.ty b1, .ty b2])) := Step.new' s1.gh ht
  have nn := r1.now.grow s2
  unfold isi2D at p1
  cases hty : tyN d with
  | none => rw [hty] at p1; exact p1.elim
  | some a =>
    rw [hty] at p1
    dsimp only at p1
    cases h1 : kitB a b1 with
    | none => rw [h1] at p1; exact p1.elim
    | some r1' =>
      cases h2 : kitB a b2 with
      | none => rw [h1, h2] at p1; exact p1.elim
      | some r2' =>
        rw [h1, h2] at p1
        refine ⟨v, t, [.ty b1, .ty b2], .type a, [.type b1, .type b2], r1' || r2', rfl, upd_same, .cons (.ty _) (.cons (.ty _) .nil), nn.tyX hk s2.gh hty, ?_, p1 _ G1 _ (s1.trans s2) (.bl _)⟩
        have e1 := kit_ty (K := X.K) h1
        have e2 := kit_ty (K := X.K) h2
        simp only [PySem.W.kitAny, e1, e2]
        cases r1' <;> cases r2' <;> rfl
end
end M
namespace M
open PySem L2
theorem b_fail {X : Cx} {c : Cf} {fr : Bool} {as : List Nat} {body : List Stmt} : PB' X c fr as body (fun _ => .fail) := pssI pss_never fun Dn σ H ⟨G, S, rel, p⟩ => p.elim
end M
namespace M
open PySem L2
theorem d_tv {X : Cx} {c : Cf} {a : Expr} {f : FE} (h : PE' X c .st a f) (he : ∀ whole, isTrue a X.env whole = (do let v ← whole; standAt a.pos; holding [v] (truthy v)) := by intro _; rfl) : PT' X c a (tB' f) := ptI (pt_val h he) fun σ H Q q => tB_go (t := RdE c .st f) (fun _ _ _ z => z) q
end M
set_option Elab.async false
set_option linter.all false
set_option maxRecDepth 100000
set_option maxHeartbeats 4000000
namespace M
open PySem L2
/-! ### tables in the hook -/
abbrev TabI := Str × List (Str × Int)
def valI (K : PySem.W.Frag) (t : TabI) : Bool := t.2.all fun q => match PySem.W.nsIn K (He.ga K t.1) q.1 with
  | some (some (.int i _)) => decide (i = q.2)
  | _ => false
theorem keys_none {P : Params} {z : Str} : ∀ {l : List DictEntry} {ks : List Str}, l.map He.keyOf = He.keysIn P ks → z ∉ ks → l.find? (·.key.isStr z) = none ∧ l.any (·.refKey) = false
  | [], _, _, _ => ⟨rfl, rfl⟩
  | e :: l, [], h, _ => by simp [He.keysIn] at h
  | e :: l, k :: ks, h, hz => by
    have h1 : He.keyOf e = some (k, PyData.keyHash P k) := by
      have := congrArg List.head? h; simpa [He.keysIn] using this
    have h2 : l.map He.keyOf = He.keysIn P ks := by
      have := congrArg List.tail h; simpa [He.keysIn] using this
    obtain ⟨i1, i2⟩ := keys_none h2 (fun w => hz (List.mem_cons_of_mem _ w))
    have hk : ∃ t, e.key = .str k t := by
      unfold He.keyOf at h1
      split at h1
      · rename_i x t hx
        simp only [Option.some.injEq, Prod.mk.injEq] at h1
        exact ⟨t, by rw [hx, h1.1]⟩
      · cases h1
    obtain ⟨t, hk⟩ := hk
    constructor
    · rw [List.find?_cons, hk]
      have : (Value.str k t).isStr z = false := by
        show (k == z) = false
        simpa using fun w : k = z => hz (by rw [w]; exact List.mem_cons_self)
      rw [this]; exact i1
    · rw [List.any_cons, i2]
      simp [DictEntry.refKey, hk]
theorem ktab_ok {K : PySem.W.Frag} {w : World} {mg : Str → Option Value} {t : TabI} (hg : mg t.1 = some (.ref (He.ga K t.1))) (hd : He.dicW K (He.ga K t.1) = some (He.keysIn w.params (t.2.map (·.1)))) (hv : valI K t = true) : KTab K w mg t.1 t.2 := by
  obtain ⟨es, n, KD⟩ := He.dicW_ok hd
  refine ⟨_, es, n, hg, KD, fun z => ?_⟩
  unfold tabGet
  cases hf : t.2.find? fun p => p.1 == z with
  | some q =>
    have hq := List.mem_of_find?_eq_some hf
    have he : q.1 = z := by have := List.find?_some hf; simpa using this
    have h2 := List.all_eq_true.mp hv q hq
    rw [he] at h2
    split at h2
    · rename_i i tk hn
      refine ⟨_, hn, ?_⟩
      have := of_decide_eq_true h2
      subst this
      exact ⟨tk, rfl⟩
    · cases h2
  | none =>
    refine ⟨none, ?_, rfl⟩
    have hz : z ∉ t.2.map (·.1) := fun hm => by
      obtain ⟨q, hq, e⟩ := List.mem_map.mp hm
      have := List.find?_eq_none.mp hf q hq
      simp [e] at this
    unfold He.dicW at hd
    rw [KD.at_] at hd
    dsimp only at hd
    split at hd
    · simp only [Option.some.injEq] at hd
      obtain ⟨h1, h2⟩ := keys_none hd hz
      unfold PySem.W.nsIn
      rw [KD.at_]
      dsimp only
      rw [h1, h2]; rfl
    · cases hd
abbrev AlZ : Type := He.AlD × List (Option (List (Option (Str × Int))))
def obsZ (x : Fy) (ts : List TabI) (fn : List Dx) (K : PySem.W.Frag) : AlZ := (((x.ok K && ts.all fun t => valI K t) && fn.all fun d => d.good K, fn.map fun d => d.seen K), ts.map fun t => He.dicW K (He.ga K t.1))
def valZ (ts : List TabI) (fn : List Dx) (w : World) : AlZ := ((true, fn.map fun d => d.d.val), ts.map fun t => some (He.keysIn w.params (t.2.map (·.1))))
def SaysZ (x : Fy) (ts : List TabI) (fn : List Dx) (w : World) (K : PySem.W.Frag) : Prop := obsZ x ts fn K = valZ ts fn w
def obsZG (n : Nat) (x : Fy) (ts : List TabI) (fn : List Dx) (g : Addr → Option Obj) : AlZ := obsZ x ts fn (He.frG g (He.asD g n))
def hookZ (n : Nat) (x : Fy) (ts : List TabI) (fn : List Dx) : PySem.W.Hook where
  α := AlZ
  obs := fun s => obsZG n x ts fn s.heap.get?
  val := fun w => valZ ts fn w
  says := fun w h => ∃ K : PySem.W.Frag, K.In h ∧ SaysZ x ts fn w K
  of := fun _ _ e => ⟨_, He.frG_in, e⟩
  keeps := fun _ _ _ ⟨K, hK, c⟩ k => ⟨K, PySem.W.Frag.In.keeps hK k, c⟩
theorem obsZG_eq {n : Nat} {x : Fy} {ts : List TabI} {fn : List Dx} {g : Addr → Option Obj} {s : Shared} (h : ∀ a, g a = s.heap.get? a) : obsZG n x ts fn g = (hookZ n x ts fn).obs s := by
  have q : g = s.heap.get? := funext h
  subst q; rfl
section
variable {x : Fy} {ts : List TabI} {fn : List Dx} {K : PySem.W.Frag} {w : World}
theorem SaysZ.all (c : SaysZ x ts fn w K) : ((x.ok K && ts.all fun t => valI K t) && fn.all fun d => d.good K) = true := congrArg (fun z : AlZ => z.1.1) c
theorem SaysZ.y (c : SaysZ x ts fn w K) : SaysY x fn K := by
  have h1 := He.ba c.all
  have e : fn.map (fun d => d.seen K) = fn.map fun d => d.d.val := congrArg (fun z : AlZ => z.1.2) c
  show (x.ok K && fn.all fun d => d.good K, fn.map fun d => d.seen K) = (true, _)
  rw [e, (He.ba h1.1).1, h1.2]; rfl
theorem SaysZ.tab (c : SaysZ x ts fn w K) (i : Nat) {t : TabI} (h : ts[i]? = some t := by rfl) : He.dicW K (He.ga K t.1) = some (He.keysIn w.params (t.2.map (·.1))) ∧ valI K t = true := by
  have e : ts.map (fun t => He.dicW K (He.ga K t.1)) = ts.map fun t => some (He.keysIn w.params (t.2.map (·.1))) := congrArg (fun z : AlZ => z.2) c
  have e2 := congrArg (fun l : List (Option (List (Option (Str × Int)))) => l[i]?) e
  simp only [List.getElem?_map, h, Option.map_some, Option.some.injEq] at e2
  exact ⟨e2, List.all_eq_true.mp (He.ba (He.ba c.all).1).2 t (List.mem_of_getElem? h)⟩
end
end M
set_option Elab.async false
set_option linter.all false
set_option maxRecDepth 100000
set_option maxHeartbeats 4000000
namespace Pf
open PySem L2 M
def topS (i : Nat) : Stmt := PySem.Challenge.pw_firstbreach_k65_row_texts_read_back.main.body.getD i (.Pass ⟨0, 0, 0, 0⟩)
def clsB : Stmt → List Stmt
  | .ClassDef _ _ _ b .. => b
  | _ => []
def clsS (i j : Nat) : Stmt := (clsB (topS i)).getD j (.Pass ⟨0, 0, 0, 0⟩)
structure Bt (mg : Str → Option Value) : Prop where
  abs : mg "abs" = none
  all : mg "all" = none
  any : mg "any" = none
  bool : mg "bool" = none
  int : mg "int" = none
  isinstance : mg "isinstance" = none
  len : mg "len" = none
  list : mg "list" = none
  max : mg "max" = none
  min : mg "min" = none
  range : mg "range" = none
  str : mg "str" = none
  tuple : mg "tuple" = none
section
variable {P : Program} {w : World} {K : PySem.W.Frag} {mg : Str → Option Value} {base : Heap} {cl : Nat → Option (Addr × List Str)}
def tv_ENTRIES : List (Str × Int) := [(".", (-1)), ("0", 0), ("1", 1)]
def tv_BITS : List (Str × Int) := [("0", 0), ("1", 1)]
def tv_RUNS : List (Str × Int) := [(".", (-1)), ("0", 0), ("1", 1), ("2", 2)]
def tv_MORES : List (Str × Int) := [(".", 0), ("+", 1)]
def gv_MOST_ENTRIES : D := .int 3
def gv_MOST_ROWS : D := .int 3
abbrev st_sign_of : Stmt := topS 10
def m_sign_of : FS :=
    (sRet (eIf (tB' (e2 eqD (eW 0) (e1 negD (eI (1))))) (eS ".") (eC (f1 strD) (aC (eW 0) aN))))
def d_sign_of : List D → R D := fun ds => (runF false 1 m_sign_of ds).nox
theorem sc_sign_of : FnScope ["number"] ["number"] (defScope st_sign_of) := ⟨rfl, rfl, rfl, by decide +kernel, rfl, by decide +kernel, by decide +kernel⟩
theorem ok_sign_of {f : Addr} {fd : FuncData} (F : FunD K "sign_of" "sign_of" (defArgs st_sign_of) (defBody st_sign_of) (defScope st_sign_of) [] [] f fd) (mgf : mg "sign_of" = some (.ref f)) (B : Bt mg)  : Callee P w K mg base ⟨K, cl⟩ 1 "sign_of" 1 false d_sign_of := by
  have nd : (["number"] : List Str).Nodup := sc_sign_of.nd
  have z := fn_ok (P := P) (w := w) (mg := mg) (base := base) (k := ⟨K, cl⟩) (fr := false) (lv := 0) (as := []) (s := m_sign_of) F sc_sign_of fun cdv A outer sh H G0 hr => by
    have hu := hr.units
    have hu5 := hr.units5
    exact (b_one (s_ret (d_ite (d_tc (o_eq rfl hu) (d_w 0) (d_un o_neg d_int)) d_str (d_btyp (c_str) B.str (d_ab (d_w 0) d_an)))))
  exact ⟨f, fd, ["number"], rfl, z, mgf, F.kp, F.bindsN fun _ _ _ _ _ _ us hl => match us, hl with | [_], _ => rfl⟩
abbrev st_row_words : Stmt := topS 11
def m_row_words (self : List D → R D) : FS :=
    (sSeq (sAsg (gT 2 (gsC (gN 1) (gsC (gN 2) gsN))) (eV 0))
    (sSeq (sAsg (gT 4 (gsC (gN 3) (gsC (gN 4) (gsC (gN 5) (gsC (gN 6) gsN))))) (eV 1))
    (sSeq (sSet 7 (eIf (tT' (eW 4)) (eM1 joinD (eS "") (lcE (fun S => (eV 4) S >>= itemsD) (gN 10) tY (eC d_sign_of (aC (eV 10) aN)) [10])) (eS "-")))
    (sSeq (sOwn 8 (eL (aC (eC (f1 strD) (aC (eW 3) aN)) (aC (eV 7) (aC (eC d_sign_of (aC (eV 5) aN)) (aC (eIf (tB' (e2 eqD (eW 6) (eI (1)))) (eS "+") (eS ".")) aN))))))
    (sSeq (sFor (fun S => (eV 2) S >>= itemsD) (gN 9) (sSeq (sApp 8 (eS "("))
    (sSeq (sExt 8 (eC self (aC (eV 9) aN)))
    (sApp 8 (eS ")")))))
    (sFz 8 (sRet (eV 8))))))))
def d_row_words' : Nat → List D → R D
  | 0 => fun _ => .fail
  | n + 1 => fun ds => (runF false 11 (m_row_words (d_row_words' n)) ds).nox
def d_row_words : List D → R D := d_row_words' 4
theorem sc_row_words : FnScope ["joint", "row", "guests", "bit", "comes", "ran", "more", "entries", "words", "guest", "node"] ["joint"] (defScope st_row_words) := ⟨rfl, rfl, rfl, by decide +kernel, rfl, by decide +kernel, by decide +kernel⟩
theorem okr_row_words {f : Addr} {fd : FuncData} (F : FunD K "row_words" "row_words" (defArgs st_row_words) (defBody st_row_words) (defScope st_row_words) [] [] f fd) (mgf : mg "row_words" = some (.ref f)) (B : Bt mg) (h_sign_of : Callee P w K mg base ⟨K, cl⟩ 1 "sign_of" 1 false d_sign_of) (n : Nat) : Callee P w K mg base ⟨K, cl⟩ (2 + n) "row_words" 1 false (d_row_words' n) := by
  have nd : (["joint", "row", "guests", "bit", "comes", "ran", "more", "entries", "words", "guest", "node"] : List Str).Nodup := sc_row_words.nd
  induction n with
  | zero => exact ⟨f, fd, ["joint"], rfl, fn_ok (P := P) (w := w) (mg := mg) (base := base) (k := ⟨K, cl⟩) (fr := false) (lv := 1) (as := []) (s := fun _ => .fail) F sc_row_words fun cdv A outer sh H G0 hr => b_fail, mgf, F.kp, F.bindsN fun _ _ _ _ _ _ us hl => match us, hl with | [_], _ => rfl⟩
  | succ n ih =>
    have z := fn_ok (P := P) (w := w) (mg := mg) (base := base) (k := ⟨K, cl⟩) (fr := false) (lv := 2 + n) (as := [1, 2, 3, 4, 5, 6, 7, 8, 9, 1008, 1008, 1008, 8]) (s := m_row_words (d_row_words' n)) F sc_row_words fun cdv A outer sh H G0 hr => by
      have hu := hr.units
      have hu5 := hr.units5
      exact (b_cons (s_asg (d_v 0) (g_t rfl rfl (gs_c (g_n 1 nd) (gs_c (g_n 2 nd) gs_n))))
    (b_cons (s_asg (d_v 1) (g_t rfl rfl (gs_c (g_n 3 nd) (gs_c (g_n 4 nd) (gs_c (g_n 5 nd) (gs_c (g_n 6 nd) gs_n))))))
    (b_cons (s_set 7 nd (d_ite (d_tt rfl (d_w 4)) (d_join rfl d_str (d_lc [("node", 10)] rfl nd (i_seq rfl (d_v 4)) (blkOk_by (N := ["joint", "row", "guests", "bit", "comes", "ran", "more", "entries", "words", "guest", "node"]) (sc := (defScope st_row_words)) (by decide +kernel)) (fun _ _ _ _ _ => (g_n 10 nd)) (fun _ _ _ _ _ => ts_n) (fun _ _ _ _ _ => (d_callS (h_sign_of.at hr (by omega)) (d_ac (d_v 10) d_an) (len_c len_n))))) d_str))
    (b_cons (s_own 8 nd (d_lst (d_ac (d_btyp (c_str) B.str (d_ab (d_w 3) d_an)) (d_ac (d_v 7) (d_ac (d_callS (h_sign_of.at hr (by omega)) (d_ac (d_v 5) d_an) (len_c len_n)) (d_ac (d_ite (d_tc (o_eq rfl hu) (d_w 6) d_int) d_str d_str) d_an))))))
    (b_cons (s_for PassesOwn.never rfl (i_seq rfl (d_v 2)) (g_n 9 nd) (b_cons (s_app 8 d_str)
    (b_cons (s_ext 8 (d_callS (ih.at hr (by omega)) (d_ac (d_v 9) d_an) (len_c len_n)))
    (b_one (s_app 8 d_str)))))
    (b_one (s_fz 8 (s_ret (d_v 8)))))))))
    exact ⟨f, fd, ["joint"], rfl, z, mgf, F.kp, F.bindsN fun _ _ _ _ _ _ us hl => match us, hl with | [_], _ => rfl⟩
theorem ok_row_words {f : Addr} {fd : FuncData} (F : FunD K "row_words" "row_words" (defArgs st_row_words) (defBody st_row_words) (defScope st_row_words) [] [] f fd) (mgf : mg "row_words" = some (.ref f)) (B : Bt mg) (h_sign_of : Callee P w K mg base ⟨K, cl⟩ 1 "sign_of" 1 false d_sign_of) : Callee P w K mg base ⟨K, cl⟩ 6 "row_words" 1 false d_row_words := okr_row_words F mgf B h_sign_of 4
abbrev st_row_text : Stmt := topS 12
def m_row_text : FS :=
    (sRet (eM1 joinD (eS " ") (eC d_row_words (aC (eV 0) aN))))
def d_row_text : List D → R D := fun ds => (runF false 1 m_row_text ds).nox
theorem sc_row_text : FnScope ["row"] ["row"] (defScope st_row_text) := ⟨rfl, rfl, rfl, by decide +kernel, rfl, by decide +kernel, by decide +kernel⟩
theorem ok_row_text {f : Addr} {fd : FuncData} (F : FunD K "row_text" "row_text" (defArgs st_row_text) (defBody st_row_text) (defScope st_row_text) [] [] f fd) (mgf : mg "row_text" = some (.ref f)) (B : Bt mg) (h_row_words : Callee P w K mg base ⟨K, cl⟩ 6 "row_words" 1 false d_row_words) : Callee P w K mg base ⟨K, cl⟩ 7 "row_text" 1 false d_row_text := by
  have nd : (["row"] : List Str).Nodup := sc_row_text.nd
  have z := fn_ok (P := P) (w := w) (mg := mg) (base := base) (k := ⟨K, cl⟩) (fr := false) (lv := 6) (as := []) (s := m_row_text) F sc_row_text fun cdv A outer sh H G0 hr => by
    have hu := hr.units
    have hu5 := hr.units5
    exact (b_one (s_ret (d_join rfl d_str (d_callS (h_row_words.at hr (by decide)) (d_ac (d_v 0) d_an) (len_c len_n)))))
  exact ⟨f, fd, ["row"], rfl, z, mgf, F.kp, F.bindsN fun _ _ _ _ _ _ us hl => match us, hl with | [_], _ => rfl⟩
abbrev st_word_at : Stmt := topS 13
def m_word_at : FS :=
    (sSeq (sIf (tB' (e2 eqD (eW 1) (eC (f1 lenD) (aC (eW 0) aN)))) sNo sNil)
    (sRet (e2 ixD (eW 0) (eW 1))))
def d_word_at : List D → R D := fun ds => (runF false 2 m_word_at ds).nox
theorem sc_word_at : FnScope ["words", "at"] ["words", "at"] (defScope st_word_at) := ⟨rfl, rfl, rfl, by decide +kernel, rfl, by decide +kernel, by decide +kernel⟩
theorem ok_word_at {f : Addr} {fd : FuncData} (F : FunD K "word_at" "word_at" (defArgs st_word_at) (defBody st_word_at) (defScope st_word_at) [] [] f fd) (mgf : mg "word_at" = some (.ref f)) (B : Bt mg)  : Callee P w K mg base ⟨K, cl⟩ 1 "word_at" 2 false d_word_at := by
  have nd : (["words", "at"] : List Str).Nodup := sc_word_at.nd
  have z := fn_ok (P := P) (w := w) (mg := mg) (base := base) (k := ⟨K, cl⟩) (fr := false) (lv := 0) (as := []) (s := m_word_at) F sc_word_at fun cdv A outer sh H G0 hr => by
    have hu := hr.units
    have hu5 := hr.units5
    exact (b_cons (s_if (d_tc (o_eq rfl hu) (d_w 1) (d_bltn (c_len rfl) B.len (d_ab (d_w 0) d_an))) (b_one s_no) b_nil)
    (b_one (s_ret (d_ix (o_ix rfl) (d_w 0) (d_w 1)))))
  exact ⟨f, fd, ["words", "at"], rfl, z, mgf, F.kp, F.bindsN fun _ _ _ _ _ _ us hl => match us, hl with | [_, _], _ => rfl⟩
abbrev st_entries_of : Stmt := topS 14
def m_entries_of : FS :=
    (sSeq (sIf (tB' (e2 eqD (eW 0) (eS "-"))) (sRet (eT aN)) sNil)
    (sSeq (sIf (tO (tB' (e2 eqD (eW 0) (eS ""))) (tO (tB' (e2 gtD (eC (f1 lenD) (aC (eW 0) aN)) (eG gv_MOST_ENTRIES))) (tT' (eC (f1 anyD) (aC (lcE (fun S => (eV 0) S >>= itemsD) (gN 1) tY (e1 (kinD true tv_ENTRIES) (eW 1)) [1]) aN))))) (sRet eN) sNil)
    (sRet (eC (f1 tupD) (aC (lcE (fun S => (eV 0) S >>= itemsD) (gN 1) tY (e1 (kixD tv_ENTRIES) (eW 1)) [1]) aN)))))
def d_entries_of : List D → R D := fun ds => (runF false 2 m_entries_of ds).nox
theorem sc_entries_of : FnScope ["word", "sign"] ["word"] (defScope st_entries_of) := ⟨rfl, rfl, rfl, by decide +kernel, rfl, by decide +kernel, by decide +kernel⟩
theorem ok_entries_of {f : Addr} {fd : FuncData} (F : FunD K "entries_of" "entries_of" (defArgs st_entries_of) (defBody st_entries_of) (defScope st_entries_of) [] [] f fd) (mgf : mg "entries_of" = some (.ref f)) (B : Bt mg) (g_MOST_ENTRIES : Gc mg ⟨K, cl⟩ "MOST_ENTRIES" gv_MOST_ENTRIES) (t_ENTRIES : KTab K w mg "ENTRIES" tv_ENTRIES) : Callee P w K mg base ⟨K, cl⟩ 1 "entries_of" 1 false d_entries_of := by
  have nd : (["word", "sign"] : List Str).Nodup := sc_entries_of.nd
  have z := fn_ok (P := P) (w := w) (mg := mg) (base := base) (k := ⟨K, cl⟩) (fr := false) (lv := 0) (as := []) (s := m_entries_of) F sc_entries_of fun cdv A outer sh H G0 hr => by
    have hu := hr.units
    have hu5 := hr.units5
    exact (b_cons (s_if (d_tc (o_eq rfl hu) (d_w 0) d_str) (b_one (s_ret (d_tup d_an))) b_nil)
    (b_cons (s_if (d_pw (d_or (d_tc (o_eq rfl hu) (d_w 0) d_str) (d_or (d_tc (o_gt) (d_bltn (c_len rfl) B.len (d_ab (d_w 0) d_an)) (d_g g_MOST_ENTRIES)) (d_or1 (d_tt rfl (d_bltn (c_any rfl) B.any (d_ab (d_lc [("sign", 1)] rfl nd (i_seq rfl (d_v 0)) (blkOk_by (N := ["word", "sign"]) (sc := (defScope st_entries_of)) (by decide +kernel)) (fun _ _ _ _ _ => (g_n 1 nd)) (fun _ _ _ _ _ => ts_n) (fun _ _ _ _ _ => (d_knotin t_ENTRIES (d_w 1)))) d_an))))))) (b_one (s_ret d_non)) b_nil)
    (b_one (s_ret (d_btyp (c_tup rfl) B.tuple (d_ab (d_lc [("sign", 1)] rfl nd (i_seq rfl (d_v 0)) (blkOk_by (N := ["word", "sign"]) (sc := (defScope st_entries_of)) (by decide +kernel)) (fun _ _ _ _ _ => (g_n 1 nd)) (fun _ _ _ _ _ => ts_n) (fun _ _ _ _ _ => (d_kix t_ENTRIES (d_w 1)))) d_an))))))
  exact ⟨f, fd, ["word"], rfl, z, mgf, F.kp, F.bindsN fun _ _ _ _ _ _ us hl => match us, hl with | [_], _ => rfl⟩
abbrev st_meaning : Stmt := topS 15
def m_meaning : FS :=
    (sMatch (eW 0) [(some (0), (sRet (e1 (kgetD tv_BITS) (eW 1)))), (some (1), (sRet (eC d_entries_of (aC (eV 1) aN)))), (some (2), (sRet (e1 (kgetD tv_RUNS) (eW 1)))), (none, (sRet (e1 (kgetD tv_MORES) (eW 1))))])
def d_meaning : List D → R D := fun ds => (runF false 2 m_meaning ds).nox
theorem sc_meaning : FnScope ["place", "word"] ["place", "word"] (defScope st_meaning) := ⟨rfl, rfl, rfl, by decide +kernel, rfl, by decide +kernel, by decide +kernel⟩
theorem ok_meaning {f : Addr} {fd : FuncData} (F : FunD K "meaning" "meaning" (defArgs st_meaning) (defBody st_meaning) (defScope st_meaning) [] [] f fd) (mgf : mg "meaning" = some (.ref f)) (B : Bt mg) (t_BITS : KTab K w mg "BITS" tv_BITS) (h_entries_of : Callee P w K mg base ⟨K, cl⟩ 1 "entries_of" 1 false d_entries_of) (t_RUNS : KTab K w mg "RUNS" tv_RUNS) (t_MORES : KTab K w mg "MORES" tv_MORES) : Callee P w K mg base ⟨K, cl⟩ 2 "meaning" 2 false d_meaning := by
  have nd : (["place", "word"] : List Str).Nodup := sc_meaning.nd
  have z := fn_ok (P := P) (w := w) (mg := mg) (base := base) (k := ⟨K, cl⟩) (fr := false) (lv := 1) (as := []) (s := m_meaning) F sc_meaning fun cdv A outer sh H G0 hr => by
    have hu := hr.units
    have hu5 := hr.units5
    exact (b_one (s_match (d_w 0) (m_val (b_one (s_ret (d_kget t_BITS (d_w 1)))) (m_val (b_one (s_ret (d_callS (h_entries_of.at hr (by decide)) (d_ac (d_v 1) d_an) (len_c len_n)))) (m_val (b_one (s_ret (d_kget t_RUNS (d_w 1)))) (m_any (b_one (s_ret (d_kget t_MORES (d_w 1))))))))))
  exact ⟨f, fd, ["place", "word"], rfl, z, mgf, F.kp, F.bindsN fun _ _ _ _ _ _ us hl => match us, hl with | [_, _], _ => rfl⟩
abbrev st_read_joint : Stmt := topS 16
def m_read_joint (self : List D → R D) : FS :=
    (sSeq (sOwn 3 (eL aN))
    (sSeq (sFor (fun S => (aC (eI (4)) aN) S >>= rng1) (gN 4) (sSeq (sSet 5 (eC d_meaning (aC (eV 4) (aC (eC d_word_at (aC (eV 0) (aC (eV 1) aN))) aN))))
    (sSeq (sIf (tB' (e2 isD (eW 5) eN)) sNo sNil)
    (sSeq (sApp 3 (eV 5))
    (sAugI 1 addD (eI (1)))))))
    (sSeq (sOwn 6 (eL aN))
    (sSeq (whileF (tA (tB' (e2 ltD (eW 1) (eC (f1 lenD) (aC (eW 0) aN)))) (tA (tB' (e2 eqD (e2 ixD (eW 0) (eW 1)) (eS "("))) (tB' (e2 ltD (eW 2) (eG gv_MOST_ROWS))))) (sSeq (sAsg (gT 3 (gsC (gN 7) (gsC (gN 1) (gsC (gN 2) gsN)))) (eC self (aC (eV 0) (aC (e2 addD (eW 1) (eI (1))) (aC (e2 addD (eW 2) (eI (1))) aN)))))
    (sSeq (sIf (tB' (e2 neD (eC d_word_at (aC (eV 0) (aC (eV 1) aN))) (eS ")"))) sNo sNil)
    (sSeq (sApp 6 (eV 7))
    (sAugI 1 addD (eI (1)))))) 10)
    (sRet (eT (aC (eT (aC (eC (f1 tupD) (aC (eW 3) aN)) (aC (eC (f1 tupD) (aC (eW 6) aN)) aN))) (aC (eV 1) (aC (eV 2) aN)))))))))
def d_read_joint' : Nat → List D → R D
  | 0 => fun _ => .fail
  | n + 1 => fun ds => (runF false 8 (m_read_joint (d_read_joint' n)) ds).nox
def d_read_joint : List D → R D := d_read_joint' 5
theorem sc_read_joint : FnScope ["words", "at", "begun", "row", "place", "told", "guests", "guest"] ["words", "at", "begun"] (defScope st_read_joint) := ⟨rfl, rfl, rfl, by decide +kernel, rfl, by decide +kernel, by decide +kernel⟩
theorem okr_read_joint {f : Addr} {fd : FuncData} (F : FunD K "read_joint" "read_joint" (defArgs st_read_joint) (defBody st_read_joint) (defScope st_read_joint) [] [] f fd) (mgf : mg "read_joint" = some (.ref f)) (B : Bt mg) (h_meaning : Callee P w K mg base ⟨K, cl⟩ 2 "meaning" 2 false d_meaning) (h_word_at : Callee P w K mg base ⟨K, cl⟩ 1 "word_at" 2 false d_word_at) (g_MOST_ROWS : Gc mg ⟨K, cl⟩ "MOST_ROWS" gv_MOST_ROWS) (n : Nat) : Callee P w K mg base ⟨K, cl⟩ (3 + n) "read_joint" 3 false (d_read_joint' n) := by
  have nd : (["words", "at", "begun", "row", "place", "told", "guests", "guest"] : List Str).Nodup := sc_read_joint.nd
  induction n with
  | zero => exact ⟨f, fd, ["words", "at", "begun"], rfl, fn_ok (P := P) (w := w) (mg := mg) (base := base) (k := ⟨K, cl⟩) (fr := false) (lv := 2) (as := []) (s := fun _ => .fail) F sc_read_joint fun cdv A outer sh H G0 hr => b_fail, mgf, F.kp, F.bindsN fun _ _ _ _ _ _ us hl => match us, hl with | [_, _, _], _ => rfl⟩
  | succ n ih =>
    have z := fn_ok (P := P) (w := w) (mg := mg) (base := base) (k := ⟨K, cl⟩) (fr := false) (lv := 3 + n) (as := [3, 4, 5, 1003, 1, 6, 7, 1, 2, 1006, 1]) (s := m_read_joint (d_read_joint' n)) F sc_read_joint fun cdv A outer sh H G0 hr => by
      have hu := hr.units
      have hu5 := hr.units5
      exact (b_cons (s_own 3 nd (d_lst d_an))
    (b_cons (s_for PassesOwn.never rfl (i_rng1 B.range (d_ab d_int d_an)) (g_n 4 nd) (b_cons (s_set 5 nd (d_callS (h_meaning.at hr (by omega)) (d_ac (d_v 4) (d_ac (d_callS (h_word_at.at hr (by omega)) (d_ac (d_v 0) (d_ac (d_v 1) d_an)) (len_c (len_c len_n))) d_an)) (len_c (len_c len_n))))
    (b_cons (s_if (d_tc (o_is) (d_w 5) d_non) (b_one s_no) b_nil)
    (b_cons (s_app 3 (d_v 5))
    (b_one (s_aug 1 i_add nd d_int))))))
    (b_cons (s_own 6 nd (d_lst d_an))
    (b_cons (s_while 10 PassesOwn.never (d_pw (d_and (d_tc (o_lt) (d_w 1) (d_bltn (c_len rfl) B.len (d_ab (d_w 0) d_an))) (d_and (d_tc (o_eq rfl hu) (d_ix (o_ix rfl) (d_w 0) (d_w 1)) d_str) (d_and1 (d_tc (o_lt) (d_w 2) (d_g g_MOST_ROWS)))))) (b_cons (s_asg (d_callS (ih.at hr (by omega)) (d_ac (d_v 0) (d_ac (d_op (o_add rfl) (d_w 1) d_int) (d_ac (d_op (o_add rfl) (d_w 2) d_int) d_an))) (len_c (len_c (len_c len_n)))) (g_t rfl rfl (gs_c (g_n 7 nd) (gs_c (g_n 1 nd) (gs_c (g_n 2 nd) gs_n)))))
    (b_cons (s_if (d_tc (o_ne rfl hu) (d_callS (h_word_at.at hr (by omega)) (d_ac (d_v 0) (d_ac (d_v 1) d_an)) (len_c (len_c len_n))) d_str) (b_one s_no) b_nil)
    (b_cons (s_app 6 (d_v 7))
    (b_one (s_aug 1 i_add nd d_int))))))
    (b_one (s_ret (d_tup (d_ac (d_tup (d_ac (d_btyp (c_tup rfl) B.tuple (d_ab (d_w 3) d_an)) (d_ac (d_btyp (c_tup rfl) B.tuple (d_ab (d_w 6) d_an)) d_an))) (d_ac (d_v 1) (d_ac (d_v 2) d_an))))))))))
    exact ⟨f, fd, ["words", "at", "begun"], rfl, z, mgf, F.kp, F.bindsN fun _ _ _ _ _ _ us hl => match us, hl with | [_, _, _], _ => rfl⟩
theorem ok_read_joint {f : Addr} {fd : FuncData} (F : FunD K "read_joint" "read_joint" (defArgs st_read_joint) (defBody st_read_joint) (defScope st_read_joint) [] [] f fd) (mgf : mg "read_joint" = some (.ref f)) (B : Bt mg) (h_meaning : Callee P w K mg base ⟨K, cl⟩ 2 "meaning" 2 false d_meaning) (h_word_at : Callee P w K mg base ⟨K, cl⟩ 1 "word_at" 2 false d_word_at) (g_MOST_ROWS : Gc mg ⟨K, cl⟩ "MOST_ROWS" gv_MOST_ROWS) : Callee P w K mg base ⟨K, cl⟩ 8 "read_joint" 3 false d_read_joint := okr_read_joint F mgf B h_meaning h_word_at g_MOST_ROWS 5
abbrev st_read_row : Stmt := topS 17
def m_read_row : FS :=
    (sSeq (sSet 1 (eM1 splitD (eW 0) (eS " ")))
    (sSeq (sAsg (gT 3 (gsC (gN 2) (gsC (gN 3) (gsC (gN 4) gsN)))) (eC d_read_joint (aC (eV 1) (aC (eI (0)) (aC (eI (1)) aN)))))
    (sSeq (sIf (tB' (e2 ltD (eW 3) (eC (f1 lenD) (aC (eW 1) aN)))) sNo sNil)
    (sRet (eV 2)))))
def d_read_row : List D → R D := fun ds => (runF false 5 m_read_row ds).nox
theorem sc_read_row : FnScope ["text", "words", "joint", "at", "begun"] ["text"] (defScope st_read_row) := ⟨rfl, rfl, rfl, by decide +kernel, rfl, by decide +kernel, by decide +kernel⟩
theorem ok_read_row {f : Addr} {fd : FuncData} (F : FunD K "read_row" "read_row" (defArgs st_read_row) (defBody st_read_row) (defScope st_read_row) [] [] f fd) (mgf : mg "read_row" = some (.ref f)) (B : Bt mg) (h_read_joint : Callee P w K mg base ⟨K, cl⟩ 8 "read_joint" 3 false d_read_joint) : Callee P w K mg base ⟨K, cl⟩ 9 "read_row" 1 false d_read_row := by
  have nd : (["text", "words", "joint", "at", "begun"] : List Str).Nodup := sc_read_row.nd
  have z := fn_ok (P := P) (w := w) (mg := mg) (base := base) (k := ⟨K, cl⟩) (fr := false) (lv := 8) (as := [1, 2, 3, 4]) (s := m_read_row) F sc_read_row fun cdv A outer sh H G0 hr => by
    have hu := hr.units
    have hu5 := hr.units5
    exact (b_cons (s_set 1 nd (d_z (d_split (d_w 0) d_str)))
    (b_cons (s_asg (d_callS (h_read_joint.at hr (by decide)) (d_ac (d_v 1) (d_ac d_int (d_ac d_int d_an))) (len_c (len_c (len_c len_n)))) (g_t rfl rfl (gs_c (g_n 2 nd) (gs_c (g_n 3 nd) (gs_c (g_n 4 nd) gs_n)))))
    (b_cons (s_if (d_tc (o_lt) (d_w 3) (d_bltn (c_len rfl) B.len (d_ab (d_w 1) d_an))) (b_one s_no) b_nil)
    (b_one (s_ret (d_v 2))))))
  exact ⟨f, fd, ["text"], rfl, z, mgf, F.kp, F.bindsN fun _ _ _ _ _ _ us hl => match us, hl with | [_], _ => rfl⟩
abbrev st__law_cell : Stmt := topS 19
def m__law_cell : FS :=
    (sSeq (sIf (tB' (e2 ltD (eW 1) (eC (f1 lenD) (aC (eW 0) aN)))) (sRet (e2 ixD (eW 0) (eW 1))) sNil)
    (sSeq (sIf (tB' (e2 eqD (eC (f1 lenD) (aC (eW 0) aN)) (eI (0)))) (sRet (eV 1)) sNil)
    (sRet (e2 addD (e2 ixD (eW 0) (e2 modD (eC (f1 intD) (aC (eW 1) aN)) (eC (f1 lenD) (aC (eW 0) aN)))) (e2 mulD (eI (104729)) (eW 1))))))
def d__law_cell : List D → R D := fun ds => (runF false 2 m__law_cell ds).nox
theorem sc__law_cell : FnScope ["_law_script", "_law_at"] ["_law_script", "_law_at"] (defScope st__law_cell) := ⟨rfl, rfl, rfl, by decide +kernel, rfl, by decide +kernel, by decide +kernel⟩
theorem ok__law_cell {f : Addr} {fd : FuncData} (F : FunD K "_law_cell" "_law_cell" (defArgs st__law_cell) (defBody st__law_cell) (defScope st__law_cell) [] [] f fd) (mgf : mg "_law_cell" = some (.ref f)) (B : Bt mg)  : Callee P w K mg base ⟨K, cl⟩ 1 "_law_cell" 2 false d__law_cell := by
  have nd : (["_law_script", "_law_at"] : List Str).Nodup := sc__law_cell.nd
  have z := fn_ok (P := P) (w := w) (mg := mg) (base := base) (k := ⟨K, cl⟩) (fr := false) (lv := 0) (as := []) (s := m__law_cell) F sc__law_cell fun cdv A outer sh H G0 hr => by
    have hu := hr.units
    have hu5 := hr.units5
    exact (b_cons (s_if (d_tc (o_lt) (d_w 1) (d_bltn (c_len rfl) B.len (d_ab (d_w 0) d_an))) (b_one (s_ret (d_ix (o_ix rfl) (d_w 0) (d_w 1)))) b_nil)
    (b_cons (s_if (d_tc (o_eq rfl hu) (d_bltn (c_len rfl) B.len (d_ab (d_w 0) d_an)) d_int) (b_one (s_ret (d_v 1))) b_nil)
    (b_one (s_ret (d_op (o_add rfl) (d_ix (o_ix rfl) (d_w 0) (d_op (o_mod) (d_btyp (c_int) B.int (d_ab (d_w 1) d_an)) (d_bltn (c_len rfl) B.len (d_ab (d_w 0) d_an)))) (d_op (o_mul rfl) d_int (d_w 1)))))))
  exact ⟨f, fd, ["_law_script", "_law_at"], rfl, z, mgf, F.kp, F.bindsN fun _ _ _ _ _ _ us hl => match us, hl with | [_, _], _ => rfl⟩
abbrev st__law_draws : Stmt := topS 20
def m__law_draws : FS :=
    (sSeq (sSet 3 (eC (f1 absD) (aC (eC d__law_cell (aC (eV 0) (aC (eV 1) aN))) aN)))
    (sSeq (sSet 4 (eI (0)))
    (sSeq (sIf (tB' (e2 geD (eW 3) (e2 powD (eI (10)) (eI (18))))) (sSet 4 (e2 subD (eW 3) (e2 powD (eI (10)) (eI (18))))) sNil)
    (sSeq (sOwn 5 (eL aN))
    (sSeq (sFor (fun S => (aC (eW 2) aN) S >>= rng1) (gN 6) (sIf (tB' (e2 gtD (eW 4) (eI (0)))) (sSeq (sApp 5 (e2 modD (eC (f1 intD) (aC (eW 4) aN)) (eI (60))))
    (sSet 4 (e2 fdivD (eW 4) (eI (60))))) (sSeq (sSet 7 (e2 modD (eC (f1 intD) (aC (e2 addD (e2 addD (e2 addD (e2 mulD (eW 3) (eI (48271))) (e2 mulD (eW 6) (eI (69621)))) (e2 mulD (eW 1) (eI (7919)))) (eI (12345))) aN)) (eI (2147483647))))
    (sSeq (sSet 7 (e2 modD (eC (f1 intD) (aC (e2 addD (e2 addD (e2 mulD (eW 7) (eI (40692))) (e2 fdivD (eW 7) (eI (127)))) (e2 mulD (eW 6) (eI (101)))) aN)) (eI (2147483399))))
    (sApp 5 (e2 modD (eC (f1 intD) (aC (e2 fdivD (eW 7) (eI (11))) aN)) (eI (60))))))))
    (sFz 5 (sRet (eV 5))))))))
def d__law_draws : List D → R D := fun ds => (runF false 8 m__law_draws ds).nox
theorem sc__law_draws : FnScope ["_law_script", "_law_at", "_law_count", "_law_cell_here", "_law_rest", "_law_found", "_law_k", "_law_mixed"] ["_law_script", "_law_at", "_law_count"] (defScope st__law_draws) := ⟨rfl, rfl, rfl, by decide +kernel, rfl, by decide +kernel, by decide +kernel⟩
theorem ok__law_draws {f : Addr} {fd : FuncData} (F : FunD K "_law_draws" "_law_draws" (defArgs st__law_draws) (defBody st__law_draws) (defScope st__law_draws) [] [] f fd) (mgf : mg "_law_draws" = some (.ref f)) (B : Bt mg) (h__law_cell : Callee P w K mg base ⟨K, cl⟩ 1 "_law_cell" 2 false d__law_cell) : Callee P w K mg base ⟨K, cl⟩ 2 "_law_draws" 3 false d__law_draws := by
  have nd : (["_law_script", "_law_at", "_law_count", "_law_cell_here", "_law_rest", "_law_found", "_law_k", "_law_mixed"] : List Str).Nodup := sc__law_draws.nd
  have z := fn_ok (P := P) (w := w) (mg := mg) (base := base) (k := ⟨K, cl⟩) (fr := false) (lv := 1) (as := [3, 4, 4, 5, 6, 1005, 4, 7, 7, 1005, 5]) (s := m__law_draws) F sc__law_draws fun cdv A outer sh H G0 hr => by
    have hu := hr.units
    have hu5 := hr.units5
    exact (b_cons (s_set 3 nd (d_bltn (c_abs) B.abs (d_ab (d_callS (h__law_cell.at hr (by decide)) (d_ac (d_v 0) (d_ac (d_v 1) d_an)) (len_c (len_c len_n))) d_an)))
    (b_cons (s_set 4 nd d_int)
    (b_cons (s_if (d_tc (o_ge) (d_w 3) (d_op (o_pow) d_int d_int)) (b_one (s_set 4 nd (d_op (o_sub) (d_w 3) (d_op (o_pow) d_int d_int)))) b_nil)
    (b_cons (s_own 5 nd (d_lst d_an))
    (b_cons (s_for PassesOwn.never rfl (i_rng1 B.range (d_ab (d_w 2) d_an)) (g_n 6 nd) (b_one (s_if (d_tc (o_gt) (d_w 4) d_int) (b_cons (s_app 5 (d_op (o_mod) (d_btyp (c_int) B.int (d_ab (d_w 4) d_an)) d_int))
    (b_one (s_set 4 nd (d_op (o_fdiv) (d_w 4) d_int)))) (b_cons (s_set 7 nd (d_op (o_mod) (d_btyp (c_int) B.int (d_ab (d_op (o_add rfl) (d_op (o_add rfl) (d_op (o_add rfl) (d_op (o_mul rfl) (d_w 3) d_int) (d_op (o_mul rfl) (d_w 6) d_int)) (d_op (o_mul rfl) (d_w 1) d_int)) d_int) d_an)) d_int))
    (b_cons (s_set 7 nd (d_op (o_mod) (d_btyp (c_int) B.int (d_ab (d_op (o_add rfl) (d_op (o_add rfl) (d_op (o_mul rfl) (d_w 7) d_int) (d_op (o_fdiv) (d_w 7) d_int)) (d_op (o_mul rfl) (d_w 6) d_int)) d_an)) d_int))
    (b_one (s_app 5 (d_op (o_mod) (d_btyp (c_int) B.int (d_ab (d_op (o_fdiv) (d_w 7) d_int) d_an)) d_int))))))))
    (b_one (s_fz 5 (s_ret (d_v 5)))))))))
  exact ⟨f, fd, ["_law_script", "_law_at", "_law_count"], rfl, z, mgf, F.kp, F.bindsN fun _ _ _ _ _ _ us hl => match us, hl with | [_, _, _], _ => rfl⟩
abbrev st__law_entries : Stmt := topS 21
def m__law_entries : FS :=
    (sSeq (sSet 1 (eC (f1 lenD) (aC (lcE (fun S => (eT (aC (eI (1)) (aC (eI (4)) (aC (eI (13)) aN)))) S >>= itemsD) (gN 5) (tB' (e2 leD (eW 5) (eW 0))) (eV 5) [5]) aN)))
    (sSeq (sSet 2 (e2 subD (eW 0) (e2 ixD (eL (aC (eI (0)) (aC (eI (1)) (aC (eI (4)) (aC (eI (13)) aN))))) (eW 1))))
    (sSeq (sOwn 3 (eL aN))
    (sSeq (sFor (fun S => (aC (eW 1) aN) S >>= rng1) (gN 4) (sSeq (sApp 3 (e2 subD (e2 modD (eC (f1 intD) (aC (eW 2) aN)) (eI (3))) (eI (1))))
    (sSet 2 (e2 fdivD (eW 2) (eI (3))))))
    (sRet (eC (f1 tupD) (aC (eW 3) aN)))))))
def d__law_entries : List D → R D := fun ds => (runF false 6 m__law_entries ds).nox
theorem sc__law_entries : FnScope ["_law_number", "_law_size", "_law_rest", "_law_found", "_law_k", "_law_least"] ["_law_number"] (defScope st__law_entries) := ⟨rfl, rfl, rfl, by decide +kernel, rfl, by decide +kernel, by decide +kernel⟩
theorem ok__law_entries {f : Addr} {fd : FuncData} (F : FunD K "_law_entries" "_law_entries" (defArgs st__law_entries) (defBody st__law_entries) (defScope st__law_entries) [] [] f fd) (mgf : mg "_law_entries" = some (.ref f)) (B : Bt mg)  : Callee P w K mg base ⟨K, cl⟩ 1 "_law_entries" 1 false d__law_entries := by
  have nd : (["_law_number", "_law_size", "_law_rest", "_law_found", "_law_k", "_law_least"] : List Str).Nodup := sc__law_entries.nd
  have z := fn_ok (P := P) (w := w) (mg := mg) (base := base) (k := ⟨K, cl⟩) (fr := false) (lv := 0) (as := [1, 2, 3, 4, 1003, 2]) (s := m__law_entries) F sc__law_entries fun cdv A outer sh H G0 hr => by
    have hu := hr.units
    have hu5 := hr.units5
    exact (b_cons (s_set 1 nd (d_bltn (c_len rfl) B.len (d_ab (d_lc [("_law_least", 5)] rfl nd (i_seq rfl (d_tup (d_ac d_int (d_ac d_int (d_ac d_int d_an))))) (blkOk_by (N := ["_law_number", "_law_size", "_law_rest", "_law_found", "_law_k", "_law_least"]) (sc := (defScope st__law_entries)) (by decide +kernel)) (fun _ _ _ _ _ => (g_n 5 nd)) (fun _ _ _ _ _ => (ts_1 (d_tc (o_le) (d_w 5) (d_w 0)))) (fun _ _ _ _ _ => (d_v 5))) d_an)))
    (b_cons (s_set 2 nd (d_op (o_sub) (d_w 0) (d_ix (o_ix rfl) (d_lst (d_ac d_int (d_ac d_int (d_ac d_int (d_ac d_int d_an))))) (d_w 1))))
    (b_cons (s_own 3 nd (d_lst d_an))
    (b_cons (s_for PassesOwn.never rfl (i_rng1 B.range (d_ab (d_w 1) d_an)) (g_n 4 nd) (b_cons (s_app 3 (d_op (o_sub) (d_op (o_mod) (d_btyp (c_int) B.int (d_ab (d_w 2) d_an)) d_int) d_int))
    (b_one (s_set 2 nd (d_op (o_fdiv) (d_w 2) d_int)))))
    (b_one (s_ret (d_btyp (c_tup rfl) B.tuple (d_ab (d_w 3) d_an))))))))
  exact ⟨f, fd, ["_law_number"], rfl, z, mgf, F.kp, F.bindsN fun _ _ _ _ _ _ us hl => match us, hl with | [_], _ => rfl⟩
abbrev st__law_row : Stmt := topS 22
def m__law_row : FS :=
    (sRet (eT (aC (e2 modD (eC (f1 intD) (aC (eW 0) aN)) (eI (2))) (aC (eC d__law_entries (aC (e2 modD (eC (f1 intD) (aC (eW 1) aN)) (eI (40))) aN)) (aC (e2 subD (e2 modD (eC (f1 intD) (aC (e2 fdivD (eW 0) (eI (2))) aN)) (eI (4))) (eI (1))) (aC (e2 modD (eC (f1 intD) (aC (e2 fdivD (eW 0) (eI (8))) aN)) (eI (2))) aN))))))
def d__law_row : List D → R D := fun ds => (runF false 2 m__law_row ds).nox
theorem sc__law_row : FnScope ["_law_a", "_law_b"] ["_law_a", "_law_b"] (defScope st__law_row) := ⟨rfl, rfl, rfl, by decide +kernel, rfl, by decide +kernel, by decide +kernel⟩
theorem ok__law_row {f : Addr} {fd : FuncData} (F : FunD K "_law_row" "_law_row" (defArgs st__law_row) (defBody st__law_row) (defScope st__law_row) [] [] f fd) (mgf : mg "_law_row" = some (.ref f)) (B : Bt mg) (h__law_entries : Callee P w K mg base ⟨K, cl⟩ 1 "_law_entries" 1 false d__law_entries) : Callee P w K mg base ⟨K, cl⟩ 2 "_law_row" 2 false d__law_row := by
  have nd : (["_law_a", "_law_b"] : List Str).Nodup := sc__law_row.nd
  have z := fn_ok (P := P) (w := w) (mg := mg) (base := base) (k := ⟨K, cl⟩) (fr := false) (lv := 1) (as := []) (s := m__law_row) F sc__law_row fun cdv A outer sh H G0 hr => by
    have hu := hr.units
    have hu5 := hr.units5
    exact (b_one (s_ret (d_tup (d_ac (d_op (o_mod) (d_btyp (c_int) B.int (d_ab (d_w 0) d_an)) d_int) (d_ac (d_callS (h__law_entries.at hr (by decide)) (d_ac (d_op (o_mod) (d_btyp (c_int) B.int (d_ab (d_w 1) d_an)) d_int) d_an) (len_c len_n)) (d_ac (d_op (o_sub) (d_op (o_mod) (d_btyp (c_int) B.int (d_ab (d_op (o_fdiv) (d_w 0) d_int) d_an)) d_int) d_int) (d_ac (d_op (o_mod) (d_btyp (c_int) B.int (d_ab (d_op (o_fdiv) (d_w 0) d_int) d_an)) d_int) d_an)))))))
  exact ⟨f, fd, ["_law_a", "_law_b"], rfl, z, mgf, F.kp, F.bindsN fun _ _ _ _ _ _ us hl => match us, hl with | [_, _], _ => rfl⟩
abbrev st__law_joint : Stmt := topS 23
def m__law_joint : FS :=
    (sSeq (sSet 1 (lcE (fun S => (aC (eI (3)) aN) S >>= rng1) (gN 3) tY (eC d__law_row (aC (e2 ixD (eW 0) (e2 addD (eI (1)) (e2 mulD (eI (2)) (eW 3)))) (aC (e2 ixD (eW 0) (e2 addD (eI (2)) (e2 mulD (eI (2)) (eW 3)))) aN))) [3]))
    (sSeq (sSet 2 (e2 modD (eC (f1 intD) (aC (e2 ixD (eW 0) (eI (0))) aN)) (eI (4))))
    (sSeq (sIf (tB' (e2 eqD (eW 2) (eI (0)))) (sRet (eT (aC (e2 ixD (eW 1) (eI (0))) (aC (eT aN) aN)))) sNil)
    (sSeq (sIf (tB' (e2 eqD (eW 2) (eI (1)))) (sRet (eT (aC (e2 ixD (eW 1) (eI (0))) (aC (eT (aC (eT (aC (e2 ixD (eW 1) (eI (1))) (aC (eT aN) aN))) aN)) aN)))) sNil)
    (sSeq (sIf (tB' (e2 eqD (eW 2) (eI (2)))) (sRet (eT (aC (e2 ixD (eW 1) (eI (0))) (aC (eT (aC (eT (aC (e2 ixD (eW 1) (eI (1))) (aC (eT aN) aN))) (aC (eT (aC (e2 ixD (eW 1) (eI (2))) (aC (eT aN) aN))) aN))) aN)))) sNil)
    (sRet (eT (aC (e2 ixD (eW 1) (eI (0))) (aC (eT (aC (eT (aC (e2 ixD (eW 1) (eI (1))) (aC (eT (aC (eT (aC (e2 ixD (eW 1) (eI (2))) (aC (eT aN) aN))) aN)) aN))) aN)) aN)))))))))
def d__law_joint : List D → R D := fun ds => (runF false 4 m__law_joint ds).nox
theorem sc__law_joint : FnScope ["_law_d", "_law_rows", "_law_way", "_law_k"] ["_law_d"] (defScope st__law_joint) := ⟨rfl, rfl, rfl, by decide +kernel, rfl, by decide +kernel, by decide +kernel⟩
theorem ok__law_joint {f : Addr} {fd : FuncData} (F : FunD K "_law_joint" "_law_joint" (defArgs st__law_joint) (defBody st__law_joint) (defScope st__law_joint) [] [] f fd) (mgf : mg "_law_joint" = some (.ref f)) (B : Bt mg) (h__law_row : Callee P w K mg base ⟨K, cl⟩ 2 "_law_row" 2 false d__law_row) : Callee P w K mg base ⟨K, cl⟩ 3 "_law_joint" 1 false d__law_joint := by
  have nd : (["_law_d", "_law_rows", "_law_way", "_law_k"] : List Str).Nodup := sc__law_joint.nd
  have z := fn_ok (P := P) (w := w) (mg := mg) (base := base) (k := ⟨K, cl⟩) (fr := false) (lv := 2) (as := [1, 2]) (s := m__law_joint) F sc__law_joint fun cdv A outer sh H G0 hr => by
    have hu := hr.units
    have hu5 := hr.units5
    exact (b_cons (s_lcZ 1 [("_law_k", 3)] rfl nd (i_rng1 B.range (d_ab d_int d_an)) (blkOk_by (N := ["_law_d", "_law_rows", "_law_way", "_law_k"]) (sc := (defScope st__law_joint)) (by decide +kernel)) (fun _ _ _ _ _ => (g_n 3 nd)) (fun _ _ _ _ _ => ts_n) (fun _ _ _ _ _ => (d_callS (h__law_row.at hr (by decide)) (d_ac (d_ix (o_ix rfl) (d_w 0) (d_op (o_add rfl) d_int (d_op (o_mul rfl) d_int (d_w 3)))) (d_ac (d_ix (o_ix rfl) (d_w 0) (d_op (o_add rfl) d_int (d_op (o_mul rfl) d_int (d_w 3)))) d_an)) (len_c (len_c len_n)))))
    (b_cons (s_set 2 nd (d_op (o_mod) (d_btyp (c_int) B.int (d_ab (d_ix (o_ix rfl) (d_w 0) d_int) d_an)) d_int))
    (b_cons (s_if (d_tc (o_eq rfl hu) (d_w 2) d_int) (b_one (s_ret (d_tup (d_ac (d_ix (o_ix rfl) (d_w 1) d_int) (d_ac (d_tup d_an) d_an))))) b_nil)
    (b_cons (s_if (d_tc (o_eq rfl hu) (d_w 2) d_int) (b_one (s_ret (d_tup (d_ac (d_ix (o_ix rfl) (d_w 1) d_int) (d_ac (d_tup (d_ac (d_tup (d_ac (d_ix (o_ix rfl) (d_w 1) d_int) (d_ac (d_tup d_an) d_an))) d_an)) d_an))))) b_nil)
    (b_cons (s_if (d_tc (o_eq rfl hu) (d_w 2) d_int) (b_one (s_ret (d_tup (d_ac (d_ix (o_ix rfl) (d_w 1) d_int) (d_ac (d_tup (d_ac (d_tup (d_ac (d_ix (o_ix rfl) (d_w 1) d_int) (d_ac (d_tup d_an) d_an))) (d_ac (d_tup (d_ac (d_ix (o_ix rfl) (d_w 1) d_int) (d_ac (d_tup d_an) d_an))) d_an))) d_an))))) b_nil)
    (b_one (s_ret (d_tup (d_ac (d_ix (o_ix rfl) (d_w 1) d_int) (d_ac (d_tup (d_ac (d_tup (d_ac (d_ix (o_ix rfl) (d_w 1) d_int) (d_ac (d_tup (d_ac (d_tup (d_ac (d_ix (o_ix rfl) (d_w 1) d_int) (d_ac (d_tup d_an) d_an))) d_an)) d_an))) d_an)) d_an))))))))))
  exact ⟨f, fd, ["_law_d"], rfl, z, mgf, F.kp, F.bindsN fun _ _ _ _ _ _ us hl => match us, hl with | [_], _ => rfl⟩
abbrev st__law_words : Stmt := topS 24
def m__law_words (self : List D → R D) : FS :=
    (sSeq (sAsg (gT 2 (gsC (gN 1) (gsC (gN 2) gsN))) (eV 0))
    (sSeq (sSet 3 (eM1 joinD (eS "") (lcE (fun S => (e2 ixD (eW 1) (eI (1))) S >>= itemsD) (gN 6) tY (e2 ixD (eS ".01") (e2 addD (eW 6) (eI (1)))) [6])))
    (sSeq (sIf (tB' (e2 eqD (eC (f1 lenD) (aC (e2 ixD (eW 1) (eI (1))) aN)) (eI (0)))) (sSet 3 (eS "-")) sNil)
    (sSeq (sOwn 4 (eL (aC (e2 ixD (eS "01") (e2 ixD (eW 1) (eI (0)))) (aC (eV 3) (aC (e2 ixD (eS ".012") (e2 addD (e2 ixD (eW 1) (eI (2))) (eI (1)))) (aC (e2 ixD (eS ".+") (e2 ixD (eW 1) (eI (3)))) aN))))))
    (sSeq (sFor (fun S => (eV 2) S >>= itemsD) (gN 5) (sExt 4 (e2 addD (e2 addD (eL (aC (eS "(") aN)) (eC self (aC (eV 5) aN))) (eL (aC (eS ")") aN)))))
    (sFz 4 (sRet (eV 4))))))))
def d__law_words' : Nat → List D → R D
  | 0 => fun _ => .fail
  | n + 1 => fun ds => (runF false 7 (m__law_words (d__law_words' n)) ds).nox
def d__law_words : List D → R D := d__law_words' 4
theorem sc__law_words : FnScope ["_law_joint_here", "_law_row_here", "_law_guests", "_law_entries_here", "_law_found", "_law_guest", "_law_node"] ["_law_joint_here"] (defScope st__law_words) := ⟨rfl, rfl, rfl, by decide +kernel, rfl, by decide +kernel, by decide +kernel⟩
theorem okr__law_words {f : Addr} {fd : FuncData} (F : FunD K "_law_words" "_law_words" (defArgs st__law_words) (defBody st__law_words) (defScope st__law_words) [] [] f fd) (mgf : mg "_law_words" = some (.ref f)) (B : Bt mg)  (n : Nat) : Callee P w K mg base ⟨K, cl⟩ (1 + n) "_law_words" 1 false (d__law_words' n) := by
  have nd : (["_law_joint_here", "_law_row_here", "_law_guests", "_law_entries_here", "_law_found", "_law_guest", "_law_node"] : List Str).Nodup := sc__law_words.nd
  induction n with
  | zero => exact ⟨f, fd, ["_law_joint_here"], rfl, fn_ok (P := P) (w := w) (mg := mg) (base := base) (k := ⟨K, cl⟩) (fr := false) (lv := 0) (as := []) (s := fun _ => .fail) F sc__law_words fun cdv A outer sh H G0 hr => b_fail, mgf, F.kp, F.bindsN fun _ _ _ _ _ _ us hl => match us, hl with | [_], _ => rfl⟩
  | succ n ih =>
    have z := fn_ok (P := P) (w := w) (mg := mg) (base := base) (k := ⟨K, cl⟩) (fr := false) (lv := 1 + n) (as := [1, 2, 3, 3, 4, 5, 1004, 4]) (s := m__law_words (d__law_words' n)) F sc__law_words fun cdv A outer sh H G0 hr => by
      have hu := hr.units
      have hu5 := hr.units5
      exact (b_cons (s_asg (d_v 0) (g_t rfl rfl (gs_c (g_n 1 nd) (gs_c (g_n 2 nd) gs_n))))
    (b_cons (s_set 3 nd (d_join rfl d_str (d_lc [("_law_node", 6)] rfl nd (i_seq rfl (d_ix (o_ix rfl) (d_w 1) d_int)) (blkOk_by (N := ["_law_joint_here", "_law_row_here", "_law_guests", "_law_entries_here", "_law_found", "_law_guest", "_law_node"]) (sc := (defScope st__law_words)) (by decide +kernel)) (fun _ _ _ _ _ => (g_n 6 nd)) (fun _ _ _ _ _ => ts_n) (fun _ _ _ _ _ => (d_ix (o_ix rfl) d_str (d_op (o_add rfl) (d_w 6) d_int))))))
    (b_cons (s_if (d_tc (o_eq rfl hu) (d_bltn (c_len rfl) B.len (d_ab (d_ix (o_ix rfl) (d_w 1) d_int) d_an)) d_int) (b_one (s_set 3 nd d_str)) b_nil)
    (b_cons (s_own 4 nd (d_lst (d_ac (d_ix (o_ix rfl) d_str (d_ix (o_ix rfl) (d_w 1) d_int)) (d_ac (d_v 3) (d_ac (d_ix (o_ix rfl) d_str (d_op (o_add rfl) (d_ix (o_ix rfl) (d_w 1) d_int) d_int)) (d_ac (d_ix (o_ix rfl) d_str (d_ix (o_ix rfl) (d_w 1) d_int)) d_an))))))
    (b_cons (s_for PassesOwn.never rfl (i_seq rfl (d_v 2)) (g_n 5 nd) (b_one (s_ext 4 (d_op (o_add rfl) (d_op (o_add rfl) (d_lst (d_ac d_str d_an)) (d_callS (ih.at hr (by omega)) (d_ac (d_v 5) d_an) (len_c len_n))) (d_lst (d_ac d_str d_an))))))
    (b_one (s_fz 4 (s_ret (d_v 4)))))))))
    exact ⟨f, fd, ["_law_joint_here"], rfl, z, mgf, F.kp, F.bindsN fun _ _ _ _ _ _ us hl => match us, hl with | [_], _ => rfl⟩
theorem ok__law_words {f : Addr} {fd : FuncData} (F : FunD K "_law_words" "_law_words" (defArgs st__law_words) (defBody st__law_words) (defScope st__law_words) [] [] f fd) (mgf : mg "_law_words" = some (.ref f)) (B : Bt mg)  : Callee P w K mg base ⟨K, cl⟩ 5 "_law_words" 1 false d__law_words := okr__law_words F mgf B  4
abbrev st__law_same : Stmt := topS 25
def m__law_same (self : List D → R D) : FS :=
    (sSeq (sIf (tT' (e1 (isi2D "tuple" "list") (eW 1))) (sSeq (sIf (tO (tB' (e2 neD (eC (f2 isiD) (aC (eW 0) (aC (eY "tuple") aN))) (eC (f2 isiD) (aC (eW 1) (aC (eY "tuple") aN))))) (tB' (e2 neD (eC (f2 isiD) (aC (eW 0) (aC (eY "list") aN))) (eC (f2 isiD) (aC (eW 1) (aC (eY "list") aN)))))) (sRet (eB false)) sNil)
    (sRet (eAnd (e2 eqD (eC (f1 lenD) (aC (eW 0) aN)) (eC (f1 lenD) (aC (eW 1) aN))) (eC (f1 allD) (aC (lcE (fun S => (aC (eC (f1 lenD) (aC (eW 1) aN)) aN) S >>= rng1) (gN 2) tY (eC self (aC (e2 ixD (eW 0) (eW 2)) (aC (e2 ixD (eW 1) (eW 2)) aN))) [2]) aN))))) sNil)
    (sSeq (sIf (tB' (e2 isD (eW 1) eN)) (sRet (e2 isD (eW 0) eN)) sNil)
    (sSeq (sIf (tT' (eC (f2 isiD) (aC (eW 1) (aC (eY "str") aN)))) (sRet (eAnd (eC (f2 isiD) (aC (eW 0) (aC (eY "str") aN))) (e2 eqD (eW 0) (eW 1)))) sNil)
    (sRet (eAnd (eC (f2 isiD) (aC (eW 0) (aC (eY "int") aN))) (eAnd (eNot (eC (f2 isiD) (aC (eW 0) (aC (eY "bool") aN)))) (e2 eqD (eW 0) (eW 1))))))))
def d__law_same' : Nat → List D → R D
  | 0 => fun _ => .fail
  | n + 1 => fun ds => (runF false 3 (m__law_same (d__law_same' n)) ds).nox
def d__law_same : List D → R D := d__law_same' 12
theorem sc__law_same : FnScope ["_law_actual", "_law_due", "_law_k"] ["_law_actual", "_law_due"] (defScope st__law_same) := ⟨rfl, rfl, rfl, by decide +kernel, rfl, by decide +kernel, by decide +kernel⟩
theorem okr__law_same {f : Addr} {fd : FuncData} (F : FunD K "_law_same" "_law_same" (defArgs st__law_same) (defBody st__law_same) (defScope st__law_same) [] [] f fd) (mgf : mg "_law_same" = some (.ref f)) (B : Bt mg)  (n : Nat) : Callee P w K mg base ⟨K, cl⟩ (1 + n) "_law_same" 2 false (d__law_same' n) := by
  have nd : (["_law_actual", "_law_due", "_law_k"] : List Str).Nodup := sc__law_same.nd
  induction n with
  | zero => exact ⟨f, fd, ["_law_actual", "_law_due"], rfl, fn_ok (P := P) (w := w) (mg := mg) (base := base) (k := ⟨K, cl⟩) (fr := false) (lv := 0) (as := []) (s := fun _ => .fail) F sc__law_same fun cdv A outer sh H G0 hr => b_fail, mgf, F.kp, F.bindsN fun _ _ _ _ _ _ us hl => match us, hl with | [_, _], _ => rfl⟩
  | succ n ih =>
    have z := fn_ok (P := P) (w := w) (mg := mg) (base := base) (k := ⟨K, cl⟩) (fr := false) (lv := 1 + n) (as := []) (s := m__law_same (d__law_same' n)) F sc__law_same fun cdv A outer sh H G0 hr => by
      have hu := hr.units
      have hu5 := hr.units5
      exact (b_cons (s_if (d_tt rfl (d_isi2 "tuple" "list" rfl B.isinstance B.tuple B.list (d_w 1))) (b_cons (s_if (d_pw (d_or (d_tc (o_ne rfl hu) (d_bltn (c_isi rfl) B.isinstance (d_ab (d_w 0) (d_ab (d_ty "tuple" B.tuple) d_an))) (d_bltn (c_isi rfl) B.isinstance (d_ab (d_w 1) (d_ab (d_ty "tuple" B.tuple) d_an)))) (d_or1 (d_tc (o_ne rfl hu) (d_bltn (c_isi rfl) B.isinstance (d_ab (d_w 0) (d_ab (d_ty "list" B.list) d_an))) (d_bltn (c_isi rfl) B.isinstance (d_ab (d_w 1) (d_ab (d_ty "list" B.list) d_an))))))) (b_one (s_ret d_bl)) b_nil)
    (b_one (s_ret (d_vand (d_cmp (o_eq rfl hu) (d_bltn (c_len rfl) B.len (d_ab (d_w 0) d_an)) (d_bltn (c_len rfl) B.len (d_ab (d_w 1) d_an))) (d_vone (d_bltn (c_all rfl) B.all (d_ab (d_lc [("_law_k", 2)] rfl nd (i_rng1 B.range (d_ab (d_bltn (c_len rfl) B.len (d_ab (d_w 1) d_an)) d_an)) (blkOk_by (N := ["_law_actual", "_law_due", "_law_k"]) (sc := (defScope st__law_same)) (by decide +kernel)) (fun _ _ _ _ _ => (g_n 2 nd)) (fun _ _ _ _ _ => ts_n) (fun _ _ _ _ _ => (d_callS (ih.at hr (by omega)) (d_ac (d_ix (o_ix rfl) (d_w 0) (d_w 2)) (d_ac (d_ix (o_ix rfl) (d_w 1) (d_w 2)) d_an)) (len_c (len_c len_n))))) d_an))))))) b_nil)
    (b_cons (s_if (d_tc (o_is) (d_w 1) d_non) (b_one (s_ret (d_cmp (o_is) (d_w 0) d_non))) b_nil)
    (b_cons (s_if (d_tt rfl (d_bltn (c_isi rfl) B.isinstance (d_ab (d_w 1) (d_ab (d_ty "str" B.str) d_an)))) (b_one (s_ret (d_vand (d_bltn (c_isi rfl) B.isinstance (d_ab (d_w 0) (d_ab (d_ty "str" B.str) d_an))) (d_vone (d_cmp (o_eq rfl hu) (d_w 0) (d_w 1)))))) b_nil)
    (b_one (s_ret (d_vand (d_bltn (c_isi rfl) B.isinstance (d_ab (d_w 0) (d_ab (d_ty "int" B.int) d_an))) (d_vand (d_vnot (d_bltn (c_isi rfl) B.isinstance (d_ab (d_w 0) (d_ab (d_ty "bool" B.bool) d_an)))) (d_vone (d_cmp (o_eq rfl hu) (d_w 0) (d_w 1))))))))))
    exact ⟨f, fd, ["_law_actual", "_law_due"], rfl, z, mgf, F.kp, F.bindsN fun _ _ _ _ _ _ us hl => match us, hl with | [_, _], _ => rfl⟩
theorem ok__law_same {f : Addr} {fd : FuncData} (F : FunD K "_law_same" "_law_same" (defArgs st__law_same) (defBody st__law_same) (defScope st__law_same) [] [] f fd) (mgf : mg "_law_same" = some (.ref f)) (B : Bt mg)  : Callee P w K mg base ⟨K, cl⟩ 13 "_law_same" 2 false d__law_same := okr__law_same F mgf B  12
abbrev st_law : Stmt := topS 26
def m_law : FS :=
    (sSeq (sSet 1 (eC (f2 min2D) (aC (eI (63)) (aC (eC (f2 max2D) (aC (eI (1)) (aC (eC (f1 lenD) (aC (eW 0) aN)) aN))) aN))))
    (sSeq (sSet 3 (lcE (fun S => (aC (eW 1) aN) S >>= rng1) (gN 2) tY (eC d__law_joint (aC (eC d__law_draws (aC (eV 0) (aC (eV 2) (aC (eI (7)) aN)))) aN)) [2]))
    (sSeq (sSet 4 (lcE (fun S => (eV 3) S >>= itemsD) (gN 5) tY (eC d_row_text (aC (eV 5) aN)) [5]))
    (sSeq (sFor (fun S => (aC (eW 1) aN) S >>= rng1) (gN 2) (sIf (tNo (tT' (eC d__law_same (aC (e2 ixD (eW 4) (eW 2)) (aC (eM1 joinD (eS " ") (eC d__law_words (aC (e2 ixD (eW 3) (eW 2)) aN))) aN))))) (sRet (eB false)) sNil))
    (sRet (eC (f1 allD) (aC (lcE (fun S => (aC (eW 1) aN) S >>= rng1) (gN 2) tY (eC d__law_same (aC (eC d_read_row (aC (e2 ixD (eW 4) (eW 2)) aN)) (aC (e2 ixD (eW 3) (eW 2)) aN))) [2]) aN)))))))
def d_law : List D → R D := fun ds => (runF false 6 m_law ds).nox
theorem sc_law : FnScope ["_law_script", "_law_count", "_law_at", "_law_rows", "_law_texts", "_law_row_here"] ["_law_script"] (defScope st_law) := ⟨rfl, rfl, rfl, by decide +kernel, rfl, by decide +kernel, by decide +kernel⟩
theorem ok_law {f : Addr} {fd : FuncData} (F : FunD K "law" "law" (defArgs st_law) (defBody st_law) (defScope st_law) [] [] f fd) (mgf : mg "law" = some (.ref f)) (B : Bt mg) (h__law_joint : Callee P w K mg base ⟨K, cl⟩ 3 "_law_joint" 1 false d__law_joint) (h__law_draws : Callee P w K mg base ⟨K, cl⟩ 2 "_law_draws" 3 false d__law_draws) (h_row_text : Callee P w K mg base ⟨K, cl⟩ 7 "row_text" 1 false d_row_text) (h__law_same : Callee P w K mg base ⟨K, cl⟩ 13 "_law_same" 2 false d__law_same) (h__law_words : Callee P w K mg base ⟨K, cl⟩ 5 "_law_words" 1 false d__law_words) (h_read_row : Callee P w K mg base ⟨K, cl⟩ 9 "read_row" 1 false d_read_row) : FnOk P w K mg base CX0 14 f fd ["_law_script"] (SpF ⟨K, cl⟩ false 1 d_law) := by
  have nd : (["_law_script", "_law_count", "_law_at", "_law_rows", "_law_texts", "_law_row_here"] : List Str).Nodup := sc_law.nd
  have z := fn_ok (P := P) (w := w) (mg := mg) (base := base) (k := ⟨K, cl⟩) (fr := false) (lv := 13) (as := [1, 3, 4, 2]) (s := m_law) F sc_law fun cdv A outer sh H G0 hr => by
    have hu := hr.units
    have hu5 := hr.units5
    exact (b_cons (s_set 1 nd (d_bltn (c_min2 rfl) B.min (d_ab d_int (d_ab (d_bltn (c_max2 rfl) B.max (d_ab d_int (d_ab (d_bltn (c_len rfl) B.len (d_ab (d_w 0) d_an)) d_an))) d_an))))
    (b_cons (s_set 3 nd (d_z (d_lc [("_law_at", 2)] rfl nd (i_rng1 B.range (d_ab (d_w 1) d_an)) (blkOk_by (N := ["_law_script", "_law_count", "_law_at", "_law_rows", "_law_texts", "_law_row_here"]) (sc := (defScope st_law)) (by decide +kernel)) (fun _ _ _ _ _ => (g_n 2 nd)) (fun _ _ _ _ _ => ts_n) (fun _ _ _ _ _ => (d_callS (h__law_joint.at hr (by decide)) (d_ac (d_callS (h__law_draws.at hr (by decide)) (d_ac (d_v 0) (d_ac (d_v 2) (d_ac d_int d_an))) (len_c (len_c (len_c len_n)))) d_an) (len_c len_n))))))
    (b_cons (s_set 4 nd (d_z (d_lc [("_law_row_here", 5)] rfl nd (i_seq rfl (d_v 3)) (blkOk_by (N := ["_law_script", "_law_count", "_law_at", "_law_rows", "_law_texts", "_law_row_here"]) (sc := (defScope st_law)) (by decide +kernel)) (fun _ _ _ _ _ => (g_n 5 nd)) (fun _ _ _ _ _ => ts_n) (fun _ _ _ _ _ => (d_callS (h_row_text.at hr (by decide)) (d_ac (d_v 5) d_an) (len_c len_n))))))
    (b_cons (s_for PassesOwn.never rfl (i_rng1 B.range (d_ab (d_w 1) d_an)) (g_n 2 nd) (b_one (s_if (d_not (d_tt rfl (d_callS (h__law_same.at hr (by decide)) (d_ac (d_ix (o_ix rfl) (d_w 4) (d_w 2)) (d_ac (d_join rfl d_str (d_callS (h__law_words.at hr (by decide)) (d_ac (d_ix (o_ix rfl) (d_w 3) (d_w 2)) d_an) (len_c len_n))) d_an)) (len_c (len_c len_n))))) (b_one (s_ret d_bl)) b_nil)))
    (b_one (s_ret (d_bltn (c_all rfl) B.all (d_ab (d_lc [("_law_at", 2)] rfl nd (i_rng1 B.range (d_ab (d_w 1) d_an)) (blkOk_by (N := ["_law_script", "_law_count", "_law_at", "_law_rows", "_law_texts", "_law_row_here"]) (sc := (defScope st_law)) (by decide +kernel)) (fun _ _ _ _ _ => (g_n 2 nd)) (fun _ _ _ _ _ => ts_n) (fun _ _ _ _ _ => (d_callS (h__law_same.at hr (by decide)) (d_ac (d_callS (h_read_row.at hr (by decide)) (d_ac (d_ix (o_ix rfl) (d_w 4) (d_w 2)) d_an) (len_c len_n)) (d_ac (d_ix (o_ix rfl) (d_w 3) (d_w 2)) d_an)) (len_c (len_c len_n))))) d_an))))))))
  exact z
end
end Pf
set_option Elab.async false
set_option linter.all false
set_option maxRecDepth 100000
namespace Pf
open M PySem L2
/-- draws -/
def drawn (n : Nat) (d : D) : Prop := ∃ l : List Int, d = .lst (l.map .int) ∧ l.length = n ∧ ∀ x ∈ l, 0 ≤ x ∧ x < 720720
def EN : List Str := ["", "a", "b", "c", "ab", "ac", "bc", "abc"]
def planD (p : List Str) : D := .tup (p.map .str)
structure Nd (p : List Str) (due : Int) : Prop where
  ne : 1 ≤ p.length
  le : p.length ≤ 4
  lo : (p.length : Int) ≤ due
  hi : due ≤ 8
  en : ∀ e ∈ p, e ∈ EN
def nodeD (p : List Str) (due : Int) : D := .tup [planD p, .int due]
def edgeD (u v g : Int) : D := .tup [.int u, .int v, .int g]
theorem drawn.ix {n : Nat} {d : D} (h : drawn n d) {i : Int} (h0 : 0 ≤ i) (h1 : i < n) : Ok (ixD d (.int i)) fun z => ∃ x : Int, z = .int x ∧ 0 ≤ x ∧ x < 720720 := by
  obtain ⟨l, rfl, hl, hm⟩ := h
  rw [k_ixL]
  obtain ⟨a, ha⟩ := atI_lt (xs := l.map D.int) h0 (by rw [List.length_map]; omega)
  obtain ⟨x, hx, rfl⟩ := List.mem_map.mp (atI_mem ha)
  exact ⟨_, ha, x, rfl, hm x hx⟩
theorem mod_b (x : Int) {m : Int} (h : 0 < m) : 0 ≤ x % m ∧ x % m < m := ⟨Int.emod_nonneg _ (by omega), Int.emod_lt_of_pos _ h⟩
theorem k_min2 {a b : Int} {Q : D → Prop} : Ok (min2D (.int a) (.int b)) Q ↔ Q (.int (if b < a then b else a)) := ok_ok
theorem k_max2 {a b : Int} {Q : D → Prop} : Ok (max2D (.int a) (.int b)) Q ↔ Q (.int (if b > a then b else a)) := ok_ok
theorem drawn.snoc {l : List Int} {n : Nat} {x : Int} (hm : l.length = n ∧ ∀ x ∈ l, 0 ≤ x ∧ x < 720720) (hx : 0 ≤ x ∧ x < 720720) : (l ++ [x]).length = n + 1 ∧ ∀ z ∈ l ++ [x], 0 ≤ z ∧ z < 720720 := by
  refine ⟨by simp [hm.1], fun z hz => ?_⟩
  rcases List.mem_append.mp hz with h | h
  · exact hm.2 z h
  · rw [List.mem_singleton] at h; subst h; exact hx
end Pf
set_option Elab.async false
set_option linter.all false
set_option maxRecDepth 100000
namespace Pf
open M PySem L2
mutual
theorem deq_self : ∀ (n : Nat) (d : D), dok n d = true → deq d d = true
  | _, .non, _ => by simp [deq]
  | _, .bl b, _ => by simp [deq]
  | _, .int b, _ => by simp [deq]
  | _, .str b, _ => by simp [deq]
  | n + 1, .tup xs, h => by simp only [dok] at h; simp only [deq]; exact deqs_self n xs h
  | n + 1, .lst xs, h => by simp only [dok] at h; simp only [deq]; exact deqs_self n xs h
  | 0, .tup xs, h => by simp [dok] at h
  | 0, .lst xs, h => by simp [dok] at h
  | n, .ty _, h => by cases n <;> simp [dok] at h
  | n, .dic _ _, h => by cases n <;> simp [dok] at h
  | n, .dit _ _, h => by cases n <;> simp [dok] at h
  | n, .obj _ _, h => by cases n <;> simp [dok] at h
  | n, .scr _, h => by cases n <;> simp [dok] at h
  | n, .cls _, h => by cases n <;> simp [dok] at h
theorem deqs_self : ∀ (n : Nat) (ds : List D), doks n ds = true → deqs ds ds = true
  | _, [], _ => by simp [deqs]
  | n, d :: ds, h => by
    simp only [doks, Bool.and_eq_true] at h
    simp only [deqs, Bool.and_eq_true]
    exact ⟨deq_self n d h.1, deqs_self n ds h.2⟩
end
theorem k_neS {d : D} (h : dok 60 d = true) {Q : D → Prop} : Ok (neD d d) Q ↔ Q (.bl false) := by
  have e : neD d d = .ok (.bl false) := by unfold neD; rw [h, deq_self 60 d h]; rfl
  rw [e, ok_ok]
theorem doks_map {α : Type} (f : α → D) (n : Nat) : ∀ (xs : List α), (∀ x ∈ xs, dok n (f x) = true) → doks n (xs.map f) = true
  | [], _ => by simp [doks]
  | x :: xs, h => by
    simp only [List.map_cons, doks, Bool.and_eq_true]
    exact ⟨h x (by simp), doks_map f n xs fun y hy => h y (by simp [hy])⟩
/-- a text of signs -/
def sg (c : Nat) : Str := ⟨#[c]⟩
def tx (cs : List Nat) : Str := ⟨cs.toArray⟩
theorem joinL_sg : ∀ cs : List Nat, TL.joinL [] (cs.map fun c => [c]) = cs
  | [] => rfl
  | [c] => rfl
  | c :: d :: r => by
    simp only [List.map_cons, TL.joinL, List.nil_append]
    have := joinL_sg (d :: r)
    simp only [List.map_cons] at this
    rw [this]; rfl
theorem join_sg (cs : List Nat) : Txt.join "" (cs.map sg) = tx cs := by
  have h := TL.tl_join "" (cs.map sg)
  rw [List.map_map] at h
  have h2 := joinL_sg cs
  have h3 : TL.tl (Str.join "" (cs.map sg)) = cs := by
    rw [h]; exact h2
  rw [TL.join_eq]
  generalize Str.join "" (cs.map sg) = x at h3
  obtain ⟨⟨l⟩⟩ := x
  show (⟨⟨l⟩⟩ : Str) = ⟨cs.toArray⟩
  have : l = cs := h3
  rw [this]
theorem asS_sg (cs : List Nat) : asS (cs.map fun c => D.str (sg c)) = some (cs.map sg) := by
  have := asS_map (cs.map sg)
  rwa [List.map_map] at this
theorem sum_sg (cs : List Nat) : ((cs.map sg).map (·.length)).sum = cs.length := by
  induction cs with
  | nil => rfl
  | cons c cs ih =>
    simp only [List.map_cons, List.sum_cons, ih, List.length_cons]
    show 1 + cs.length = cs.length + 1
    omega
theorem k_eM1 {o : D → D → R D} {f g : FE} {S : M.Env} {Q : D → Prop} : Ok (eM1 o f g S) Q ↔ Ok (f S) fun x => isS x = true ∧ Ok (g S) fun y => Ok (o x y) Q := by
  unfold eM1; simp only [ok_bind, ok_if, ok_nox]
theorem k_join (cs : List Nat) (h : cs.length ≤ 1000) {Q : D → Prop} : Ok (joinD (.str "") (.lst (cs.map fun c => .str (sg c)))) Q ↔ Q (.str (tx cs)) := by
  have e : joinD (.str "") (.lst (cs.map fun c => .str (sg c))) = .ok (.str (tx cs)) := by
    unfold joinD
    simp only [asS_sg]
    rw [if_pos (by rw [sum_sg, List.length_map]; show cs.length + cs.length * 0 ≤ _; omega), join_sg]
  rw [e, ok_ok]
theorem k_inS {c : Nat} {z : Str} {Q : D → Prop} : Ok (inD (.str (sg c)) (.str z)) Q ↔ Q (.bl (decide (c ∈ z.cps.toList))) := ok_ok
theorem k_notInS {c : Nat} {z : Str} {Q : D → Prop} : Ok (notInD (.str (sg c)) (.str z)) Q ↔ Q (.bl (!decide (c ∈ z.cps.toList))) := ok_ok
theorem k_itS {x : Str} {Q : List D → Prop} : Ok (itemsD (.str x)) Q ↔ Q (x.cps.toList.map fun c => .str (sg c)) := ok_ok
/-- a comprehension whose items are not told one by one -/
theorem lc_any {ga : FG} {fe : FE} {S : M.Env} {P : D → Prop} : ∀ {ds : List D}, (∀ d ∈ ds, Ok (ga d S) fun S1 => Ok (fe S1) P) → Ok (lcF ga tY fe S ds) fun ys => ys.length = ds.length ∧ ∀ y ∈ ys, P y
  | [], _ => ok_ok.mpr ⟨rfl, by simp⟩
  | d :: ds, h => by
    obtain ⟨S1, e1, y, e2, py⟩ := h d (by simp)
    obtain ⟨ys, e3, l3, p3⟩ := lc_any (P := P) (ds := ds) fun x hx => h x (by simp [hx])
    refine ⟨y :: ys, ?_, by simp [l3], fun x hx => ?_⟩
    · show ((ga d S).nox >>= fun S1 => (tY S1).nox >>= fun b => if b then ((fe S1).nox >>= fun y => lcF ga tY fe S ds >>= fun ys => R.ok (y :: ys)) else lcF ga tY fe S ds) = _
      rw [e1, R.nox_ok, R.ok_bind]
      show (R.ok true).nox >>= _ = _
      rw [R.nox_ok, R.ok_bind, if_pos rfl, e2, R.nox_ok, R.ok_bind, e3, R.ok_bind]
    · rcases List.mem_cons.mp hx with rfl | hx
      · exact py
      · exact p3 x hx
theorem k_lcA {fi : FI} {ga : FG} {fe : FE} {vs : List Nat} {S : M.Env} {Q : D → Prop} {P : D → Prop} (n : Nat) (hn : n ≤ sizeLine) (hi : Ok (fi S) fun ds => ds.length = n ∧ ∀ d ∈ ds, Ok (ga d (wipeS S vs)) fun S1 => Ok (fe S1) P) (q : ∀ ys, ys.length = n → (∀ y ∈ ys, P y) → Q (.lst ys)) : Ok (lcE fi ga tY fe vs S) Q := by
  rw [k_lc]
  obtain ⟨ds, e, hl, h⟩ := hi
  refine ⟨ds, e, by omega, ?_⟩
  exact (lc_any h).mono fun ys ⟨l, p⟩ => q ys (by omega) p
theorem k_ext {i : Nat} {f : FE} {S : M.Env} {QS : Fl × M.Env → Prop} : Ok (sExt i f S) QS ↔ Ok (ownL i S) fun ds => Ok (f S) fun d => ∃ es, d = .lst es ∧ ds.length + es.length ≤ sizeLine ∧ QS (.nx, S.set i (some ⟨true, .lst (ds ++ es)⟩)) := by
  unfold sExt
  rw [ok_bind]
  apply iff_of_eq
  congr 1
  funext ds
  rw [ok_bind]
  congr 1
  funext d
  refine propext ?_
  cases d with
  | lst es =>
    simp only [ok_if, ok_ok]
    exact ⟨fun h => ⟨es, rfl, h.1, h.2⟩, fun ⟨es', e, h⟩ => by cases e; exact h⟩
  | _ => simp only [ok_fail]; exact ⟨False.elim, fun ⟨_, e, _⟩ => nomatch e⟩
theorem pass_if {t : FT} {s r : FS} {S : M.Env} {QS : Fl × M.Env → Prop} (h : Ok (t S) fun b => b = false) (k : Ok (r S) QS) : Ok (sSeq (sIf t s sNil) r S) QS := by
  refine seq_cut (fun S' => S' = S) ?_ (fun S' e => by rw [e]; exact k)
  rw [k_if]
  refine h.mono fun b hb => ?_
  subst hb
  (try simp only [↓k_guard, k_no, k_I, k_S, k_B, k_N, k_G, k_Y, k_V, k_W, k_O, g0_z, g0_s, gA_z, gA_s, g1_z, g1_s, k_1, k_2, k_n, k_c, k_T, k_L, k_C, k_f1, k_f2, k_App, k_M, k_P, k_3, k_tB, k_tT, k_toB, k_tNo, k_tA, k_tO, k_tY, k_And, k_Or, k_Not, k_eIf, k_nil, k_seq, k_set, k_own, k_drop, k_ret, k_retN, k_retO, k_if, k_fz, fz_z, fz_s, k_gN, k_gsN, k_gsC, k_gT, k_asg, k_for, k_fnil, k_fcons, k_app, oL_z, oL_s, k_par, k_run, k_runN, k_fld, oO_z, k_add, k_addL, k_sub, k_mul, k_div, k_mod, k_pow, k_neg, k_lt, k_le, k_gt, k_ge, k_eqI, k_neI, k_int, k_intB, k_abs, k_lenL, k_lenT, k_lenC, k_tru, k_tupL, k_tupT, k_items_l, k_items_t, k_rng1, k_ixL, k_ixT, k_ixC, k_fldD, ok_nox, ok_ok, ok_bind, List.set_cons_zero, List.set_cons_succ, startS, startN, List.map_cons, List.map_nil, List.cons_append, List.nil_append, List.append_nil, List.length_cons, List.length_nil, List.replicate, Nat.reduceSub, Nat.reduceAdd, Nat.reduceLeDiff, Nat.zero_add, true_and, and_true, false_implies, true_implies, implies_true, forall_const, reduceCtorEq, Bool.not_true, Bool.not_false, Bool.not_eq_true'])
theorem k_while {t : FT} {s : FS} {n : Nat} {S : M.Env} {QS : Fl × M.Env → Prop} : Ok (whileF t s (n + 1) S) QS ↔ Ok (t S) fun b => (b = true → Ok (s S) fun z => match z.1 with
    | .nx => Ok (whileF t s n z.2) QS
    | .ct => Ok (whileF t s n z.2) QS
    | .bk => QS (.nx, z.2)
    | .rt d => QS (.rt d, z.2)) ∧ (b = false → QS (.nx, S)) := by
  show Ok (t S >>= _) QS ↔ _
  rw [ok_bind]
  apply iff_of_eq
  congr 1
  funext b
  refine propext ?_
  rw [ok_b, ok_ok, ok_bind]
  apply iff_of_eq
  congr 3
  funext z
  obtain ⟨fl, S'⟩ := z
  cases fl <;> simp [ok_ok]
theorem k_aug {i : Nat} {o : D → D → R D} {f : FE} {S : M.Env} {QS : Fl × M.Env → Prop} : Ok (sAugI i o f S) QS ↔ Ok (eV i S) fun x => Ok (f S) fun y => bothI x y = true ∧ Ok (o x y) fun d => QS (.nx, S.set i (some ⟨false, d⟩)) := by
  unfold sAugI; simp only [ok_bind, ok_nox, ok_if, ok_ok]
theorem bothI_i {a b : Int} : bothI (.int a) (.int b) = true := rfl
end Pf
set_option Elab.async false
set_option linter.all false
set_option maxRecDepth 100000
namespace Pf
open M PySem L2
theorem p_cell (ns : List Int) (at_ : Int) (ha : 0 ≤ at_) : Ok (d__law_cell [.scr ns, .int at_]) fun d => ∃ z : Int, d = .int z := by
  unfold d__law_cell m__law_cell
  rw [ok_nox, k_run]
  (try simp only [↓k_guard, k_no, k_I, k_S, k_B, k_N, k_G, k_Y, k_V, k_W, k_O, g0_z, g0_s, gA_z, gA_s, g1_z, g1_s, k_1, k_2, k_n, k_c, k_T, k_L, k_C, k_f1, k_f2, k_App, k_M, k_P, k_3, k_tB, k_tT, k_toB, k_tNo, k_tA, k_tO, k_tY, k_And, k_Or, k_Not, k_eIf, k_nil, k_seq, k_set, k_own, k_drop, k_ret, k_retN, k_retO, k_if, k_fz, fz_z, fz_s, k_gN, k_gsN, k_gsC, k_gT, k_asg, k_for, k_fnil, k_fcons, k_app, oL_z, oL_s, k_par, k_run, k_runN, k_fld, oO_z, k_add, k_addL, k_sub, k_mul, k_div, k_mod, k_pow, k_neg, k_lt, k_le, k_gt, k_ge, k_eqI, k_neI, k_int, k_intB, k_abs, k_lenL, k_lenT, k_lenC, k_tru, k_tupL, k_tupT, k_items_l, k_items_t, k_rng1, k_ixL, k_ixT, k_ixC, k_fldD, ok_nox, ok_ok, ok_bind, List.set_cons_zero, List.set_cons_succ, startS, startN, List.map_cons, List.map_nil, List.cons_append, List.nil_append, List.append_nil, List.length_cons, List.length_nil, List.replicate, Nat.reduceSub, Nat.reduceAdd, Nat.reduceLeDiff, Nat.zero_add, true_and, and_true, false_implies, true_implies, implies_true, forall_const, reduceCtorEq, Bool.not_true, Bool.not_false, Bool.not_eq_true'])
  refine ⟨fun h => ?_, fun h => ⟨fun h2 => ⟨_, rfl⟩, fun h2 => ?_⟩⟩
  · obtain ⟨d, hd⟩ := atI_lt ha (of_decide_eq_true h)
    exact ⟨d, hd, _, rfl⟩
  · have h2 := of_decide_eq_false h2
    have hm := mod_b at_ (m := (ns.length : Int)) (by omega)
    obtain ⟨d, hd⟩ := atI_lt (xs := ns) (i := at_ % (ns.length : Int)) hm.1 hm.2
    exact ⟨by omega, d, hd, mul_l (by omega) (by omega), _, rfl⟩
theorem p_draws (ns : List Int) (at_ : Int) (cnt : Nat) (ha : 0 ≤ at_) (ha2 : at_ < 100) (hc : cnt ≤ 100) : Ok (d__law_draws [.scr ns, .int at_, .int cnt]) (drawn cnt) := by
  have hs := size_ge
  unfold d__law_draws m__law_draws
  rw [ok_nox, k_run]
  refine Ok.mono (P := fun z => ∃ d, z.1 = .rt d ∧ drawn cnt d) ?_ fun z ⟨d, e, h⟩ => by rw [e]; exact h
  refine seq_cut (fun S => ∃ cell : Int, S = [(some (Sl.mk false (.scr ns))), (some (Sl.mk false (.int at_))), (some (Sl.mk false (.int cnt))), (some (Sl.mk false (.int cell))), none, none, none, none]) ?_ ?_
  · (try simp only [↓k_guard, k_no, k_I, k_S, k_B, k_N, k_G, k_Y, k_V, k_W, k_O, g0_z, g0_s, gA_z, gA_s, g1_z, g1_s, k_1, k_2, k_n, k_c, k_T, k_L, k_C, k_f1, k_f2, k_App, k_M, k_P, k_3, k_tB, k_tT, k_toB, k_tNo, k_tA, k_tO, k_tY, k_And, k_Or, k_Not, k_eIf, k_nil, k_seq, k_set, k_own, k_drop, k_ret, k_retN, k_retO, k_if, k_fz, fz_z, fz_s, k_gN, k_gsN, k_gsC, k_gT, k_asg, k_for, k_fnil, k_fcons, k_app, oL_z, oL_s, k_par, k_run, k_runN, k_fld, oO_z, k_add, k_addL, k_sub, k_mul, k_div, k_mod, k_pow, k_neg, k_lt, k_le, k_gt, k_ge, k_eqI, k_neI, k_int, k_intB, k_abs, k_lenL, k_lenT, k_lenC, k_tru, k_tupL, k_tupT, k_items_l, k_items_t, k_rng1, k_ixL, k_ixT, k_ixC, k_fldD, ok_nox, ok_ok, ok_bind, List.set_cons_zero, List.set_cons_succ, startS, startN, List.map_cons, List.map_nil, List.cons_append, List.nil_append, List.append_nil, List.length_cons, List.length_nil, List.replicate, Nat.reduceSub, Nat.reduceAdd, Nat.reduceLeDiff, Nat.zero_add, true_and, and_true, false_implies, true_implies, implies_true, forall_const, reduceCtorEq, Bool.not_true, Bool.not_false, Bool.not_eq_true'])
    refine (p_cell ns at_ ha).mono ?_
    rintro d ⟨z, rfl⟩
    (try simp only [↓k_guard, k_no, k_I, k_S, k_B, k_N, k_G, k_Y, k_V, k_W, k_O, g0_z, g0_s, gA_z, gA_s, g1_z, g1_s, k_1, k_2, k_n, k_c, k_T, k_L, k_C, k_f1, k_f2, k_App, k_M, k_P, k_3, k_tB, k_tT, k_toB, k_tNo, k_tA, k_tO, k_tY, k_And, k_Or, k_Not, k_eIf, k_nil, k_seq, k_set, k_own, k_drop, k_ret, k_retN, k_retO, k_if, k_fz, fz_z, fz_s, k_gN, k_gsN, k_gsC, k_gT, k_asg, k_for, k_fnil, k_fcons, k_app, oL_z, oL_s, k_par, k_run, k_runN, k_fld, oO_z, k_add, k_addL, k_sub, k_mul, k_div, k_mod, k_pow, k_neg, k_lt, k_le, k_gt, k_ge, k_eqI, k_neI, k_int, k_intB, k_abs, k_lenL, k_lenT, k_lenC, k_tru, k_tupL, k_tupT, k_items_l, k_items_t, k_rng1, k_ixL, k_ixT, k_ixC, k_fldD, ok_nox, ok_ok, ok_bind, List.set_cons_zero, List.set_cons_succ, startS, startN, List.map_cons, List.map_nil, List.cons_append, List.nil_append, List.append_nil, List.length_cons, List.length_nil, List.replicate, Nat.reduceSub, Nat.reduceAdd, Nat.reduceLeDiff, Nat.zero_add, true_and, and_true, false_implies, true_implies, implies_true, forall_const, reduceCtorEq, Bool.not_true, Bool.not_false, Bool.not_eq_true'])
    exact ⟨_, rfl⟩
  rintro S ⟨cell, rfl⟩
  refine seq_cut (fun S => S = [(some (Sl.mk false (.scr ns))), (some (Sl.mk false (.int at_))), (some (Sl.mk false (.int cnt))), (some (Sl.mk false (.int cell))), (some (Sl.mk false (.int 0))), none, none, none]) (by (try simp only [↓k_guard, k_no, k_I, k_S, k_B, k_N, k_G, k_Y, k_V, k_W, k_O, g0_z, g0_s, gA_z, gA_s, g1_z, g1_s, k_1, k_2, k_n, k_c, k_T, k_L, k_C, k_f1, k_f2, k_App, k_M, k_P, k_3, k_tB, k_tT, k_toB, k_tNo, k_tA, k_tO, k_tY, k_And, k_Or, k_Not, k_eIf, k_nil, k_seq, k_set, k_own, k_drop, k_ret, k_retN, k_retO, k_if, k_fz, fz_z, fz_s, k_gN, k_gsN, k_gsC, k_gT, k_asg, k_for, k_fnil, k_fcons, k_app, oL_z, oL_s, k_par, k_run, k_runN, k_fld, oO_z, k_add, k_addL, k_sub, k_mul, k_div, k_mod, k_pow, k_neg, k_lt, k_le, k_gt, k_ge, k_eqI, k_neI, k_int, k_intB, k_abs, k_lenL, k_lenT, k_lenC, k_tru, k_tupL, k_tupT, k_items_l, k_items_t, k_rng1, k_ixL, k_ixT, k_ixC, k_fldD, ok_nox, ok_ok, ok_bind, List.set_cons_zero, List.set_cons_succ, startS, startN, List.map_cons, List.map_nil, List.cons_append, List.nil_append, List.append_nil, List.length_cons, List.length_nil, List.replicate, Nat.reduceSub, Nat.reduceAdd, Nat.reduceLeDiff, Nat.zero_add, true_and, and_true, false_implies, true_implies, implies_true, forall_const, reduceCtorEq, Bool.not_true, Bool.not_false, Bool.not_eq_true'])) ?_
  rintro S rfl
  refine seq_cut (fun S => ∃ rest : Int, S = [(some (Sl.mk false (.scr ns))), (some (Sl.mk false (.int at_))), (some (Sl.mk false (.int cnt))), (some (Sl.mk false (.int cell))), (some (Sl.mk false (.int rest))), none, none, none]) ?_ ?_
  · (try simp only [↓k_guard, k_no, k_I, k_S, k_B, k_N, k_G, k_Y, k_V, k_W, k_O, g0_z, g0_s, gA_z, gA_s, g1_z, g1_s, k_1, k_2, k_n, k_c, k_T, k_L, k_C, k_f1, k_f2, k_App, k_M, k_P, k_3, k_tB, k_tT, k_toB, k_tNo, k_tA, k_tO, k_tY, k_And, k_Or, k_Not, k_eIf, k_nil, k_seq, k_set, k_own, k_drop, k_ret, k_retN, k_retO, k_if, k_fz, fz_z, fz_s, k_gN, k_gsN, k_gsC, k_gT, k_asg, k_for, k_fnil, k_fcons, k_app, oL_z, oL_s, k_par, k_run, k_runN, k_fld, oO_z, k_add, k_addL, k_sub, k_mul, k_div, k_mod, k_pow, k_neg, k_lt, k_le, k_gt, k_ge, k_eqI, k_neI, k_int, k_intB, k_abs, k_lenL, k_lenT, k_lenC, k_tru, k_tupL, k_tupT, k_items_l, k_items_t, k_rng1, k_ixL, k_ixT, k_ixC, k_fldD, ok_nox, ok_ok, ok_bind, List.set_cons_zero, List.set_cons_succ, startS, startN, List.map_cons, List.map_nil, List.cons_append, List.nil_append, List.append_nil, List.length_cons, List.length_nil, List.replicate, Nat.reduceSub, Nat.reduceAdd, Nat.reduceLeDiff, Nat.zero_add, true_and, and_true, false_implies, true_implies, implies_true, forall_const, reduceCtorEq, Bool.not_true, Bool.not_false, Bool.not_eq_true'])
    exact ⟨⟨by omega, by omega, by decide⟩, fun _ => ⟨⟨by omega, by omega, by decide⟩, _, rfl⟩, fun _ => ⟨_, rfl⟩⟩
  rintro S ⟨rest, rfl⟩
  refine seq_cut (fun S => S = [(some (Sl.mk false (.scr ns))), (some (Sl.mk false (.int at_))), (some (Sl.mk false (.int cnt))), (some (Sl.mk false (.int cell))), (some (Sl.mk false (.int rest))), (some (Sl.mk true (.lst []))), none, none]) (by (try simp only [↓k_guard, k_no, k_I, k_S, k_B, k_N, k_G, k_Y, k_V, k_W, k_O, g0_z, g0_s, gA_z, gA_s, g1_z, g1_s, k_1, k_2, k_n, k_c, k_T, k_L, k_C, k_f1, k_f2, k_App, k_M, k_P, k_3, k_tB, k_tT, k_toB, k_tNo, k_tA, k_tO, k_tY, k_And, k_Or, k_Not, k_eIf, k_nil, k_seq, k_set, k_own, k_drop, k_ret, k_retN, k_retO, k_if, k_fz, fz_z, fz_s, k_gN, k_gsN, k_gsC, k_gT, k_asg, k_for, k_fnil, k_fcons, k_app, oL_z, oL_s, k_par, k_run, k_runN, k_fld, oO_z, k_add, k_addL, k_sub, k_mul, k_div, k_mod, k_pow, k_neg, k_lt, k_le, k_gt, k_ge, k_eqI, k_neI, k_int, k_intB, k_abs, k_lenL, k_lenT, k_lenC, k_tru, k_tupL, k_tupT, k_items_l, k_items_t, k_rng1, k_ixL, k_ixT, k_ixC, k_fldD, ok_nox, ok_ok, ok_bind, List.set_cons_zero, List.set_cons_succ, startS, startN, List.map_cons, List.map_nil, List.cons_append, List.nil_append, List.append_nil, List.length_cons, List.length_nil, List.replicate, Nat.reduceSub, Nat.reduceAdd, Nat.reduceLeDiff, Nat.zero_add, true_and, and_true, false_implies, true_implies, implies_true, forall_const, reduceCtorEq, Bool.not_true, Bool.not_false, Bool.not_eq_true']); omega) ?_
  rintro S rfl
  refine seq_cut (fun S => ∃ (l : List Int) (r a b : Option Sl), (l.length = cnt ∧ ∀ x ∈ l, 0 ≤ x ∧ x < 720720) ∧ S = [(some (Sl.mk false (.scr ns))), (some (Sl.mk false (.int at_))), (some (Sl.mk false (.int cnt))), (some (Sl.mk false (.int cell))), r, (some (Sl.mk true (.lst (l.map .int)))), a, b]) ?_ ?_
  · (try simp only [↓k_guard, k_no, k_I, k_S, k_B, k_N, k_G, k_Y, k_V, k_W, k_O, g0_z, g0_s, gA_z, gA_s, g1_z, g1_s, k_1, k_2, k_n, k_c, k_T, k_L, k_C, k_f1, k_f2, k_App, k_M, k_P, k_3, k_tB, k_tT, k_toB, k_tNo, k_tA, k_tO, k_tY, k_And, k_Or, k_Not, k_eIf, k_nil, k_seq, k_set, k_own, k_drop, k_ret, k_retN, k_retO, k_if, k_fz, fz_z, fz_s, k_gN, k_gsN, k_gsC, k_gT, k_asg, k_for, k_fnil, k_fcons, k_app, oL_z, oL_s, k_par, k_run, k_runN, k_fld, oO_z, k_add, k_addL, k_sub, k_mul, k_div, k_mod, k_pow, k_neg, k_lt, k_le, k_gt, k_ge, k_eqI, k_neI, k_int, k_intB, k_abs, k_lenL, k_lenT, k_lenC, k_tru, k_tupL, k_tupT, k_items_l, k_items_t, k_rng1, k_ixL, k_ixT, k_ixC, k_fldD, ok_nox, ok_ok, ok_bind, List.set_cons_zero, List.set_cons_succ, startS, startN, List.map_cons, List.map_nil, List.cons_append, List.nil_append, List.append_nil, List.length_cons, List.length_nil, List.replicate, Nat.reduceSub, Nat.reduceAdd, Nat.reduceLeDiff, Nat.zero_add, true_and, and_true, false_implies, true_implies, implies_true, forall_const, reduceCtorEq, Bool.not_true, Bool.not_false, Bool.not_eq_true'])
    refine ⟨⟨by omega, by omega⟩, ?_⟩
    refine for_inv (fun i S => ∃ (l : List Int) (rest : Int) (a b : Option Sl), (l.length = i ∧ ∀ x ∈ l, 0 ≤ x ∧ x < 720720) ∧ S = [(some (Sl.mk false (.scr ns))), (some (Sl.mk false (.int at_))), (some (Sl.mk false (.int cnt))), (some (Sl.mk false (.int cell))), (some (Sl.mk false (.int rest))), (some (Sl.mk true (.lst (l.map .int)))), a, b]) _ 0 _ ⟨[], rest, none, none, ⟨rfl, by simp⟩, rfl⟩ ?_ ?_
    · rintro i d S hd ⟨l, rest, a, b, hl, rfl⟩
      obtain ⟨hi, rfl⟩ := rngL_get hd
      simp only [Int.toNat_natCast] at hi
      rw [Nat.zero_add] at hl
      have hll : (l.map D.int).length < sizeLine := by rw [List.length_map, hl.1]; omega
      (try simp only [↓k_guard, k_no, k_I, k_S, k_B, k_N, k_G, k_Y, k_V, k_W, k_O, g0_z, g0_s, gA_z, gA_s, g1_z, g1_s, k_1, k_2, k_n, k_c, k_T, k_L, k_C, k_f1, k_f2, k_App, k_M, k_P, k_3, k_tB, k_tT, k_toB, k_tNo, k_tA, k_tO, k_tY, k_And, k_Or, k_Not, k_eIf, k_nil, k_seq, k_set, k_own, k_drop, k_ret, k_retN, k_retO, k_if, k_fz, fz_z, fz_s, k_gN, k_gsN, k_gsC, k_gT, k_asg, k_for, k_fnil, k_fcons, k_app, oL_z, oL_s, k_par, k_run, k_runN, k_fld, oO_z, k_add, k_addL, k_sub, k_mul, k_div, k_mod, k_pow, k_neg, k_lt, k_le, k_gt, k_ge, k_eqI, k_neI, k_int, k_intB, k_abs, k_lenL, k_lenT, k_lenC, k_tru, k_tupL, k_tupT, k_items_l, k_items_t, k_rng1, k_ixL, k_ixT, k_ixC, k_fldD, ok_nox, ok_ok, ok_bind, List.set_cons_zero, List.set_cons_succ, startS, startN, List.map_cons, List.map_nil, List.cons_append, List.nil_append, List.append_nil, List.length_cons, List.length_nil, List.replicate, Nat.reduceSub, Nat.reduceAdd, Nat.reduceLeDiff, Nat.zero_add, true_and, and_true, false_implies, true_implies, implies_true, forall_const, reduceCtorEq, Bool.not_true, Bool.not_false, Bool.not_eq_true'])
      refine ⟨fun h1 => ⟨by omega, hll, div_c (by omega) (by omega), l ++ [rest % 60], _, _, _, drawn.snoc hl ?_, by rw [List.map_append]; rfl⟩, fun h1 => ?_⟩
      · have := mod_b rest (m := 60) (by omega); omega
      · refine ⟨mul_r (by omega) (by omega), mul_l (by omega) (by omega), mul_l (by omega) (by omega), by omega, ?_⟩
        have m1 := mod_b (cell * 48271 + (0 + (i : Int)) * 69621 + at_ * 7919 + 12345) (m := 2147483647) (by omega)
        generalize (cell * 48271 + (0 + (i : Int)) * 69621 + at_ * 7919 + 12345) % 2147483647 = x1 at m1
        refine ⟨mul_l (by omega) (by omega), div_c (by omega) (by omega), mul_l (by omega) (by omega), by omega, ?_⟩
        generalize (x1 * 40692 + x1 / 127 + (0 + (i : Int)) * 101) % 2147483399 = x3
        have m4 := mod_b (x3 / 11) (m := 60) (by omega)
        exact ⟨div_c (by omega) (by omega), by omega, hll, l ++ [x3 / 11 % 60], _, _, _, drawn.snoc hl ⟨by omega, by omega⟩, by rw [List.map_append]; rfl⟩
    · rintro S ⟨l, rest, a, b, hl, rfl⟩
      rw [rngL_len, Nat.zero_add, Int.toNat_natCast] at hl
      exact ⟨rfl, l, _, a, b, hl, rfl⟩
  rintro S ⟨l, r, a, b, hl, rfl⟩
  (try simp only [↓k_guard, k_no, k_I, k_S, k_B, k_N, k_G, k_Y, k_V, k_W, k_O, g0_z, g0_s, gA_z, gA_s, g1_z, g1_s, k_1, k_2, k_n, k_c, k_T, k_L, k_C, k_f1, k_f2, k_App, k_M, k_P, k_3, k_tB, k_tT, k_toB, k_tNo, k_tA, k_tO, k_tY, k_And, k_Or, k_Not, k_eIf, k_nil, k_seq, k_set, k_own, k_drop, k_ret, k_retN, k_retO, k_if, k_fz, fz_z, fz_s, k_gN, k_gsN, k_gsC, k_gT, k_asg, k_for, k_fnil, k_fcons, k_app, oL_z, oL_s, k_par, k_run, k_runN, k_fld, oO_z, k_add, k_addL, k_sub, k_mul, k_div, k_mod, k_pow, k_neg, k_lt, k_le, k_gt, k_ge, k_eqI, k_neI, k_int, k_intB, k_abs, k_lenL, k_lenT, k_lenC, k_tru, k_tupL, k_tupT, k_items_l, k_items_t, k_rng1, k_ixL, k_ixT, k_ixC, k_fldD, ok_nox, ok_ok, ok_bind, List.set_cons_zero, List.set_cons_succ, startS, startN, List.map_cons, List.map_nil, List.cons_append, List.nil_append, List.append_nil, List.length_cons, List.length_nil, List.replicate, Nat.reduceSub, Nat.reduceAdd, Nat.reduceLeDiff, Nat.zero_add, true_and, and_true, false_implies, true_implies, implies_true, forall_const, reduceCtorEq, Bool.not_true, Bool.not_false, Bool.not_eq_true'])
  exact ⟨_, rfl, l, rfl, hl.1, hl.2⟩
structure RowT where
  bit : Int
  cs : List Int
  ran : Int
  more : Int
structure RowT.Ok (r : RowT) : Prop where
  b : r.bit = 0 ∨ r.bit = 1
  l : r.cs.length ≤ 3
  c : ∀ c ∈ r.cs, c = -1 ∨ c = 0 ∨ c = 1
  n : r.ran = -1 ∨ r.ran = 0 ∨ r.ran = 1 ∨ r.ran = 2
  m : r.more = 0 ∨ r.more = 1
def csD (cs : List Int) : D := .tup (cs.map .int)
def rowD (r : RowT) : D := .tup [.int r.bit, csD r.cs, .int r.ran, .int r.more]
def jD (r : RowT) (gs : List D) : D := .tup [rowD r, .tup gs]
theorem p_entries (n : Int) (h0 : 0 ≤ n) (h1 : n < 40) : Ok (d__law_entries [.int n]) fun d => ∃ cs : List Int, d = csD cs ∧ cs.length ≤ 3 ∧ ∀ c ∈ cs, c = -1 ∨ c = 0 ∨ c = 1 := by
  have hs := size_ge
  unfold d__law_entries m__law_entries
  rw [ok_nox, k_run]
  refine Ok.mono (P := fun z => ∃ d, z.1 = .rt d ∧ ∃ cs : List Int, d = csD cs ∧ cs.length ≤ 3 ∧ ∀ c ∈ cs, c = -1 ∨ c = 0 ∨ c = 1) ?_ fun z ⟨d, e, h⟩ => by rw [e]; exact h
  refine seq_cut (fun S => ∃ k : Nat, k ≤ 3 ∧ S = [(some (Sl.mk false (.int n))), (some (Sl.mk false (.int k))), none, none, none, none]) ?_ ?_
  · rw [k_set, k_C, k_c]
    refine k_lcT (fun x : Int => D.int x) (fun x => decide (x ≤ n)) (fun x : Int => .int x) [1, 4, 13] (by (try simp only [↓k_guard, k_no, k_I, k_S, k_B, k_N, k_G, k_Y, k_V, k_W, k_O, g0_z, g0_s, gA_z, gA_s, g1_z, g1_s, k_1, k_2, k_n, k_c, k_T, k_L, k_C, k_f1, k_f2, k_App, k_M, k_P, k_3, k_tB, k_tT, k_toB, k_tNo, k_tA, k_tO, k_tY, k_And, k_Or, k_Not, k_eIf, k_nil, k_seq, k_set, k_own, k_drop, k_ret, k_retN, k_retO, k_if, k_fz, fz_z, fz_s, k_gN, k_gsN, k_gsC, k_gT, k_asg, k_for, k_fnil, k_fcons, k_app, oL_z, oL_s, k_par, k_run, k_runN, k_fld, oO_z, k_add, k_addL, k_sub, k_mul, k_div, k_mod, k_pow, k_neg, k_lt, k_le, k_gt, k_ge, k_eqI, k_neI, k_int, k_intB, k_abs, k_lenL, k_lenT, k_lenC, k_tru, k_tupL, k_tupT, k_items_l, k_items_t, k_rng1, k_ixL, k_ixT, k_ixC, k_fldD, ok_nox, ok_ok, ok_bind, List.set_cons_zero, List.set_cons_succ, startS, startN, List.map_cons, List.map_nil, List.cons_append, List.nil_append, List.append_nil, List.length_cons, List.length_nil, List.replicate, Nat.reduceSub, Nat.reduceAdd, Nat.reduceLeDiff, Nat.zero_add, true_and, and_true, false_implies, true_implies, implies_true, forall_const, reduceCtorEq, Bool.not_true, Bool.not_false, Bool.not_eq_true']); omega) (by simp; omega) (by intro x hx; (try simp only [↓k_guard, k_no, k_I, k_S, k_B, k_N, k_G, k_Y, k_V, k_W, k_O, g0_z, g0_s, gA_z, gA_s, g1_z, g1_s, k_1, k_2, k_n, k_c, k_T, k_L, k_C, k_f1, k_f2, k_App, k_M, k_P, k_3, k_tB, k_tT, k_toB, k_tNo, k_tA, k_tO, k_tY, k_And, k_Or, k_Not, k_eIf, k_nil, k_seq, k_set, k_own, k_drop, k_ret, k_retN, k_retO, k_if, k_fz, fz_z, fz_s, k_gN, k_gsN, k_gsC, k_gT, k_asg, k_for, k_fnil, k_fcons, k_app, oL_z, oL_s, k_par, k_run, k_runN, k_fld, oO_z, k_add, k_addL, k_sub, k_mul, k_div, k_mod, k_pow, k_neg, k_lt, k_le, k_gt, k_ge, k_eqI, k_neI, k_int, k_intB, k_abs, k_lenL, k_lenT, k_lenC, k_tru, k_tupL, k_tupT, k_items_l, k_items_t, k_rng1, k_ixL, k_ixT, k_ixC, k_fldD, ok_nox, ok_ok, ok_bind, List.set_cons_zero, List.set_cons_succ, startS, startN, List.map_cons, List.map_nil, List.cons_append, List.nil_append, List.append_nil, List.length_cons, List.length_nil, List.replicate, Nat.reduceSub, Nat.reduceAdd, Nat.reduceLeDiff, Nat.zero_add, true_and, and_true, false_implies, true_implies, implies_true, forall_const, reduceCtorEq, Bool.not_true, Bool.not_false, Bool.not_eq_true', wipeS])) ?_
    (try simp only [↓k_guard, k_no, k_I, k_S, k_B, k_N, k_G, k_Y, k_V, k_W, k_O, g0_z, g0_s, gA_z, gA_s, g1_z, g1_s, k_1, k_2, k_n, k_c, k_T, k_L, k_C, k_f1, k_f2, k_App, k_M, k_P, k_3, k_tB, k_tT, k_toB, k_tNo, k_tA, k_tO, k_tY, k_And, k_Or, k_Not, k_eIf, k_nil, k_seq, k_set, k_own, k_drop, k_ret, k_retN, k_retO, k_if, k_fz, fz_z, fz_s, k_gN, k_gsN, k_gsC, k_gT, k_asg, k_for, k_fnil, k_fcons, k_app, oL_z, oL_s, k_par, k_run, k_runN, k_fld, oO_z, k_add, k_addL, k_sub, k_mul, k_div, k_mod, k_pow, k_neg, k_lt, k_le, k_gt, k_ge, k_eqI, k_neI, k_int, k_intB, k_abs, k_lenL, k_lenT, k_lenC, k_tru, k_tupL, k_tupT, k_items_l, k_items_t, k_rng1, k_ixL, k_ixT, k_ixC, k_fldD, ok_nox, ok_ok, ok_bind, List.set_cons_zero, List.set_cons_succ, startS, startN, List.map_cons, List.map_nil, List.cons_append, List.nil_append, List.append_nil, List.length_cons, List.length_nil, List.replicate, Nat.reduceSub, Nat.reduceAdd, Nat.reduceLeDiff, Nat.zero_add, true_and, and_true, false_implies, true_implies, implies_true, forall_const, reduceCtorEq, Bool.not_true, Bool.not_false, Bool.not_eq_true', List.length_map])
    have : (([1, 4, 13] : List Int).filter fun x => decide (x ≤ n)).length ≤ 3 := List.length_filter_le ..
    exact ⟨_, this, rfl⟩
  rintro S ⟨k, hk, rfl⟩
  refine seq_cut (fun S => ∃ r : Int, S = [(some (Sl.mk false (.int n))), (some (Sl.mk false (.int k))), (some (Sl.mk false (.int r))), none, none, none]) ?_ ?_
  · (try simp only [↓k_guard, k_no, k_I, k_S, k_B, k_N, k_G, k_Y, k_V, k_W, k_O, g0_z, g0_s, gA_z, gA_s, g1_z, g1_s, k_1, k_2, k_n, k_c, k_T, k_L, k_C, k_f1, k_f2, k_App, k_M, k_P, k_3, k_tB, k_tT, k_toB, k_tNo, k_tA, k_tO, k_tY, k_And, k_Or, k_Not, k_eIf, k_nil, k_seq, k_set, k_own, k_drop, k_ret, k_retN, k_retO, k_if, k_fz, fz_z, fz_s, k_gN, k_gsN, k_gsC, k_gT, k_asg, k_for, k_fnil, k_fcons, k_app, oL_z, oL_s, k_par, k_run, k_runN, k_fld, oO_z, k_add, k_addL, k_sub, k_mul, k_div, k_mod, k_pow, k_neg, k_lt, k_le, k_gt, k_ge, k_eqI, k_neI, k_int, k_intB, k_abs, k_lenL, k_lenT, k_lenC, k_tru, k_tupL, k_tupT, k_items_l, k_items_t, k_rng1, k_ixL, k_ixT, k_ixC, k_fldD, ok_nox, ok_ok, ok_bind, List.set_cons_zero, List.set_cons_succ, startS, startN, List.map_cons, List.map_nil, List.cons_append, List.nil_append, List.append_nil, List.length_cons, List.length_nil, List.replicate, Nat.reduceSub, Nat.reduceAdd, Nat.reduceLeDiff, Nat.zero_add, true_and, and_true, false_implies, true_implies, implies_true, forall_const, reduceCtorEq, Bool.not_true, Bool.not_false, Bool.not_eq_true'])
    refine ⟨by omega, ?_⟩
    obtain ⟨d, hd⟩ := atI_lt (xs := ([0, 1, 4, 13] : List Int).map D.int) (i := (k : Int)) (by omega) (by simp; omega)
    obtain ⟨e, he, rfl⟩ := List.mem_map.mp (atI_mem hd)
    exact ⟨_, hd, by (try simp only [↓k_guard, k_no, k_I, k_S, k_B, k_N, k_G, k_Y, k_V, k_W, k_O, g0_z, g0_s, gA_z, gA_s, g1_z, g1_s, k_1, k_2, k_n, k_c, k_T, k_L, k_C, k_f1, k_f2, k_App, k_M, k_P, k_3, k_tB, k_tT, k_toB, k_tNo, k_tA, k_tO, k_tY, k_And, k_Or, k_Not, k_eIf, k_nil, k_seq, k_set, k_own, k_drop, k_ret, k_retN, k_retO, k_if, k_fz, fz_z, fz_s, k_gN, k_gsN, k_gsC, k_gT, k_asg, k_for, k_fnil, k_fcons, k_app, oL_z, oL_s, k_par, k_run, k_runN, k_fld, oO_z, k_add, k_addL, k_sub, k_mul, k_div, k_mod, k_pow, k_neg, k_lt, k_le, k_gt, k_ge, k_eqI, k_neI, k_int, k_intB, k_abs, k_lenL, k_lenT, k_lenC, k_tru, k_tupL, k_tupT, k_items_l, k_items_t, k_rng1, k_ixL, k_ixT, k_ixC, k_fldD, ok_nox, ok_ok, ok_bind, List.set_cons_zero, List.set_cons_succ, startS, startN, List.map_cons, List.map_nil, List.cons_append, List.nil_append, List.append_nil, List.length_cons, List.length_nil, List.replicate, Nat.reduceSub, Nat.reduceAdd, Nat.reduceLeDiff, Nat.zero_add, true_and, and_true, false_implies, true_implies, implies_true, forall_const, reduceCtorEq, Bool.not_true, Bool.not_false, Bool.not_eq_true']); exact ⟨_, rfl⟩⟩
  rintro S ⟨r, rfl⟩
  refine seq_cut (fun S => S = [(some (Sl.mk false (.int n))), (some (Sl.mk false (.int k))), (some (Sl.mk false (.int r))), (some (Sl.mk true (.lst []))), none, none]) (by (try simp only [↓k_guard, k_no, k_I, k_S, k_B, k_N, k_G, k_Y, k_V, k_W, k_O, g0_z, g0_s, gA_z, gA_s, g1_z, g1_s, k_1, k_2, k_n, k_c, k_T, k_L, k_C, k_f1, k_f2, k_App, k_M, k_P, k_3, k_tB, k_tT, k_toB, k_tNo, k_tA, k_tO, k_tY, k_And, k_Or, k_Not, k_eIf, k_nil, k_seq, k_set, k_own, k_drop, k_ret, k_retN, k_retO, k_if, k_fz, fz_z, fz_s, k_gN, k_gsN, k_gsC, k_gT, k_asg, k_for, k_fnil, k_fcons, k_app, oL_z, oL_s, k_par, k_run, k_runN, k_fld, oO_z, k_add, k_addL, k_sub, k_mul, k_div, k_mod, k_pow, k_neg, k_lt, k_le, k_gt, k_ge, k_eqI, k_neI, k_int, k_intB, k_abs, k_lenL, k_lenT, k_lenC, k_tru, k_tupL, k_tupT, k_items_l, k_items_t, k_rng1, k_ixL, k_ixT, k_ixC, k_fldD, ok_nox, ok_ok, ok_bind, List.set_cons_zero, List.set_cons_succ, startS, startN, List.map_cons, List.map_nil, List.cons_append, List.nil_append, List.append_nil, List.length_cons, List.length_nil, List.replicate, Nat.reduceSub, Nat.reduceAdd, Nat.reduceLeDiff, Nat.zero_add, true_and, and_true, false_implies, true_implies, implies_true, forall_const, reduceCtorEq, Bool.not_true, Bool.not_false, Bool.not_eq_true']); omega) ?_
  rintro S rfl
  refine seq_cut (fun S => ∃ (cs : List Int) (a b : Option Sl), cs.length = k ∧ (∀ c ∈ cs, c = -1 ∨ c = 0 ∨ c = 1) ∧ S = [(some (Sl.mk false (.int n))), (some (Sl.mk false (.int k))), a, (some (Sl.mk true (.lst (cs.map .int)))), b, none]) ?_ ?_
  · (try simp only [↓k_guard, k_no, k_I, k_S, k_B, k_N, k_G, k_Y, k_V, k_W, k_O, g0_z, g0_s, gA_z, gA_s, g1_z, g1_s, k_1, k_2, k_n, k_c, k_T, k_L, k_C, k_f1, k_f2, k_App, k_M, k_P, k_3, k_tB, k_tT, k_toB, k_tNo, k_tA, k_tO, k_tY, k_And, k_Or, k_Not, k_eIf, k_nil, k_seq, k_set, k_own, k_drop, k_ret, k_retN, k_retO, k_if, k_fz, fz_z, fz_s, k_gN, k_gsN, k_gsC, k_gT, k_asg, k_for, k_fnil, k_fcons, k_app, oL_z, oL_s, k_par, k_run, k_runN, k_fld, oO_z, k_add, k_addL, k_sub, k_mul, k_div, k_mod, k_pow, k_neg, k_lt, k_le, k_gt, k_ge, k_eqI, k_neI, k_int, k_intB, k_abs, k_lenL, k_lenT, k_lenC, k_tru, k_tupL, k_tupT, k_items_l, k_items_t, k_rng1, k_ixL, k_ixT, k_ixC, k_fldD, ok_nox, ok_ok, ok_bind, List.set_cons_zero, List.set_cons_succ, startS, startN, List.map_cons, List.map_nil, List.cons_append, List.nil_append, List.append_nil, List.length_cons, List.length_nil, List.replicate, Nat.reduceSub, Nat.reduceAdd, Nat.reduceLeDiff, Nat.zero_add, true_and, and_true, false_implies, true_implies, implies_true, forall_const, reduceCtorEq, Bool.not_true, Bool.not_false, Bool.not_eq_true'])
    refine ⟨⟨by omega, by omega⟩, ?_⟩
    refine for_inv (fun i S => ∃ (cs : List Int) (r : Int) (b : Option Sl), cs.length = i ∧ (∀ c ∈ cs, c = -1 ∨ c = 0 ∨ c = 1) ∧ S = [(some (Sl.mk false (.int n))), (some (Sl.mk false (.int k))), (some (Sl.mk false (.int r))), (some (Sl.mk true (.lst (cs.map .int)))), b, none]) _ 0 _ ⟨[], r, none, rfl, by simp, rfl⟩ ?_ ?_
    · rintro i d S hd ⟨cs, r, b, hl, hm, rfl⟩
      obtain ⟨hi, rfl⟩ := rngL_get hd
      simp only [Int.toNat_natCast] at hi
      rw [Nat.zero_add] at hl
      have m := mod_b r (m := 3) (by omega)
      (try simp only [↓k_guard, k_no, k_I, k_S, k_B, k_N, k_G, k_Y, k_V, k_W, k_O, g0_z, g0_s, gA_z, gA_s, g1_z, g1_s, k_1, k_2, k_n, k_c, k_T, k_L, k_C, k_f1, k_f2, k_App, k_M, k_P, k_3, k_tB, k_tT, k_toB, k_tNo, k_tA, k_tO, k_tY, k_And, k_Or, k_Not, k_eIf, k_nil, k_seq, k_set, k_own, k_drop, k_ret, k_retN, k_retO, k_if, k_fz, fz_z, fz_s, k_gN, k_gsN, k_gsC, k_gT, k_asg, k_for, k_fnil, k_fcons, k_app, oL_z, oL_s, k_par, k_run, k_runN, k_fld, oO_z, k_add, k_addL, k_sub, k_mul, k_div, k_mod, k_pow, k_neg, k_lt, k_le, k_gt, k_ge, k_eqI, k_neI, k_int, k_intB, k_abs, k_lenL, k_lenT, k_lenC, k_tru, k_tupL, k_tupT, k_items_l, k_items_t, k_rng1, k_ixL, k_ixT, k_ixC, k_fldD, ok_nox, ok_ok, ok_bind, List.set_cons_zero, List.set_cons_succ, startS, startN, List.map_cons, List.map_nil, List.cons_append, List.nil_append, List.append_nil, List.length_cons, List.length_nil, List.replicate, Nat.reduceSub, Nat.reduceAdd, Nat.reduceLeDiff, Nat.zero_add, true_and, and_true, false_implies, true_implies, implies_true, forall_const, reduceCtorEq, Bool.not_true, Bool.not_false, Bool.not_eq_true'])
      refine ⟨by omega, by rw [List.length_map]; omega, div_c (by omega) (by omega), cs ++ [r % 3 - 1], _, _, by simp [hl], ?_, by rw [List.map_append]; rfl⟩
      intro c hc
      rcases List.mem_append.mp hc with h | h
      · exact hm c h
      · rw [List.mem_singleton] at h; subst h; omega
    · rintro S ⟨cs, r, b, hl, hm, rfl⟩
      rw [rngL_len, Nat.zero_add, Int.toNat_natCast] at hl
      exact ⟨rfl, cs, _, b, hl, hm, rfl⟩
  rintro S ⟨cs, a, b, hl, hm, rfl⟩
  (try simp only [↓k_guard, k_no, k_I, k_S, k_B, k_N, k_G, k_Y, k_V, k_W, k_O, g0_z, g0_s, gA_z, gA_s, g1_z, g1_s, k_1, k_2, k_n, k_c, k_T, k_L, k_C, k_f1, k_f2, k_App, k_M, k_P, k_3, k_tB, k_tT, k_toB, k_tNo, k_tA, k_tO, k_tY, k_And, k_Or, k_Not, k_eIf, k_nil, k_seq, k_set, k_own, k_drop, k_ret, k_retN, k_retO, k_if, k_fz, fz_z, fz_s, k_gN, k_gsN, k_gsC, k_gT, k_asg, k_for, k_fnil, k_fcons, k_app, oL_z, oL_s, k_par, k_run, k_runN, k_fld, oO_z, k_add, k_addL, k_sub, k_mul, k_div, k_mod, k_pow, k_neg, k_lt, k_le, k_gt, k_ge, k_eqI, k_neI, k_int, k_intB, k_abs, k_lenL, k_lenT, k_lenC, k_tru, k_tupL, k_tupT, k_items_l, k_items_t, k_rng1, k_ixL, k_ixT, k_ixC, k_fldD, ok_nox, ok_ok, ok_bind, List.set_cons_zero, List.set_cons_succ, startS, startN, List.map_cons, List.map_nil, List.cons_append, List.nil_append, List.append_nil, List.length_cons, List.length_nil, List.replicate, Nat.reduceSub, Nat.reduceAdd, Nat.reduceLeDiff, Nat.zero_add, true_and, and_true, false_implies, true_implies, implies_true, forall_const, reduceCtorEq, Bool.not_true, Bool.not_false, Bool.not_eq_true'])
  exact ⟨_, rfl, cs, rfl, by omega, hm⟩
theorem p_row (a b : Int) (ha : 0 ≤ a) : Ok (d__law_row [.int a, .int b]) fun d => ∃ r : RowT, r.Ok ∧ d = rowD r := by
  have hs := size_ge
  unfold d__law_row m__law_row
  rw [ok_nox, k_run]
  have m1 := mod_b a (m := 2) (by omega)
  have m2 := mod_b b (m := 40) (by omega)
  have m3 := mod_b (a / 2) (m := 4) (by omega)
  have m4 := mod_b (a / 8) (m := 2) (by omega)
  (try simp only [↓k_guard, k_no, k_I, k_S, k_B, k_N, k_G, k_Y, k_V, k_W, k_O, g0_z, g0_s, gA_z, gA_s, g1_z, g1_s, k_1, k_2, k_n, k_c, k_T, k_L, k_C, k_f1, k_f2, k_App, k_M, k_P, k_3, k_tB, k_tT, k_toB, k_tNo, k_tA, k_tO, k_tY, k_And, k_Or, k_Not, k_eIf, k_nil, k_seq, k_set, k_own, k_drop, k_ret, k_retN, k_retO, k_if, k_fz, fz_z, fz_s, k_gN, k_gsN, k_gsC, k_gT, k_asg, k_for, k_fnil, k_fcons, k_app, oL_z, oL_s, k_par, k_run, k_runN, k_fld, oO_z, k_add, k_addL, k_sub, k_mul, k_div, k_mod, k_pow, k_neg, k_lt, k_le, k_gt, k_ge, k_eqI, k_neI, k_int, k_intB, k_abs, k_lenL, k_lenT, k_lenC, k_tru, k_tupL, k_tupT, k_items_l, k_items_t, k_rng1, k_ixL, k_ixT, k_ixC, k_fldD, ok_nox, ok_ok, ok_bind, List.set_cons_zero, List.set_cons_succ, startS, startN, List.map_cons, List.map_nil, List.cons_append, List.nil_append, List.append_nil, List.length_cons, List.length_nil, List.replicate, Nat.reduceSub, Nat.reduceAdd, Nat.reduceLeDiff, Nat.zero_add, true_and, and_true, false_implies, true_implies, implies_true, forall_const, reduceCtorEq, Bool.not_true, Bool.not_false, Bool.not_eq_true'])
  refine ⟨by omega, by omega, ?_⟩
  refine (p_entries (b % 40) m2.1 m2.2).mono ?_
  rintro d ⟨cs, rfl, hl, hc⟩
  (try simp only [↓k_guard, k_no, k_I, k_S, k_B, k_N, k_G, k_Y, k_V, k_W, k_O, g0_z, g0_s, gA_z, gA_s, g1_z, g1_s, k_1, k_2, k_n, k_c, k_T, k_L, k_C, k_f1, k_f2, k_App, k_M, k_P, k_3, k_tB, k_tT, k_toB, k_tNo, k_tA, k_tO, k_tY, k_And, k_Or, k_Not, k_eIf, k_nil, k_seq, k_set, k_own, k_drop, k_ret, k_retN, k_retO, k_if, k_fz, fz_z, fz_s, k_gN, k_gsN, k_gsC, k_gT, k_asg, k_for, k_fnil, k_fcons, k_app, oL_z, oL_s, k_par, k_run, k_runN, k_fld, oO_z, k_add, k_addL, k_sub, k_mul, k_div, k_mod, k_pow, k_neg, k_lt, k_le, k_gt, k_ge, k_eqI, k_neI, k_int, k_intB, k_abs, k_lenL, k_lenT, k_lenC, k_tru, k_tupL, k_tupT, k_items_l, k_items_t, k_rng1, k_ixL, k_ixT, k_ixC, k_fldD, ok_nox, ok_ok, ok_bind, List.set_cons_zero, List.set_cons_succ, startS, startN, List.map_cons, List.map_nil, List.cons_append, List.nil_append, List.append_nil, List.length_cons, List.length_nil, List.replicate, Nat.reduceSub, Nat.reduceAdd, Nat.reduceLeDiff, Nat.zero_add, true_and, and_true, false_implies, true_implies, implies_true, forall_const, reduceCtorEq, Bool.not_true, Bool.not_false, Bool.not_eq_true'])
  exact ⟨div_c (by omega) (by omega), by omega, div_c (by omega) (by omega), by omega, by omega, ⟨a % 2, cs, a / 2 % 4 - 1, a / 8 % 2⟩, ⟨by dsimp only; omega, hl, hc, by dsimp only; omega, by dsimp only; omega⟩, rfl⟩
/-- a joint row of the law -/
inductive JT : D → Prop where
  | one (r : RowT) : r.Ok → JT (jD r [])
  | two (r s : RowT) : r.Ok → s.Ok → JT (jD r [jD s []])
  | side (r s t : RowT) : r.Ok → s.Ok → t.Ok → JT (jD r [jD s [], jD t []])
  | deep (r s t : RowT) : r.Ok → s.Ok → t.Ok → JT (jD r [jD s [jD t []]])
theorem p_joint (d0 : D) (hd : drawn 7 d0) : Ok (d__law_joint [d0]) JT := by
  have hs := size_ge
  unfold d__law_joint m__law_joint
  rw [ok_nox, k_run]
  refine Ok.mono (P := fun z => ∃ d, z.1 = .rt d ∧ JT d) ?_ fun z ⟨d, e, h⟩ => by rw [e]; exact h
  refine seq_cut (fun S => ∃ r s t : RowT, r.Ok ∧ s.Ok ∧ t.Ok ∧ S = [(some (Sl.mk false (d0))), (some (Sl.mk false (.lst [rowD r, rowD s, rowD t]))), none, none]) ?_ ?_
  · rw [k_set]
    refine k_lcA (P := fun d => ∃ r : RowT, r.Ok ∧ d = rowD r) 3 (by omega) ?_ ?_
    · (try simp only [↓k_guard, k_no, k_I, k_S, k_B, k_N, k_G, k_Y, k_V, k_W, k_O, g0_z, g0_s, gA_z, gA_s, g1_z, g1_s, k_1, k_2, k_n, k_c, k_T, k_L, k_C, k_f1, k_f2, k_App, k_M, k_P, k_3, k_tB, k_tT, k_toB, k_tNo, k_tA, k_tO, k_tY, k_And, k_Or, k_Not, k_eIf, k_nil, k_seq, k_set, k_own, k_drop, k_ret, k_retN, k_retO, k_if, k_fz, fz_z, fz_s, k_gN, k_gsN, k_gsC, k_gT, k_asg, k_for, k_fnil, k_fcons, k_app, oL_z, oL_s, k_par, k_run, k_runN, k_fld, oO_z, k_add, k_addL, k_sub, k_mul, k_div, k_mod, k_pow, k_neg, k_lt, k_le, k_gt, k_ge, k_eqI, k_neI, k_int, k_intB, k_abs, k_lenL, k_lenT, k_lenC, k_tru, k_tupL, k_tupT, k_items_l, k_items_t, k_rng1, k_ixL, k_ixT, k_ixC, k_fldD, ok_nox, ok_ok, ok_bind, List.set_cons_zero, List.set_cons_succ, startS, startN, List.map_cons, List.map_nil, List.cons_append, List.nil_append, List.append_nil, List.length_cons, List.length_nil, List.replicate, Nat.reduceSub, Nat.reduceAdd, Nat.reduceLeDiff, Nat.zero_add, true_and, and_true, false_implies, true_implies, implies_true, forall_const, reduceCtorEq, Bool.not_true, Bool.not_false, Bool.not_eq_true'])
      refine ⟨⟨by omega, by omega⟩, by rw [rngL_len]; rfl, ?_⟩
      intro d hdd
      obtain ⟨j, hj⟩ := List.getElem?_of_mem hdd
      obtain ⟨hj, rfl⟩ := rngL_get hj
      have hj3 : j < 3 := by omega
      (try simp only [↓k_guard, k_no, k_I, k_S, k_B, k_N, k_G, k_Y, k_V, k_W, k_O, g0_z, g0_s, gA_z, gA_s, g1_z, g1_s, k_1, k_2, k_n, k_c, k_T, k_L, k_C, k_f1, k_f2, k_App, k_M, k_P, k_3, k_tB, k_tT, k_toB, k_tNo, k_tA, k_tO, k_tY, k_And, k_Or, k_Not, k_eIf, k_nil, k_seq, k_set, k_own, k_drop, k_ret, k_retN, k_retO, k_if, k_fz, fz_z, fz_s, k_gN, k_gsN, k_gsC, k_gT, k_asg, k_for, k_fnil, k_fcons, k_app, oL_z, oL_s, k_par, k_run, k_runN, k_fld, oO_z, k_add, k_addL, k_sub, k_mul, k_div, k_mod, k_pow, k_neg, k_lt, k_le, k_gt, k_ge, k_eqI, k_neI, k_int, k_intB, k_abs, k_lenL, k_lenT, k_lenC, k_tru, k_tupL, k_tupT, k_items_l, k_items_t, k_rng1, k_ixL, k_ixT, k_ixC, k_fldD, ok_nox, ok_ok, ok_bind, List.set_cons_zero, List.set_cons_succ, startS, startN, List.map_cons, List.map_nil, List.cons_append, List.nil_append, List.append_nil, List.length_cons, List.length_nil, List.replicate, Nat.reduceSub, Nat.reduceAdd, Nat.reduceLeDiff, Nat.zero_add, true_and, and_true, false_implies, true_implies, implies_true, forall_const, reduceCtorEq, Bool.not_true, Bool.not_false, Bool.not_eq_true', wipeS])
      refine ⟨mul_l (by omega) (by omega), ?_⟩
      refine (hd.ix (by omega) (by omega)).mono ?_
      rintro z ⟨x, rfl, x0, _⟩
      refine ⟨mul_l (by omega) (by omega), ?_⟩
      refine (hd.ix (by omega) (by omega)).mono ?_
      rintro z ⟨y, rfl, _, _⟩
      exact p_row x y x0
    · intro ys hy hp
      match ys, hy with
      | [a, b, c], _ =>
        obtain ⟨r, hr, rfl⟩ := hp a (by simp)
        obtain ⟨s, hs', rfl⟩ := hp b (by simp)
        obtain ⟨t, ht, rfl⟩ := hp c (by simp)
        exact ⟨rfl, r, s, t, hr, hs', ht, rfl⟩
  rintro S ⟨r, s, t, hr, hs', ht, rfl⟩
  refine seq_cut (fun S => ∃ w : Int, S = [(some (Sl.mk false (d0))), (some (Sl.mk false (.lst [rowD r, rowD s, rowD t]))), (some (Sl.mk false (.int w))), none]) ?_ ?_
  · (try simp only [↓k_guard, k_no, k_I, k_S, k_B, k_N, k_G, k_Y, k_V, k_W, k_O, g0_z, g0_s, gA_z, gA_s, g1_z, g1_s, k_1, k_2, k_n, k_c, k_T, k_L, k_C, k_f1, k_f2, k_App, k_M, k_P, k_3, k_tB, k_tT, k_toB, k_tNo, k_tA, k_tO, k_tY, k_And, k_Or, k_Not, k_eIf, k_nil, k_seq, k_set, k_own, k_drop, k_ret, k_retN, k_retO, k_if, k_fz, fz_z, fz_s, k_gN, k_gsN, k_gsC, k_gT, k_asg, k_for, k_fnil, k_fcons, k_app, oL_z, oL_s, k_par, k_run, k_runN, k_fld, oO_z, k_add, k_addL, k_sub, k_mul, k_div, k_mod, k_pow, k_neg, k_lt, k_le, k_gt, k_ge, k_eqI, k_neI, k_int, k_intB, k_abs, k_lenL, k_lenT, k_lenC, k_tru, k_tupL, k_tupT, k_items_l, k_items_t, k_rng1, k_ixL, k_ixT, k_ixC, k_fldD, ok_nox, ok_ok, ok_bind, List.set_cons_zero, List.set_cons_succ, startS, startN, List.map_cons, List.map_nil, List.cons_append, List.nil_append, List.append_nil, List.length_cons, List.length_nil, List.replicate, Nat.reduceSub, Nat.reduceAdd, Nat.reduceLeDiff, Nat.zero_add, true_and, and_true, false_implies, true_implies, implies_true, forall_const, reduceCtorEq, Bool.not_true, Bool.not_false, Bool.not_eq_true'])
    refine (hd.ix (by omega) (by omega)).mono ?_
    rintro z ⟨x, rfl, x0, _⟩
    (try simp only [↓k_guard, k_no, k_I, k_S, k_B, k_N, k_G, k_Y, k_V, k_W, k_O, g0_z, g0_s, gA_z, gA_s, g1_z, g1_s, k_1, k_2, k_n, k_c, k_T, k_L, k_C, k_f1, k_f2, k_App, k_M, k_P, k_3, k_tB, k_tT, k_toB, k_tNo, k_tA, k_tO, k_tY, k_And, k_Or, k_Not, k_eIf, k_nil, k_seq, k_set, k_own, k_drop, k_ret, k_retN, k_retO, k_if, k_fz, fz_z, fz_s, k_gN, k_gsN, k_gsC, k_gT, k_asg, k_for, k_fnil, k_fcons, k_app, oL_z, oL_s, k_par, k_run, k_runN, k_fld, oO_z, k_add, k_addL, k_sub, k_mul, k_div, k_mod, k_pow, k_neg, k_lt, k_le, k_gt, k_ge, k_eqI, k_neI, k_int, k_intB, k_abs, k_lenL, k_lenT, k_lenC, k_tru, k_tupL, k_tupT, k_items_l, k_items_t, k_rng1, k_ixL, k_ixT, k_ixC, k_fldD, ok_nox, ok_ok, ok_bind, List.set_cons_zero, List.set_cons_succ, startS, startN, List.map_cons, List.map_nil, List.cons_append, List.nil_append, List.append_nil, List.length_cons, List.length_nil, List.replicate, Nat.reduceSub, Nat.reduceAdd, Nat.reduceLeDiff, Nat.zero_add, true_and, and_true, false_implies, true_implies, implies_true, forall_const, reduceCtorEq, Bool.not_true, Bool.not_false, Bool.not_eq_true'])
    exact ⟨by omega, _, rfl⟩
  rintro S ⟨w, rfl⟩
  have i0 : ∀ {Q : D → Prop}, Ok (ixD (.lst [rowD r, rowD s, rowD t]) (.int 0)) Q ↔ Q (rowD r) := fun {Q} => ok_ok
  have i1 : ∀ {Q : D → Prop}, Ok (ixD (.lst [rowD r, rowD s, rowD t]) (.int 1)) Q ↔ Q (rowD s) := fun {Q} => ok_ok
  have i2 : ∀ {Q : D → Prop}, Ok (ixD (.lst [rowD r, rowD s, rowD t]) (.int 2)) Q ↔ Q (rowD t) := fun {Q} => ok_ok
  have two : 2 ≤ sizeLine := by omega
  have o0 : ∀ q : Prop, q → (∃ d, L2.atI [rowD r, rowD s, rowD t] 0 = some d ∧ d = rowD r ∧ q) := fun q hq => ⟨_, rfl, rfl, hq⟩
  simp only [k_seq, k_if, k_tB, k_2, k_W, gA_z, gA_s, k_I, k_eqI, k_toB, k_ret, k_T, k_c, k_n, i0, i1, i2, k_nil]
  refine ⟨fun _ => ⟨by simp <;> omega, by simp <;> omega, _, rfl, .one r hr⟩, fun _ => ⟨fun _ => ?_, fun _ => ⟨fun _ => ?_, fun _ => ?_⟩⟩⟩
  · exact ⟨by simp <;> omega, by simp <;> omega, by simp <;> omega, by simp <;> omega, _, rfl, .two r s hr hs'⟩
  · exact ⟨by simp <;> omega, by simp <;> omega, by simp <;> omega, by simp <;> omega, by simp <;> omega, by simp <;> omega, _, rfl, .side r s t hr hs' ht⟩
  · exact ⟨by simp <;> omega, by simp <;> omega, by simp <;> omega, by simp <;> omega, by simp <;> omega, by simp <;> omega, _, rfl, .deep r s t hr hs' ht⟩
end Pf
set_option Elab.async false
set_option linter.all false
set_option maxRecDepth 100000
namespace Pf
open M PySem L2
def code (n : Int) : Nat := if n = -1 then 46 else if n = 0 then 48 else if n = 1 then 49 else 50
def ew (cs : List Int) : Str := if cs = [] then "-" else tx (cs.map code)
def mw (m : Int) : Str := if m = 1 then "+" else "."
def rowW (r : RowT) : List Str := [sg (code r.bit), ew r.cs, sg (code r.ran), mw r.more]
def gflat : List (List Str) → List Str
  | [] => []
  | ws :: r => ("(" : Str) :: (ws ++ [(")" : Str)]) ++ gflat r
theorem gflat_app : ∀ (a b : List (List Str)), gflat (a ++ b) = gflat a ++ gflat b
  | [], b => rfl
  | x :: a, b => by simp only [List.cons_append, gflat, gflat_app a b, List.append_assoc]
theorem str_b {n : Int} (h : n = 0 ∨ n = 1) : strD (.int n) = .ok (.str (sg (code n))) := by rcases h with rfl | rfl <;> kernel_rfl
theorem sign_n {n : Int} (h : n = -1 ∨ n = 0 ∨ n = 1 ∨ n = 2) : d_sign_of [.int n] = .ok (.str (sg (code n))) := by rcases h with rfl | rfl | rfl | rfl <;> kernel_rfl
theorem ix01 {n : Int} (h : n = -1 ∨ n = 0 ∨ n = 1) : ixD (.str ".01") (.int (n + 1)) = .ok (.str (sg (code n))) := by rcases h with rfl | rfl | rfl <;> kernel_rfl
theorem ix012 {n : Int} (h : n = -1 ∨ n = 0 ∨ n = 1 ∨ n = 2) : ixD (.str ".012") (.int (n + 1)) = .ok (.str (sg (code n))) := by rcases h with rfl | rfl | rfl | rfl <;> kernel_rfl
theorem ixb {n : Int} (h : n = 0 ∨ n = 1) : ixD (.str "01") (.int n) = .ok (.str (sg (code n))) := by rcases h with rfl | rfl <;> kernel_rfl
theorem ixm {n : Int} (h : n = 0 ∨ n = 1) : ixD (.str ".+") (.int n) = .ok (.str (mw n)) := by rcases h with rfl | rfl <;> kernel_rfl
theorem k_grow {r : RowT} {g : FGs} {S : M.Env} {QE : M.Env → Prop} : Ok (gT 4 g (rowD r) S) QE ↔ Ok (g [.int r.bit, csD r.cs, .int r.ran, .int r.more] S) QE := by
  show Ok (gT 4 g (.tup [.int r.bit, csD r.cs, .int r.ran, .int r.more]) S) QE ↔ _
  rw [k_gT]; simp
theorem k_gj {r : RowT} {gs : List D} {g : FGs} {S : M.Env} {QE : M.Env → Prop} : Ok (gT 2 g (jD r gs) S) QE ↔ Ok (g [rowD r, .tup gs] S) QE := by
  show Ok (gT 2 g (.tup [rowD r, .tup gs]) S) QE ↔ _
  rw [k_gT]; simp
theorem k_itC {cs : List Int} {Q : List D → Prop} : Ok (itemsD (csD cs)) Q ↔ Q (cs.map .int) := ok_ok
theorem k_truC {cs : List Int} {QB : Bool → Prop} : Ok (truD (csD cs)) QB ↔ QB (!cs.isEmpty) := by
  have e : truD (csD cs) = .ok (!(cs.map D.int).isEmpty) := rfl
  rw [e, ok_ok]; cases cs <;> rfl
theorem map_code (cs : List Int) : cs.map (fun n => D.str (sg (code n))) = (cs.map code).map fun c => D.str (sg c) := by rw [List.map_map]; rfl
/-- the join of the signs -/
theorem join_cs {cs : List Int} (hl : cs.length ≤ 3) {fi : FI} {i : Nat} {f : FE} {S : M.Env} {Q : D → Prop} (hi : Ok (fi S) fun ds => ds = cs.map .int) (h : ∀ n ∈ cs, Ok (gN i (.int n) (wipeS S [i])) fun S1 => Ok (f S1) fun y => y = .str (sg (code n))) (q : Q (.str (tx (cs.map code)))) :
    Ok (eM1 joinD (eS "") (lcE fi (gN i) tY f [i]) S) Q := by
  have hs := size_ge
  rw [k_eM1, k_S]
  refine ⟨rfl, ?_⟩
  refine k_lcM D.int (fun n => .str (sg (code n))) cs hi (by omega) h ?_
  rw [map_code, k_join _ (by rw [List.length_map]; omega)]
  exact q
def Wd (g : Nat → List D → R D) (n : Nat) (p : D × List Str) : Prop := p.2.length ≤ 100 ∧ Ok (g n [p.1]) fun d => d = .lst (p.2.map .str)
theorem flat_len : ∀ (l : List (List Str)), (∀ ws ∈ l, ws.length ≤ 100) → (gflat l).length ≤ 102 * l.length
  | [], _ => by simp [gflat]
  | ws :: l, h => by
    have h1 := h ws (by simp)
    have h2 := flat_len l fun x hx => h x (by simp [hx])
    simp only [gflat, List.length_append, List.length_cons, List.length_nil]
    omega
theorem step_words {n : Nat} {r : RowT} (hr : r.Ok) (gl : List (D × List Str)) (h : ∀ p ∈ gl, Wd d_row_words' n p) (hl : gl.length ≤ 5) : Ok (d_row_words' (n + 1) [jD r (gl.map (·.1))]) fun d => d = .lst ((rowW r ++ gflat (gl.map (·.2))).map .str) := by
  have hs := size_ge
  obtain ⟨hb, hcl, hc, hn, hm⟩ := hr
  show Ok ((runF false 11 (m_row_words (d_row_words' n)) _).nox) _
  unfold m_row_words
  rw [ok_nox, k_run]
  refine Ok.mono (P := fun z => z.1 = .rt (.lst ((rowW r ++ gflat (gl.map (·.2))).map .str))) ?_ fun z h => by rw [h]
  refine seq_cut (fun S => S = [(some (Sl.mk false (jD r (gl.map (·.1))))), (some (Sl.mk false (rowD r))), (some (Sl.mk false (.tup (gl.map (·.1))))), none, none, none, none, none, none, none, none]) (by (try simp only [↓k_guard, k_no, k_I, k_S, k_B, k_N, k_G, k_Y, k_V, k_W, k_O, g0_z, g0_s, gA_z, gA_s, g1_z, g1_s, k_1, k_2, k_n, k_c, k_T, k_L, k_C, k_f1, k_f2, k_App, k_M, k_P, k_3, k_tB, k_tT, k_toB, k_tNo, k_tA, k_tO, k_tY, k_And, k_Or, k_Not, k_eIf, k_nil, k_seq, k_set, k_own, k_drop, k_ret, k_retN, k_retO, k_if, k_fz, fz_z, fz_s, k_gN, k_gsN, k_gsC, k_gT, k_asg, k_for, k_fnil, k_fcons, k_app, oL_z, oL_s, k_par, k_run, k_runN, k_fld, oO_z, k_add, k_addL, k_sub, k_mul, k_div, k_mod, k_pow, k_neg, k_lt, k_le, k_gt, k_ge, k_eqI, k_neI, k_int, k_intB, k_abs, k_lenL, k_lenT, k_lenC, k_tru, k_tupL, k_tupT, k_items_l, k_items_t, k_rng1, k_ixL, k_ixT, k_ixC, k_fldD, ok_nox, ok_ok, ok_bind, List.set_cons_zero, List.set_cons_succ, startS, startN, List.map_cons, List.map_nil, List.cons_append, List.nil_append, List.append_nil, List.length_cons, List.length_nil, List.replicate, Nat.reduceSub, Nat.reduceAdd, Nat.reduceLeDiff, Nat.zero_add, true_and, and_true, false_implies, true_implies, implies_true, forall_const, reduceCtorEq, Bool.not_true, Bool.not_false, Bool.not_eq_true', k_gj])) ?_
  rintro S rfl
  refine seq_cut (fun S => S = [(some (Sl.mk false (jD r (gl.map (·.1))))), (some (Sl.mk false (rowD r))), (some (Sl.mk false (.tup (gl.map (·.1))))), (some (Sl.mk false (.int r.bit))), (some (Sl.mk false (csD r.cs))), (some (Sl.mk false (.int r.ran))), (some (Sl.mk false (.int r.more))), none, none, none, none]) (by (try simp only [↓k_guard, k_no, k_I, k_S, k_B, k_N, k_G, k_Y, k_V, k_W, k_O, g0_z, g0_s, gA_z, gA_s, g1_z, g1_s, k_1, k_2, k_n, k_c, k_T, k_L, k_C, k_f1, k_f2, k_App, k_M, k_P, k_3, k_tB, k_tT, k_toB, k_tNo, k_tA, k_tO, k_tY, k_And, k_Or, k_Not, k_eIf, k_nil, k_seq, k_set, k_own, k_drop, k_ret, k_retN, k_retO, k_if, k_fz, fz_z, fz_s, k_gN, k_gsN, k_gsC, k_gT, k_asg, k_for, k_fnil, k_fcons, k_app, oL_z, oL_s, k_par, k_run, k_runN, k_fld, oO_z, k_add, k_addL, k_sub, k_mul, k_div, k_mod, k_pow, k_neg, k_lt, k_le, k_gt, k_ge, k_eqI, k_neI, k_int, k_intB, k_abs, k_lenL, k_lenT, k_lenC, k_tru, k_tupL, k_tupT, k_items_l, k_items_t, k_rng1, k_ixL, k_ixT, k_ixC, k_fldD, ok_nox, ok_ok, ok_bind, List.set_cons_zero, List.set_cons_succ, startS, startN, List.map_cons, List.map_nil, List.cons_append, List.nil_append, List.append_nil, List.length_cons, List.length_nil, List.replicate, Nat.reduceSub, Nat.reduceAdd, Nat.reduceLeDiff, Nat.zero_add, true_and, and_true, false_implies, true_implies, implies_true, forall_const, reduceCtorEq, Bool.not_true, Bool.not_false, Bool.not_eq_true', k_grow])) ?_
  rintro S rfl
  refine seq_cut (fun S => S = [(some (Sl.mk false (jD r (gl.map (·.1))))), (some (Sl.mk false (rowD r))), (some (Sl.mk false (.tup (gl.map (·.1))))), (some (Sl.mk false (.int r.bit))), (some (Sl.mk false (csD r.cs))), (some (Sl.mk false (.int r.ran))), (some (Sl.mk false (.int r.more))), (some (Sl.mk false (.str (ew r.cs)))), none, none, none]) ?_ ?_
  · rw [k_set, k_eIf]
    simp only [k_tT, k_W, gA_z, gA_s, k_truC]
    refine ⟨fun h0 => ?_, fun h0 => ?_⟩
    · refine join_cs hcl (by (try simp only [↓k_guard, k_no, k_I, k_S, k_B, k_N, k_G, k_Y, k_V, k_W, k_O, g0_z, g0_s, gA_z, gA_s, g1_z, g1_s, k_1, k_2, k_n, k_c, k_T, k_L, k_C, k_f1, k_f2, k_App, k_M, k_P, k_3, k_tB, k_tT, k_toB, k_tNo, k_tA, k_tO, k_tY, k_And, k_Or, k_Not, k_eIf, k_nil, k_seq, k_set, k_own, k_drop, k_ret, k_retN, k_retO, k_if, k_fz, fz_z, fz_s, k_gN, k_gsN, k_gsC, k_gT, k_asg, k_for, k_fnil, k_fcons, k_app, oL_z, oL_s, k_par, k_run, k_runN, k_fld, oO_z, k_add, k_addL, k_sub, k_mul, k_div, k_mod, k_pow, k_neg, k_lt, k_le, k_gt, k_ge, k_eqI, k_neI, k_int, k_intB, k_abs, k_lenL, k_lenT, k_lenC, k_tru, k_tupL, k_tupT, k_items_l, k_items_t, k_rng1, k_ixL, k_ixT, k_ixC, k_fldD, ok_nox, ok_ok, ok_bind, List.set_cons_zero, List.set_cons_succ, startS, startN, List.map_cons, List.map_nil, List.cons_append, List.nil_append, List.append_nil, List.length_cons, List.length_nil, List.replicate, Nat.reduceSub, Nat.reduceAdd, Nat.reduceLeDiff, Nat.zero_add, true_and, and_true, false_implies, true_implies, implies_true, forall_const, reduceCtorEq, Bool.not_true, Bool.not_false, Bool.not_eq_true', k_itC])) ?_ ?_
      · intro c hcm
        (try simp only [↓k_guard, k_no, k_I, k_S, k_B, k_N, k_G, k_Y, k_V, k_W, k_O, g0_z, g0_s, gA_z, gA_s, g1_z, g1_s, k_1, k_2, k_n, k_c, k_T, k_L, k_C, k_f1, k_f2, k_App, k_M, k_P, k_3, k_tB, k_tT, k_toB, k_tNo, k_tA, k_tO, k_tY, k_And, k_Or, k_Not, k_eIf, k_nil, k_seq, k_set, k_own, k_drop, k_ret, k_retN, k_retO, k_if, k_fz, fz_z, fz_s, k_gN, k_gsN, k_gsC, k_gT, k_asg, k_for, k_fnil, k_fcons, k_app, oL_z, oL_s, k_par, k_run, k_runN, k_fld, oO_z, k_add, k_addL, k_sub, k_mul, k_div, k_mod, k_pow, k_neg, k_lt, k_le, k_gt, k_ge, k_eqI, k_neI, k_int, k_intB, k_abs, k_lenL, k_lenT, k_lenC, k_tru, k_tupL, k_tupT, k_items_l, k_items_t, k_rng1, k_ixL, k_ixT, k_ixC, k_fldD, ok_nox, ok_ok, ok_bind, List.set_cons_zero, List.set_cons_succ, startS, startN, List.map_cons, List.map_nil, List.cons_append, List.nil_append, List.append_nil, List.length_cons, List.length_nil, List.replicate, Nat.reduceSub, Nat.reduceAdd, Nat.reduceLeDiff, Nat.zero_add, true_and, and_true, false_implies, true_implies, implies_true, forall_const, reduceCtorEq, Bool.not_true, Bool.not_false, Bool.not_eq_true', wipeS])
        rw [sign_n (by have := hc c hcm; omega), ok_ok]
      · have : r.cs ≠ [] := by intro e; rw [e] at h0; simp at h0
        unfold ew
        rw [if_neg this]
        exact ⟨trivial, rfl⟩
    · have : r.cs = [] := by cases hq : r.cs with
        | nil => rfl
        | cons a b => rw [hq] at h0; simp at h0
      unfold ew
      rw [if_pos this]
      (try simp only [↓k_guard, k_no, k_I, k_S, k_B, k_N, k_G, k_Y, k_V, k_W, k_O, g0_z, g0_s, gA_z, gA_s, g1_z, g1_s, k_1, k_2, k_n, k_c, k_T, k_L, k_C, k_f1, k_f2, k_App, k_M, k_P, k_3, k_tB, k_tT, k_toB, k_tNo, k_tA, k_tO, k_tY, k_And, k_Or, k_Not, k_eIf, k_nil, k_seq, k_set, k_own, k_drop, k_ret, k_retN, k_retO, k_if, k_fz, fz_z, fz_s, k_gN, k_gsN, k_gsC, k_gT, k_asg, k_for, k_fnil, k_fcons, k_app, oL_z, oL_s, k_par, k_run, k_runN, k_fld, oO_z, k_add, k_addL, k_sub, k_mul, k_div, k_mod, k_pow, k_neg, k_lt, k_le, k_gt, k_ge, k_eqI, k_neI, k_int, k_intB, k_abs, k_lenL, k_lenT, k_lenC, k_tru, k_tupL, k_tupT, k_items_l, k_items_t, k_rng1, k_ixL, k_ixT, k_ixC, k_fldD, ok_nox, ok_ok, ok_bind, List.set_cons_zero, List.set_cons_succ, startS, startN, List.map_cons, List.map_nil, List.cons_append, List.nil_append, List.append_nil, List.length_cons, List.length_nil, List.replicate, Nat.reduceSub, Nat.reduceAdd, Nat.reduceLeDiff, Nat.zero_add, true_and, and_true, false_implies, true_implies, implies_true, forall_const, reduceCtorEq, Bool.not_true, Bool.not_false, Bool.not_eq_true'])
  rintro S rfl
  refine seq_cut (fun S => S = [(some (Sl.mk false (jD r (gl.map (·.1))))), (some (Sl.mk false (rowD r))), (some (Sl.mk false (.tup (gl.map (·.1))))), (some (Sl.mk false (.int r.bit))), (some (Sl.mk false (csD r.cs))), (some (Sl.mk false (.int r.ran))), (some (Sl.mk false (.int r.more))), (some (Sl.mk false (.str (ew r.cs)))), (some (Sl.mk true (.lst ((rowW r).map .str)))), none, none]) ?_ ?_
  · (try simp only [↓k_guard, k_no, k_I, k_S, k_B, k_N, k_G, k_Y, k_V, k_W, k_O, g0_z, g0_s, gA_z, gA_s, g1_z, g1_s, k_1, k_2, k_n, k_c, k_T, k_L, k_C, k_f1, k_f2, k_App, k_M, k_P, k_3, k_tB, k_tT, k_toB, k_tNo, k_tA, k_tO, k_tY, k_And, k_Or, k_Not, k_eIf, k_nil, k_seq, k_set, k_own, k_drop, k_ret, k_retN, k_retO, k_if, k_fz, fz_z, fz_s, k_gN, k_gsN, k_gsC, k_gT, k_asg, k_for, k_fnil, k_fcons, k_app, oL_z, oL_s, k_par, k_run, k_runN, k_fld, oO_z, k_add, k_addL, k_sub, k_mul, k_div, k_mod, k_pow, k_neg, k_lt, k_le, k_gt, k_ge, k_eqI, k_neI, k_int, k_intB, k_abs, k_lenL, k_lenT, k_lenC, k_tru, k_tupL, k_tupT, k_items_l, k_items_t, k_rng1, k_ixL, k_ixT, k_ixC, k_fldD, ok_nox, ok_ok, ok_bind, List.set_cons_zero, List.set_cons_succ, startS, startN, List.map_cons, List.map_nil, List.cons_append, List.nil_append, List.append_nil, List.length_cons, List.length_nil, List.replicate, Nat.reduceSub, Nat.reduceAdd, Nat.reduceLeDiff, Nat.zero_add, true_and, and_true, false_implies, true_implies, implies_true, forall_const, reduceCtorEq, Bool.not_true, Bool.not_false, Bool.not_eq_true'])
    rw [str_b hb, sign_n hn, ok_ok]
    refine ok_ok.mpr ?_
    rcases hm with hm | hm <;> (rw [hm]; simp only [mw, rowW]; rw [hm]; refine ⟨fun h => ?_, fun h => ?_⟩ <;> first | (simp at h; done) | exact ⟨by first | omega | (simp <;> omega), rfl⟩)
  rintro S rfl
  refine seq_cut (fun S => ∃ a, S = [(some (Sl.mk false (jD r (gl.map (·.1))))), (some (Sl.mk false (rowD r))), (some (Sl.mk false (.tup (gl.map (·.1))))), (some (Sl.mk false (.int r.bit))), (some (Sl.mk false (csD r.cs))), (some (Sl.mk false (.int r.ran))), (some (Sl.mk false (.int r.more))), (some (Sl.mk false (.str (ew r.cs)))), (some (Sl.mk true (.lst ((rowW r ++ gflat (gl.map (·.2))).map .str)))), a, none]) ?_ ?_
  · (try simp only [↓k_guard, k_no, k_I, k_S, k_B, k_N, k_G, k_Y, k_V, k_W, k_O, g0_z, g0_s, gA_z, gA_s, g1_z, g1_s, k_1, k_2, k_n, k_c, k_T, k_L, k_C, k_f1, k_f2, k_App, k_M, k_P, k_3, k_tB, k_tT, k_toB, k_tNo, k_tA, k_tO, k_tY, k_And, k_Or, k_Not, k_eIf, k_nil, k_seq, k_set, k_own, k_drop, k_ret, k_retN, k_retO, k_if, k_fz, fz_z, fz_s, k_gN, k_gsN, k_gsC, k_gT, k_asg, k_for, k_fnil, k_fcons, k_app, oL_z, oL_s, k_par, k_run, k_runN, k_fld, oO_z, k_add, k_addL, k_sub, k_mul, k_div, k_mod, k_pow, k_neg, k_lt, k_le, k_gt, k_ge, k_eqI, k_neI, k_int, k_intB, k_abs, k_lenL, k_lenT, k_lenC, k_tru, k_tupL, k_tupT, k_items_l, k_items_t, k_rng1, k_ixL, k_ixT, k_ixC, k_fldD, ok_nox, ok_ok, ok_bind, List.set_cons_zero, List.set_cons_succ, startS, startN, List.map_cons, List.map_nil, List.cons_append, List.nil_append, List.append_nil, List.length_cons, List.length_nil, List.replicate, Nat.reduceSub, Nat.reduceAdd, Nat.reduceLeDiff, Nat.zero_add, true_and, and_true, false_implies, true_implies, implies_true, forall_const, reduceCtorEq, Bool.not_true, Bool.not_false, Bool.not_eq_true'])
    refine for_typed (fun p : D × List Str => p.1) (fun done S => ∃ a, S = [(some (Sl.mk false (jD r (gl.map (·.1))))), (some (Sl.mk false (rowD r))), (some (Sl.mk false (.tup (gl.map (·.1))))), (some (Sl.mk false (.int r.bit))), (some (Sl.mk false (csD r.cs))), (some (Sl.mk false (.int r.ran))), (some (Sl.mk false (.int r.more))), (some (Sl.mk false (.str (ew r.cs)))), (some (Sl.mk true (.lst ((rowW r ++ gflat (done.map (·.2))).map .str)))), a, none]) gl _ ⟨none, by simp [gflat]⟩ ?_ ?_
    · rintro done p rest S e ⟨a, rfl⟩
      obtain ⟨pl, po⟩ := h p (by rw [e]; simp)
      have dl : (gflat (done.map (·.2))).length ≤ 102 * 5 := by
        have := flat_len (done.map (·.2)) (fun ws hw => by obtain ⟨q, hq, rfl⟩ := List.mem_map.mp hw; exact (h q (by rw [e]; simp [hq])).1)
        have l2 := congrArg List.length e
        simp only [List.length_append, List.length_cons] at l2
        rw [List.length_map] at this
        omega
      have wl : (rowW r).length = 4 := rfl
      (try simp only [↓k_guard, k_no, k_I, k_S, k_B, k_N, k_G, k_Y, k_V, k_W, k_O, g0_z, g0_s, gA_z, gA_s, g1_z, g1_s, k_1, k_2, k_n, k_c, k_T, k_L, k_C, k_f1, k_f2, k_App, k_M, k_P, k_3, k_tB, k_tT, k_toB, k_tNo, k_tA, k_tO, k_tY, k_And, k_Or, k_Not, k_eIf, k_nil, k_seq, k_set, k_own, k_drop, k_ret, k_retN, k_retO, k_if, k_fz, fz_z, fz_s, k_gN, k_gsN, k_gsC, k_gT, k_asg, k_for, k_fnil, k_fcons, k_app, oL_z, oL_s, k_par, k_run, k_runN, k_fld, oO_z, k_add, k_addL, k_sub, k_mul, k_div, k_mod, k_pow, k_neg, k_lt, k_le, k_gt, k_ge, k_eqI, k_neI, k_int, k_intB, k_abs, k_lenL, k_lenT, k_lenC, k_tru, k_tupL, k_tupT, k_items_l, k_items_t, k_rng1, k_ixL, k_ixT, k_ixC, k_fldD, ok_nox, ok_ok, ok_bind, List.set_cons_zero, List.set_cons_succ, startS, startN, List.map_cons, List.map_nil, List.cons_append, List.nil_append, List.append_nil, List.length_cons, List.length_nil, List.replicate, Nat.reduceSub, Nat.reduceAdd, Nat.reduceLeDiff, Nat.zero_add, true_and, and_true, false_implies, true_implies, implies_true, forall_const, reduceCtorEq, Bool.not_true, Bool.not_false, Bool.not_eq_true'])
      refine ⟨by simp only [List.length_map, List.length_append, wl]; omega, ?_⟩
      rw [k_ext]
      (try simp only [↓k_guard, k_no, k_I, k_S, k_B, k_N, k_G, k_Y, k_V, k_W, k_O, g0_z, g0_s, gA_z, gA_s, g1_z, g1_s, k_1, k_2, k_n, k_c, k_T, k_L, k_C, k_f1, k_f2, k_App, k_M, k_P, k_3, k_tB, k_tT, k_toB, k_tNo, k_tA, k_tO, k_tY, k_And, k_Or, k_Not, k_eIf, k_nil, k_seq, k_set, k_own, k_drop, k_ret, k_retN, k_retO, k_if, k_fz, fz_z, fz_s, k_gN, k_gsN, k_gsC, k_gT, k_asg, k_for, k_fnil, k_fcons, k_app, oL_z, oL_s, k_par, k_run, k_runN, k_fld, oO_z, k_add, k_addL, k_sub, k_mul, k_div, k_mod, k_pow, k_neg, k_lt, k_le, k_gt, k_ge, k_eqI, k_neI, k_int, k_intB, k_abs, k_lenL, k_lenT, k_lenC, k_tru, k_tupL, k_tupT, k_items_l, k_items_t, k_rng1, k_ixL, k_ixT, k_ixC, k_fldD, ok_nox, ok_ok, ok_bind, List.set_cons_zero, List.set_cons_succ, startS, startN, List.map_cons, List.map_nil, List.cons_append, List.nil_append, List.append_nil, List.length_cons, List.length_nil, List.replicate, Nat.reduceSub, Nat.reduceAdd, Nat.reduceLeDiff, Nat.zero_add, true_and, and_true, false_implies, true_implies, implies_true, forall_const, reduceCtorEq, Bool.not_true, Bool.not_false, Bool.not_eq_true'])
      refine po.mono ?_
      rintro d rfl
      refine ⟨_, rfl, by simp only [List.length_map, List.length_append, List.length_cons, List.length_nil, wl]; omega, ?_⟩
      (try simp only [↓k_guard, k_no, k_I, k_S, k_B, k_N, k_G, k_Y, k_V, k_W, k_O, g0_z, g0_s, gA_z, gA_s, g1_z, g1_s, k_1, k_2, k_n, k_c, k_T, k_L, k_C, k_f1, k_f2, k_App, k_M, k_P, k_3, k_tB, k_tT, k_toB, k_tNo, k_tA, k_tO, k_tY, k_And, k_Or, k_Not, k_eIf, k_nil, k_seq, k_set, k_own, k_drop, k_ret, k_retN, k_retO, k_if, k_fz, fz_z, fz_s, k_gN, k_gsN, k_gsC, k_gT, k_asg, k_for, k_fnil, k_fcons, k_app, oL_z, oL_s, k_par, k_run, k_runN, k_fld, oO_z, k_add, k_addL, k_sub, k_mul, k_div, k_mod, k_pow, k_neg, k_lt, k_le, k_gt, k_ge, k_eqI, k_neI, k_int, k_intB, k_abs, k_lenL, k_lenT, k_lenC, k_tru, k_tupL, k_tupT, k_items_l, k_items_t, k_rng1, k_ixL, k_ixT, k_ixC, k_fldD, ok_nox, ok_ok, ok_bind, List.set_cons_zero, List.set_cons_succ, startS, startN, List.map_cons, List.map_nil, List.cons_append, List.nil_append, List.append_nil, List.length_cons, List.length_nil, List.replicate, Nat.reduceSub, Nat.reduceAdd, Nat.reduceLeDiff, Nat.zero_add, true_and, and_true, false_implies, true_implies, implies_true, forall_const, reduceCtorEq, Bool.not_true, Bool.not_false, Bool.not_eq_true'])
      refine ⟨by simp only [List.length_map, List.length_append, List.length_cons, List.length_nil, wl]; omega, (some (Sl.mk false (p.1))), ?_⟩
      rw [List.map_append (l₁ := done), gflat_app]
      simp [gflat]
    · rintro S ⟨a, rfl⟩
      exact ⟨rfl, a, rfl⟩
  rintro S ⟨a, rfl⟩
  (try simp only [↓k_guard, k_no, k_I, k_S, k_B, k_N, k_G, k_Y, k_V, k_W, k_O, g0_z, g0_s, gA_z, gA_s, g1_z, g1_s, k_1, k_2, k_n, k_c, k_T, k_L, k_C, k_f1, k_f2, k_App, k_M, k_P, k_3, k_tB, k_tT, k_toB, k_tNo, k_tA, k_tO, k_tY, k_And, k_Or, k_Not, k_eIf, k_nil, k_seq, k_set, k_own, k_drop, k_ret, k_retN, k_retO, k_if, k_fz, fz_z, fz_s, k_gN, k_gsN, k_gsC, k_gT, k_asg, k_for, k_fnil, k_fcons, k_app, oL_z, oL_s, k_par, k_run, k_runN, k_fld, oO_z, k_add, k_addL, k_sub, k_mul, k_div, k_mod, k_pow, k_neg, k_lt, k_le, k_gt, k_ge, k_eqI, k_neI, k_int, k_intB, k_abs, k_lenL, k_lenT, k_lenC, k_tru, k_tupL, k_tupT, k_items_l, k_items_t, k_rng1, k_ixL, k_ixT, k_ixC, k_fldD, ok_nox, ok_ok, ok_bind, List.set_cons_zero, List.set_cons_succ, startS, startN, List.map_cons, List.map_nil, List.cons_append, List.nil_append, List.append_nil, List.length_cons, List.length_nil, List.replicate, Nat.reduceSub, Nat.reduceAdd, Nat.reduceLeDiff, Nat.zero_add, true_and, and_true, false_implies, true_implies, implies_true, forall_const, reduceCtorEq, Bool.not_true, Bool.not_false, Bool.not_eq_true'])
theorem step_lwords {n : Nat} {r : RowT} (hr : r.Ok) (gl : List (D × List Str)) (h : ∀ p ∈ gl, Wd d__law_words' n p) (hl : gl.length ≤ 5) : Ok (d__law_words' (n + 1) [jD r (gl.map (·.1))]) fun d => d = .lst ((rowW r ++ gflat (gl.map (·.2))).map .str) := by
  have hs := size_ge
  obtain ⟨hb, hcl, hc, hn, hm⟩ := hr
  show Ok ((runF false 7 (m__law_words (d__law_words' n)) _).nox) _
  unfold m__law_words
  rw [ok_nox, k_run]
  refine Ok.mono (P := fun z => z.1 = .rt (.lst ((rowW r ++ gflat (gl.map (·.2))).map .str))) ?_ fun z h => by rw [h]
  have r0 : ∀ {Q : D → Prop}, Ok (ixD (rowD r) (.int 0)) Q ↔ Q (.int r.bit) := fun {Q} => ok_ok
  have r1 : ∀ {Q : D → Prop}, Ok (ixD (rowD r) (.int 1)) Q ↔ Q (csD r.cs) := fun {Q} => ok_ok
  have r2 : ∀ {Q : D → Prop}, Ok (ixD (rowD r) (.int 2)) Q ↔ Q (.int r.ran) := fun {Q} => ok_ok
  have r3 : ∀ {Q : D → Prop}, Ok (ixD (rowD r) (.int 3)) Q ↔ Q (.int r.more) := fun {Q} => ok_ok
  have lC : ∀ {Q : D → Prop}, Ok (lenD (csD r.cs)) Q ↔ Q (.int r.cs.length) := fun {Q} => by
    show Ok (lenD (.tup (r.cs.map .int))) Q ↔ _
    rw [k_lenT, List.length_map]
  refine seq_cut (fun S => S = [(some (Sl.mk false (jD r (gl.map (·.1))))), (some (Sl.mk false (rowD r))), (some (Sl.mk false (.tup (gl.map (·.1))))), none, none, none, none]) (by (try simp only [↓k_guard, k_no, k_I, k_S, k_B, k_N, k_G, k_Y, k_V, k_W, k_O, g0_z, g0_s, gA_z, gA_s, g1_z, g1_s, k_1, k_2, k_n, k_c, k_T, k_L, k_C, k_f1, k_f2, k_App, k_M, k_P, k_3, k_tB, k_tT, k_toB, k_tNo, k_tA, k_tO, k_tY, k_And, k_Or, k_Not, k_eIf, k_nil, k_seq, k_set, k_own, k_drop, k_ret, k_retN, k_retO, k_if, k_fz, fz_z, fz_s, k_gN, k_gsN, k_gsC, k_gT, k_asg, k_for, k_fnil, k_fcons, k_app, oL_z, oL_s, k_par, k_run, k_runN, k_fld, oO_z, k_add, k_addL, k_sub, k_mul, k_div, k_mod, k_pow, k_neg, k_lt, k_le, k_gt, k_ge, k_eqI, k_neI, k_int, k_intB, k_abs, k_lenL, k_lenT, k_lenC, k_tru, k_tupL, k_tupT, k_items_l, k_items_t, k_rng1, k_ixL, k_ixT, k_ixC, k_fldD, ok_nox, ok_ok, ok_bind, List.set_cons_zero, List.set_cons_succ, startS, startN, List.map_cons, List.map_nil, List.cons_append, List.nil_append, List.append_nil, List.length_cons, List.length_nil, List.replicate, Nat.reduceSub, Nat.reduceAdd, Nat.reduceLeDiff, Nat.zero_add, true_and, and_true, false_implies, true_implies, implies_true, forall_const, reduceCtorEq, Bool.not_true, Bool.not_false, Bool.not_eq_true', k_gj])) ?_
  rintro S rfl
  refine seq_cut (fun S => S = [(some (Sl.mk false (jD r (gl.map (·.1))))), (some (Sl.mk false (rowD r))), (some (Sl.mk false (.tup (gl.map (·.1))))), (some (Sl.mk false (.str (tx (r.cs.map code))))), none, none, none]) ?_ ?_
  · rw [k_set]
    refine join_cs hcl (by (try simp only [↓k_guard, k_no, k_I, k_S, k_B, k_N, k_G, k_Y, k_V, k_W, k_O, g0_z, g0_s, gA_z, gA_s, g1_z, g1_s, k_1, k_2, k_n, k_c, k_T, k_L, k_C, k_f1, k_f2, k_App, k_M, k_P, k_3, k_tB, k_tT, k_toB, k_tNo, k_tA, k_tO, k_tY, k_And, k_Or, k_Not, k_eIf, k_nil, k_seq, k_set, k_own, k_drop, k_ret, k_retN, k_retO, k_if, k_fz, fz_z, fz_s, k_gN, k_gsN, k_gsC, k_gT, k_asg, k_for, k_fnil, k_fcons, k_app, oL_z, oL_s, k_par, k_run, k_runN, k_fld, oO_z, k_add, k_addL, k_sub, k_mul, k_div, k_mod, k_pow, k_neg, k_lt, k_le, k_gt, k_ge, k_eqI, k_neI, k_int, k_intB, k_abs, k_lenL, k_lenT, k_lenC, k_tru, k_tupL, k_tupT, k_items_l, k_items_t, k_rng1, k_ixL, k_ixT, k_ixC, k_fldD, ok_nox, ok_ok, ok_bind, List.set_cons_zero, List.set_cons_succ, startS, startN, List.map_cons, List.map_nil, List.cons_append, List.nil_append, List.append_nil, List.length_cons, List.length_nil, List.replicate, Nat.reduceSub, Nat.reduceAdd, Nat.reduceLeDiff, Nat.zero_add, true_and, and_true, false_implies, true_implies, implies_true, forall_const, reduceCtorEq, Bool.not_true, Bool.not_false, Bool.not_eq_true', r1, k_itC])) ?_ ⟨rfl, rfl⟩
    intro c hcm
    (try simp only [↓k_guard, k_no, k_I, k_S, k_B, k_N, k_G, k_Y, k_V, k_W, k_O, g0_z, g0_s, gA_z, gA_s, g1_z, g1_s, k_1, k_2, k_n, k_c, k_T, k_L, k_C, k_f1, k_f2, k_App, k_M, k_P, k_3, k_tB, k_tT, k_toB, k_tNo, k_tA, k_tO, k_tY, k_And, k_Or, k_Not, k_eIf, k_nil, k_seq, k_set, k_own, k_drop, k_ret, k_retN, k_retO, k_if, k_fz, fz_z, fz_s, k_gN, k_gsN, k_gsC, k_gT, k_asg, k_for, k_fnil, k_fcons, k_app, oL_z, oL_s, k_par, k_run, k_runN, k_fld, oO_z, k_add, k_addL, k_sub, k_mul, k_div, k_mod, k_pow, k_neg, k_lt, k_le, k_gt, k_ge, k_eqI, k_neI, k_int, k_intB, k_abs, k_lenL, k_lenT, k_lenC, k_tru, k_tupL, k_tupT, k_items_l, k_items_t, k_rng1, k_ixL, k_ixT, k_ixC, k_fldD, ok_nox, ok_ok, ok_bind, List.set_cons_zero, List.set_cons_succ, startS, startN, List.map_cons, List.map_nil, List.cons_append, List.nil_append, List.append_nil, List.length_cons, List.length_nil, List.replicate, Nat.reduceSub, Nat.reduceAdd, Nat.reduceLeDiff, Nat.zero_add, true_and, and_true, false_implies, true_implies, implies_true, forall_const, reduceCtorEq, Bool.not_true, Bool.not_false, Bool.not_eq_true', wipeS])
    rw [ix01 (hc c hcm), ok_ok]
  rintro S rfl
  refine seq_cut (fun S => S = [(some (Sl.mk false (jD r (gl.map (·.1))))), (some (Sl.mk false (rowD r))), (some (Sl.mk false (.tup (gl.map (·.1))))), (some (Sl.mk false (.str (ew r.cs)))), none, none, none]) ?_ ?_
  · (try simp only [↓k_guard, k_no, k_I, k_S, k_B, k_N, k_G, k_Y, k_V, k_W, k_O, g0_z, g0_s, gA_z, gA_s, g1_z, g1_s, k_1, k_2, k_n, k_c, k_T, k_L, k_C, k_f1, k_f2, k_App, k_M, k_P, k_3, k_tB, k_tT, k_toB, k_tNo, k_tA, k_tO, k_tY, k_And, k_Or, k_Not, k_eIf, k_nil, k_seq, k_set, k_own, k_drop, k_ret, k_retN, k_retO, k_if, k_fz, fz_z, fz_s, k_gN, k_gsN, k_gsC, k_gT, k_asg, k_for, k_fnil, k_fcons, k_app, oL_z, oL_s, k_par, k_run, k_runN, k_fld, oO_z, k_add, k_addL, k_sub, k_mul, k_div, k_mod, k_pow, k_neg, k_lt, k_le, k_gt, k_ge, k_eqI, k_neI, k_int, k_intB, k_abs, k_lenL, k_lenT, k_lenC, k_tru, k_tupL, k_tupT, k_items_l, k_items_t, k_rng1, k_ixL, k_ixT, k_ixC, k_fldD, ok_nox, ok_ok, ok_bind, List.set_cons_zero, List.set_cons_succ, startS, startN, List.map_cons, List.map_nil, List.cons_append, List.nil_append, List.append_nil, List.length_cons, List.length_nil, List.replicate, Nat.reduceSub, Nat.reduceAdd, Nat.reduceLeDiff, Nat.zero_add, true_and, and_true, false_implies, true_implies, implies_true, forall_const, reduceCtorEq, Bool.not_true, Bool.not_false, Bool.not_eq_true', r1, lC])
    unfold ew
    refine ⟨fun h0 => ?_, fun h0 => ?_⟩
    · have := of_decide_eq_true h0
      rw [if_pos (List.length_eq_zero_iff.mp (by omega))]
    · have := of_decide_eq_false h0
      rw [if_neg (fun e => this (by rw [e]; rfl))]
  rintro S rfl
  refine seq_cut (fun S => S = [(some (Sl.mk false (jD r (gl.map (·.1))))), (some (Sl.mk false (rowD r))), (some (Sl.mk false (.tup (gl.map (·.1))))), (some (Sl.mk false (.str (ew r.cs)))), (some (Sl.mk true (.lst ((rowW r).map .str)))), none, none]) ?_ ?_
  · (try simp only [↓k_guard, k_no, k_I, k_S, k_B, k_N, k_G, k_Y, k_V, k_W, k_O, g0_z, g0_s, gA_z, gA_s, g1_z, g1_s, k_1, k_2, k_n, k_c, k_T, k_L, k_C, k_f1, k_f2, k_App, k_M, k_P, k_3, k_tB, k_tT, k_toB, k_tNo, k_tA, k_tO, k_tY, k_And, k_Or, k_Not, k_eIf, k_nil, k_seq, k_set, k_own, k_drop, k_ret, k_retN, k_retO, k_if, k_fz, fz_z, fz_s, k_gN, k_gsN, k_gsC, k_gT, k_asg, k_for, k_fnil, k_fcons, k_app, oL_z, oL_s, k_par, k_run, k_runN, k_fld, oO_z, k_add, k_addL, k_sub, k_mul, k_div, k_mod, k_pow, k_neg, k_lt, k_le, k_gt, k_ge, k_eqI, k_neI, k_int, k_intB, k_abs, k_lenL, k_lenT, k_lenC, k_tru, k_tupL, k_tupT, k_items_l, k_items_t, k_rng1, k_ixL, k_ixT, k_ixC, k_fldD, ok_nox, ok_ok, ok_bind, List.set_cons_zero, List.set_cons_succ, startS, startN, List.map_cons, List.map_nil, List.cons_append, List.nil_append, List.append_nil, List.length_cons, List.length_nil, List.replicate, Nat.reduceSub, Nat.reduceAdd, Nat.reduceLeDiff, Nat.zero_add, true_and, and_true, false_implies, true_implies, implies_true, forall_const, reduceCtorEq, Bool.not_true, Bool.not_false, Bool.not_eq_true', r0, r2, r3])
    rw [ixb hb, ok_ok]
    (try simp only [↓k_guard, k_no, k_I, k_S, k_B, k_N, k_G, k_Y, k_V, k_W, k_O, g0_z, g0_s, gA_z, gA_s, g1_z, g1_s, k_1, k_2, k_n, k_c, k_T, k_L, k_C, k_f1, k_f2, k_App, k_M, k_P, k_3, k_tB, k_tT, k_toB, k_tNo, k_tA, k_tO, k_tY, k_And, k_Or, k_Not, k_eIf, k_nil, k_seq, k_set, k_own, k_drop, k_ret, k_retN, k_retO, k_if, k_fz, fz_z, fz_s, k_gN, k_gsN, k_gsC, k_gT, k_asg, k_for, k_fnil, k_fcons, k_app, oL_z, oL_s, k_par, k_run, k_runN, k_fld, oO_z, k_add, k_addL, k_sub, k_mul, k_div, k_mod, k_pow, k_neg, k_lt, k_le, k_gt, k_ge, k_eqI, k_neI, k_int, k_intB, k_abs, k_lenL, k_lenT, k_lenC, k_tru, k_tupL, k_tupT, k_items_l, k_items_t, k_rng1, k_ixL, k_ixT, k_ixC, k_fldD, ok_nox, ok_ok, ok_bind, List.set_cons_zero, List.set_cons_succ, startS, startN, List.map_cons, List.map_nil, List.cons_append, List.nil_append, List.append_nil, List.length_cons, List.length_nil, List.replicate, Nat.reduceSub, Nat.reduceAdd, Nat.reduceLeDiff, Nat.zero_add, true_and, and_true, false_implies, true_implies, implies_true, forall_const, reduceCtorEq, Bool.not_true, Bool.not_false, Bool.not_eq_true'])
    rw [ix012 hn, ok_ok]
    (try simp only [↓k_guard, k_no, k_I, k_S, k_B, k_N, k_G, k_Y, k_V, k_W, k_O, g0_z, g0_s, gA_z, gA_s, g1_z, g1_s, k_1, k_2, k_n, k_c, k_T, k_L, k_C, k_f1, k_f2, k_App, k_M, k_P, k_3, k_tB, k_tT, k_toB, k_tNo, k_tA, k_tO, k_tY, k_And, k_Or, k_Not, k_eIf, k_nil, k_seq, k_set, k_own, k_drop, k_ret, k_retN, k_retO, k_if, k_fz, fz_z, fz_s, k_gN, k_gsN, k_gsC, k_gT, k_asg, k_for, k_fnil, k_fcons, k_app, oL_z, oL_s, k_par, k_run, k_runN, k_fld, oO_z, k_add, k_addL, k_sub, k_mul, k_div, k_mod, k_pow, k_neg, k_lt, k_le, k_gt, k_ge, k_eqI, k_neI, k_int, k_intB, k_abs, k_lenL, k_lenT, k_lenC, k_tru, k_tupL, k_tupT, k_items_l, k_items_t, k_rng1, k_ixL, k_ixT, k_ixC, k_fldD, ok_nox, ok_ok, ok_bind, List.set_cons_zero, List.set_cons_succ, startS, startN, List.map_cons, List.map_nil, List.cons_append, List.nil_append, List.append_nil, List.length_cons, List.length_nil, List.replicate, Nat.reduceSub, Nat.reduceAdd, Nat.reduceLeDiff, Nat.zero_add, true_and, and_true, false_implies, true_implies, implies_true, forall_const, reduceCtorEq, Bool.not_true, Bool.not_false, Bool.not_eq_true', r3])
    rw [ixm hm, ok_ok]
    exact ⟨by first | omega | (simp <;> omega), rfl⟩
  rintro S rfl
  refine seq_cut (fun S => ∃ a, S = [(some (Sl.mk false (jD r (gl.map (·.1))))), (some (Sl.mk false (rowD r))), (some (Sl.mk false (.tup (gl.map (·.1))))), (some (Sl.mk false (.str (ew r.cs)))), (some (Sl.mk true (.lst ((rowW r ++ gflat (gl.map (·.2))).map .str)))), a, none]) ?_ ?_
  · (try simp only [↓k_guard, k_no, k_I, k_S, k_B, k_N, k_G, k_Y, k_V, k_W, k_O, g0_z, g0_s, gA_z, gA_s, g1_z, g1_s, k_1, k_2, k_n, k_c, k_T, k_L, k_C, k_f1, k_f2, k_App, k_M, k_P, k_3, k_tB, k_tT, k_toB, k_tNo, k_tA, k_tO, k_tY, k_And, k_Or, k_Not, k_eIf, k_nil, k_seq, k_set, k_own, k_drop, k_ret, k_retN, k_retO, k_if, k_fz, fz_z, fz_s, k_gN, k_gsN, k_gsC, k_gT, k_asg, k_for, k_fnil, k_fcons, k_app, oL_z, oL_s, k_par, k_run, k_runN, k_fld, oO_z, k_add, k_addL, k_sub, k_mul, k_div, k_mod, k_pow, k_neg, k_lt, k_le, k_gt, k_ge, k_eqI, k_neI, k_int, k_intB, k_abs, k_lenL, k_lenT, k_lenC, k_tru, k_tupL, k_tupT, k_items_l, k_items_t, k_rng1, k_ixL, k_ixT, k_ixC, k_fldD, ok_nox, ok_ok, ok_bind, List.set_cons_zero, List.set_cons_succ, startS, startN, List.map_cons, List.map_nil, List.cons_append, List.nil_append, List.append_nil, List.length_cons, List.length_nil, List.replicate, Nat.reduceSub, Nat.reduceAdd, Nat.reduceLeDiff, Nat.zero_add, true_and, and_true, false_implies, true_implies, implies_true, forall_const, reduceCtorEq, Bool.not_true, Bool.not_false, Bool.not_eq_true'])
    refine for_typed (fun p : D × List Str => p.1) (fun done S => ∃ a, S = [(some (Sl.mk false (jD r (gl.map (·.1))))), (some (Sl.mk false (rowD r))), (some (Sl.mk false (.tup (gl.map (·.1))))), (some (Sl.mk false (.str (ew r.cs)))), (some (Sl.mk true (.lst ((rowW r ++ gflat (done.map (·.2))).map .str)))), a, none]) gl _ ⟨none, by simp [gflat]⟩ ?_ ?_
    · rintro done p rest S e ⟨a, rfl⟩
      obtain ⟨pl, po⟩ := h p (by rw [e]; simp)
      have dl : (gflat (done.map (·.2))).length ≤ 102 * 5 := by
        have := flat_len (done.map (·.2)) (fun ws hw => by obtain ⟨q, hq, rfl⟩ := List.mem_map.mp hw; exact (h q (by rw [e]; simp [hq])).1)
        have l2 := congrArg List.length e
        simp only [List.length_append, List.length_cons] at l2
        rw [List.length_map] at this
        omega
      have wl : (rowW r).length = 4 := rfl
      rw [k_gN, k_ext]
      (try simp only [↓k_guard, k_no, k_I, k_S, k_B, k_N, k_G, k_Y, k_V, k_W, k_O, g0_z, g0_s, gA_z, gA_s, g1_z, g1_s, k_1, k_2, k_n, k_c, k_T, k_L, k_C, k_f1, k_f2, k_App, k_M, k_P, k_3, k_tB, k_tT, k_toB, k_tNo, k_tA, k_tO, k_tY, k_And, k_Or, k_Not, k_eIf, k_nil, k_seq, k_set, k_own, k_drop, k_ret, k_retN, k_retO, k_if, k_fz, fz_z, fz_s, k_gN, k_gsN, k_gsC, k_gT, k_asg, k_for, k_fnil, k_fcons, k_app, oL_z, oL_s, k_par, k_run, k_runN, k_fld, oO_z, k_add, k_addL, k_sub, k_mul, k_div, k_mod, k_pow, k_neg, k_lt, k_le, k_gt, k_ge, k_eqI, k_neI, k_int, k_intB, k_abs, k_lenL, k_lenT, k_lenC, k_tru, k_tupL, k_tupT, k_items_l, k_items_t, k_rng1, k_ixL, k_ixT, k_ixC, k_fldD, ok_nox, ok_ok, ok_bind, List.set_cons_zero, List.set_cons_succ, startS, startN, List.map_cons, List.map_nil, List.cons_append, List.nil_append, List.append_nil, List.length_cons, List.length_nil, List.replicate, Nat.reduceSub, Nat.reduceAdd, Nat.reduceLeDiff, Nat.zero_add, true_and, and_true, false_implies, true_implies, implies_true, forall_const, reduceCtorEq, Bool.not_true, Bool.not_false, Bool.not_eq_true'])
      refine ⟨by first | omega | (simp <;> omega), ?_⟩
      refine po.mono ?_
      rintro d rfl
      (try simp only [↓k_guard, k_no, k_I, k_S, k_B, k_N, k_G, k_Y, k_V, k_W, k_O, g0_z, g0_s, gA_z, gA_s, g1_z, g1_s, k_1, k_2, k_n, k_c, k_T, k_L, k_C, k_f1, k_f2, k_App, k_M, k_P, k_3, k_tB, k_tT, k_toB, k_tNo, k_tA, k_tO, k_tY, k_And, k_Or, k_Not, k_eIf, k_nil, k_seq, k_set, k_own, k_drop, k_ret, k_retN, k_retO, k_if, k_fz, fz_z, fz_s, k_gN, k_gsN, k_gsC, k_gT, k_asg, k_for, k_fnil, k_fcons, k_app, oL_z, oL_s, k_par, k_run, k_runN, k_fld, oO_z, k_add, k_addL, k_sub, k_mul, k_div, k_mod, k_pow, k_neg, k_lt, k_le, k_gt, k_ge, k_eqI, k_neI, k_int, k_intB, k_abs, k_lenL, k_lenT, k_lenC, k_tru, k_tupL, k_tupT, k_items_l, k_items_t, k_rng1, k_ixL, k_ixT, k_ixC, k_fldD, ok_nox, ok_ok, ok_bind, List.set_cons_zero, List.set_cons_succ, startS, startN, List.map_cons, List.map_nil, List.cons_append, List.nil_append, List.append_nil, List.length_cons, List.length_nil, List.replicate, Nat.reduceSub, Nat.reduceAdd, Nat.reduceLeDiff, Nat.zero_add, true_and, and_true, false_implies, true_implies, implies_true, forall_const, reduceCtorEq, Bool.not_true, Bool.not_false, Bool.not_eq_true'])
      refine ⟨by simp only [List.length_map, List.length_cons, List.length_nil]; omega, by first | omega | (simp <;> omega), by simp only [List.length_map, List.length_append, List.length_cons, List.length_nil]; omega, _, rfl, by simp only [List.length_map, List.length_append, List.length_cons, List.length_nil, wl]; omega, (some (Sl.mk false (p.1))), ?_⟩
      rw [List.map_append (l₁ := done), gflat_app]
      simp [gflat]
    · rintro S ⟨a, rfl⟩
      exact ⟨rfl, a, rfl⟩
  rintro S ⟨a, rfl⟩
  (try simp only [↓k_guard, k_no, k_I, k_S, k_B, k_N, k_G, k_Y, k_V, k_W, k_O, g0_z, g0_s, gA_z, gA_s, g1_z, g1_s, k_1, k_2, k_n, k_c, k_T, k_L, k_C, k_f1, k_f2, k_App, k_M, k_P, k_3, k_tB, k_tT, k_toB, k_tNo, k_tA, k_tO, k_tY, k_And, k_Or, k_Not, k_eIf, k_nil, k_seq, k_set, k_own, k_drop, k_ret, k_retN, k_retO, k_if, k_fz, fz_z, fz_s, k_gN, k_gsN, k_gsC, k_gT, k_asg, k_for, k_fnil, k_fcons, k_app, oL_z, oL_s, k_par, k_run, k_runN, k_fld, oO_z, k_add, k_addL, k_sub, k_mul, k_div, k_mod, k_pow, k_neg, k_lt, k_le, k_gt, k_ge, k_eqI, k_neI, k_int, k_intB, k_abs, k_lenL, k_lenT, k_lenC, k_tru, k_tupL, k_tupT, k_items_l, k_items_t, k_rng1, k_ixL, k_ixT, k_ixC, k_fldD, ok_nox, ok_ok, ok_bind, List.set_cons_zero, List.set_cons_succ, startS, startN, List.map_cons, List.map_nil, List.cons_append, List.nil_append, List.append_nil, List.length_cons, List.length_nil, List.replicate, Nat.reduceSub, Nat.reduceAdd, Nat.reduceLeDiff, Nat.zero_add, true_and, and_true, false_implies, true_implies, implies_true, forall_const, reduceCtorEq, Bool.not_true, Bool.not_false, Bool.not_eq_true'])
end Pf
set_option Elab.async false
set_option linter.all false
set_option maxRecDepth 100000
namespace Pf
open M PySem L2
theorem mean0 {n : Int} (h : n = 0 ∨ n = 1) : d_meaning [.int 0, .str (sg (code n))] = .ok (.int n) := by rcases h with rfl | rfl <;> kernel_rfl
theorem mean2 {n : Int} (h : n = -1 ∨ n = 0 ∨ n = 1 ∨ n = 2) : d_meaning [.int 2, .str (sg (code n))] = .ok (.int n) := by rcases h with rfl | rfl | rfl | rfl <;> kernel_rfl
theorem mean3 {n : Int} (h : n = 0 ∨ n = 1) : d_meaning [.int 3, .str (mw n)] = .ok (.int n) := by rcases h with rfl | rfl <;> kernel_rfl
theorem mean1 : ∀ (cs : List Int), cs.length ≤ 3 → (∀ c ∈ cs, c = -1 ∨ c = 0 ∨ c = 1) → d_meaning [.int 1, .str (ew cs)] = .ok (csD cs)
  | [], _, _ => by kernel_rfl
  | [a], _, h => by
    rcases h a (by simp) with rfl | rfl | rfl <;> kernel_rfl
  | [a, b], _, h => by
    rcases h a (by simp) with rfl | rfl | rfl <;> rcases h b (by simp) with rfl | rfl | rfl <;> kernel_rfl
  | [a, b, c], _, h => by
    rcases h a (by simp) with rfl | rfl | rfl <;> rcases h b (by simp) with rfl | rfl | rfl <;> rcases h c (by simp) with rfl | rfl | rfl <;> kernel_rfl
  | _ :: _ :: _ :: _ :: _, h, _ => by simp at h
def valsR (r : RowT) : List D := [.int r.bit, csD r.cs, .int r.ran, .int r.more]
theorem mean_i {r : RowT} (hr : r.Ok) : ∀ i : Nat, i < 4 → ∃ w v, (rowW r)[i]? = some w ∧ (valsR r)[i]? = some v ∧ d_meaning [.int i, .str w] = .ok v ∧ v.isNon = false
  | 0, _ => ⟨_, _, rfl, rfl, mean0 hr.b, rfl⟩
  | 1, _ => ⟨_, _, rfl, rfl, mean1 _ hr.l hr.c, rfl⟩
  | 2, _ => ⟨_, _, rfl, rfl, mean2 hr.n, rfl⟩
  | 3, _ => ⟨_, _, rfl, rfl, mean3 hr.m, rfl⟩
  | n + 4, h => by omega
theorem isD_non {d : D} {Q : D → Prop} : Ok (isD d .non) Q ↔ Q (.bl d.isNon) := ok_ok
theorem atI_mid {A B : List Str} {w : Str} {i : Int} (h : i = A.length) : L2.atI ((A ++ w :: B).map D.str) i = some (.str w) := by
  subst h
  unfold L2.atI ixN
  rw [if_pos (by omega), if_pos (by simp; omega)]
  simp
theorem p_word_at {A B : List Str} {w : Str} {W : List Str} {i : Int} (hW : W = A ++ w :: B) (h : i = A.length) : Ok (d_word_at [.lst (W.map .str), .int i]) fun d => d = .str w := by
  unfold d_word_at m_word_at
  rw [ok_nox, k_run]
  have hl : decide (i = (W.length : Int)) = false := decide_eq_false (by rw [hW, h]; simp; omega)
  (try simp only [↓k_guard, k_no, k_I, k_S, k_B, k_N, k_G, k_Y, k_V, k_W, k_O, g0_z, g0_s, gA_z, gA_s, g1_z, g1_s, k_1, k_2, k_n, k_c, k_T, k_L, k_C, k_f1, k_f2, k_App, k_M, k_P, k_3, k_tB, k_tT, k_toB, k_tNo, k_tA, k_tO, k_tY, k_And, k_Or, k_Not, k_eIf, k_nil, k_seq, k_set, k_own, k_drop, k_ret, k_retN, k_retO, k_if, k_fz, fz_z, fz_s, k_gN, k_gsN, k_gsC, k_gT, k_asg, k_for, k_fnil, k_fcons, k_app, oL_z, oL_s, k_par, k_run, k_runN, k_fld, oO_z, k_add, k_addL, k_sub, k_mul, k_div, k_mod, k_pow, k_neg, k_lt, k_le, k_gt, k_ge, k_eqI, k_neI, k_int, k_intB, k_abs, k_lenL, k_lenT, k_lenC, k_tru, k_tupL, k_tupT, k_items_l, k_items_t, k_rng1, k_ixL, k_ixT, k_ixC, k_fldD, ok_nox, ok_ok, ok_bind, List.set_cons_zero, List.set_cons_succ, startS, startN, List.map_cons, List.map_nil, List.cons_append, List.nil_append, List.append_nil, List.length_cons, List.length_nil, List.replicate, Nat.reduceSub, Nat.reduceAdd, Nat.reduceLeDiff, Nat.zero_add, true_and, and_true, false_implies, true_implies, implies_true, forall_const, reduceCtorEq, Bool.not_true, Bool.not_false, Bool.not_eq_true', List.length_map, hl])
  exact ⟨_, by rw [hW]; exact atI_mid h, rfl⟩
theorem k_gT3 {a b c : D} {g : FGs} {S : M.Env} {QE : M.Env → Prop} : Ok (gT 3 g (.tup [a, b, c]) S) QE ↔ Ok (g [a, b, c] S) QE := by rw [k_gT]; simp
theorem eq_par : eqD (.str "(") (.str "(") = .ok (.bl true) := by kernel_rfl
theorem eq_par2 : eqD (.str ")") (.str "(") = .ok (.bl false) := by kernel_rfl
theorem ne_par : neD (.str ")") (.str ")") = .ok (.bl false) := by kernel_rfl
theorem gv_most : gv_MOST_ROWS = .int 3 := rfl
abbrev G3 := D × List Str × Nat
/-- what is read of a joint row -/
def Rdj (n : Nat) (p : G3) : Prop := ∀ (pre post : List Str) (b : Nat), pre.length + p.2.1.length + post.length ≤ 1000 → b + p.2.2 ≤ 3 → (post = [] ∨ ∃ r, post = (")" : Str) :: r) →
  Ok (d_read_joint' n [.lst ((pre ++ (p.2.1 ++ post)).map .str), .int pre.length, .int b]) fun d => d = .tup [p.1, .int (pre.length + p.2.1.length : Nat), .int (b + p.2.2 : Nat)]
def cnt (l : List G3) : Nat := (l.map fun p => p.2.2 + 1).sum
def gfl (l : List G3) : List Str := gflat (l.map fun p => p.2.1)
theorem gfl_app (a b : List G3) : gfl (a ++ b) = gfl a ++ gfl b := by unfold gfl; rw [List.map_append, gflat_app]
theorem gfl_cons (p : G3) (b : List G3) : gfl (p :: b) = (("(" : Str) :: (p.2.1 ++ [(")" : Str)])) ++ gfl b := rfl
theorem cnt_app (a b : List G3) : cnt (a ++ b) = cnt a + cnt b := by unfold cnt; rw [List.map_append, List.sum_append]
theorem step_read {n : Nat} {r : RowT} (hr : r.Ok) (gl : List G3) (h : ∀ p ∈ gl, Rdj n p) (hl : gl.length ≤ 5) : Rdj (n + 1) (jD r (gl.map (·.1)), rowW r ++ gfl gl, cnt gl) := by
  intro pre post b hlen hb hp
  have hs := size_ge
  have wl : (rowW r).length = 4 := rfl
  simp only at hlen hb ⊢
  rw [List.length_append, wl] at hlen
  obtain ⟨W, hW⟩ : ∃ W, W = pre ++ ((rowW r ++ gfl gl) ++ post) := ⟨_, rfl⟩
  rw [← hW]
  have hWl : W.length = pre.length + 4 + (gfl gl).length + post.length := by rw [hW]; simp only [List.length_append, wl]; omega
  show Ok ((runF false 8 (m_read_joint (d_read_joint' n)) _).nox) _
  unfold m_read_joint
  rw [ok_nox, k_run]
  refine Ok.mono (P := fun z => z.1 = .rt (.tup [jD r (gl.map (·.1)), .int (pre.length + (rowW r ++ gfl gl).length : Nat), .int (b + cnt gl : Nat)])) ?_ fun z h => by rw [h]
  refine seq_cut (fun S => S = [(some (Sl.mk false (.lst (W.map .str)))), (some (Sl.mk false (.int pre.length))), (some (Sl.mk false (.int b))), (some (Sl.mk true (.lst []))), none, none, none, none]) (by (try simp only [↓k_guard, k_no, k_I, k_S, k_B, k_N, k_G, k_Y, k_V, k_W, k_O, g0_z, g0_s, gA_z, gA_s, g1_z, g1_s, k_1, k_2, k_n, k_c, k_T, k_L, k_C, k_f1, k_f2, k_App, k_M, k_P, k_3, k_tB, k_tT, k_toB, k_tNo, k_tA, k_tO, k_tY, k_And, k_Or, k_Not, k_eIf, k_nil, k_seq, k_set, k_own, k_drop, k_ret, k_retN, k_retO, k_if, k_fz, fz_z, fz_s, k_gN, k_gsN, k_gsC, k_gT, k_asg, k_for, k_fnil, k_fcons, k_app, oL_z, oL_s, k_par, k_run, k_runN, k_fld, oO_z, k_add, k_addL, k_sub, k_mul, k_div, k_mod, k_pow, k_neg, k_lt, k_le, k_gt, k_ge, k_eqI, k_neI, k_int, k_intB, k_abs, k_lenL, k_lenT, k_lenC, k_tru, k_tupL, k_tupT, k_items_l, k_items_t, k_rng1, k_ixL, k_ixT, k_ixC, k_fldD, ok_nox, ok_ok, ok_bind, List.set_cons_zero, List.set_cons_succ, startS, startN, List.map_cons, List.map_nil, List.cons_append, List.nil_append, List.append_nil, List.length_cons, List.length_nil, List.replicate, Nat.reduceSub, Nat.reduceAdd, Nat.reduceLeDiff, Nat.zero_add, true_and, and_true, false_implies, true_implies, implies_true, forall_const, reduceCtorEq, Bool.not_true, Bool.not_false, Bool.not_eq_true']); omega) ?_
  rintro S rfl
  refine seq_cut (fun S => ∃ a c, S = [(some (Sl.mk false (.lst (W.map .str)))), (some (Sl.mk false (.int (pre.length + 4 : Nat)))), (some (Sl.mk false (.int b))), (some (Sl.mk true (.lst (valsR r)))), a, c, none, none]) ?_ ?_
  · (try simp only [↓k_guard, k_no, k_I, k_S, k_B, k_N, k_G, k_Y, k_V, k_W, k_O, g0_z, g0_s, gA_z, gA_s, g1_z, g1_s, k_1, k_2, k_n, k_c, k_T, k_L, k_C, k_f1, k_f2, k_App, k_M, k_P, k_3, k_tB, k_tT, k_toB, k_tNo, k_tA, k_tO, k_tY, k_And, k_Or, k_Not, k_eIf, k_nil, k_seq, k_set, k_own, k_drop, k_ret, k_retN, k_retO, k_if, k_fz, fz_z, fz_s, k_gN, k_gsN, k_gsC, k_gT, k_asg, k_for, k_fnil, k_fcons, k_app, oL_z, oL_s, k_par, k_run, k_runN, k_fld, oO_z, k_add, k_addL, k_sub, k_mul, k_div, k_mod, k_pow, k_neg, k_lt, k_le, k_gt, k_ge, k_eqI, k_neI, k_int, k_intB, k_abs, k_lenL, k_lenT, k_lenC, k_tru, k_tupL, k_tupT, k_items_l, k_items_t, k_rng1, k_ixL, k_ixT, k_ixC, k_fldD, ok_nox, ok_ok, ok_bind, List.set_cons_zero, List.set_cons_succ, startS, startN, List.map_cons, List.map_nil, List.cons_append, List.nil_append, List.append_nil, List.length_cons, List.length_nil, List.replicate, Nat.reduceSub, Nat.reduceAdd, Nat.reduceLeDiff, Nat.zero_add, true_and, and_true, false_implies, true_implies, implies_true, forall_const, reduceCtorEq, Bool.not_true, Bool.not_false, Bool.not_eq_true'])
    refine ⟨⟨by omega, by omega⟩, ?_⟩
    refine for_inv (fun i S => ∃ a c, S = [(some (Sl.mk false (.lst (W.map .str)))), (some (Sl.mk false (.int (pre.length + i : Nat)))), (some (Sl.mk false (.int b))), (some (Sl.mk true (.lst ((valsR r).take i)))), a, c, none, none]) _ 0 _ ⟨none, none, rfl⟩ ?_ ?_
    · rintro i d S hd ⟨a, c, rfl⟩
      obtain ⟨hi, rfl⟩ := rngL_get hd
      have hi4 : i < 4 := by omega
      obtain ⟨w, v, h1, h2, h3, h4⟩ := mean_i hr i hi4
      rw [Nat.zero_add]
      have hsp : W = (pre ++ (rowW r).take i) ++ w :: ((rowW r).drop (i + 1) ++ gfl gl ++ post) := by
        rw [hW]
        have : rowW r = (rowW r).take i ++ w :: (rowW r).drop (i + 1) := by
          have hlt : i < (rowW r).length := by rw [wl]; exact hi4
          have e := List.getElem?_eq_getElem hlt
          rw [e] at h1
          have h1 := Option.some.inj h1
          rw [← h1, ← List.drop_eq_getElem_cons hlt, List.take_append_drop]
        conv => lhs; rw [this]
        simp
      (try simp only [↓k_guard, k_no, k_I, k_S, k_B, k_N, k_G, k_Y, k_V, k_W, k_O, g0_z, g0_s, gA_z, gA_s, g1_z, g1_s, k_1, k_2, k_n, k_c, k_T, k_L, k_C, k_f1, k_f2, k_App, k_M, k_P, k_3, k_tB, k_tT, k_toB, k_tNo, k_tA, k_tO, k_tY, k_And, k_Or, k_Not, k_eIf, k_nil, k_seq, k_set, k_own, k_drop, k_ret, k_retN, k_retO, k_if, k_fz, fz_z, fz_s, k_gN, k_gsN, k_gsC, k_gT, k_asg, k_for, k_fnil, k_fcons, k_app, oL_z, oL_s, k_par, k_run, k_runN, k_fld, oO_z, k_add, k_addL, k_sub, k_mul, k_div, k_mod, k_pow, k_neg, k_lt, k_le, k_gt, k_ge, k_eqI, k_neI, k_int, k_intB, k_abs, k_lenL, k_lenT, k_lenC, k_tru, k_tupL, k_tupT, k_items_l, k_items_t, k_rng1, k_ixL, k_ixT, k_ixC, k_fldD, ok_nox, ok_ok, ok_bind, List.set_cons_zero, List.set_cons_succ, startS, startN, List.map_cons, List.map_nil, List.cons_append, List.nil_append, List.append_nil, List.length_cons, List.length_nil, List.replicate, Nat.reduceSub, Nat.reduceAdd, Nat.reduceLeDiff, Nat.zero_add, true_and, and_true, false_implies, true_implies, implies_true, forall_const, reduceCtorEq, Bool.not_true, Bool.not_false, Bool.not_eq_true'])
      refine (p_word_at hsp (by rw [List.length_append, List.length_take, wl]; omega)).mono ?_
      rintro d rfl
      rw [show (0 : Int) + (i : Int) = (i : Int) by omega, h3, ok_ok]
      (try simp only [↓k_guard, k_no, k_I, k_S, k_B, k_N, k_G, k_Y, k_V, k_W, k_O, g0_z, g0_s, gA_z, gA_s, g1_z, g1_s, k_1, k_2, k_n, k_c, k_T, k_L, k_C, k_f1, k_f2, k_App, k_M, k_P, k_3, k_tB, k_tT, k_toB, k_tNo, k_tA, k_tO, k_tY, k_And, k_Or, k_Not, k_eIf, k_nil, k_seq, k_set, k_own, k_drop, k_ret, k_retN, k_retO, k_if, k_fz, fz_z, fz_s, k_gN, k_gsN, k_gsC, k_gT, k_asg, k_for, k_fnil, k_fcons, k_app, oL_z, oL_s, k_par, k_run, k_runN, k_fld, oO_z, k_add, k_addL, k_sub, k_mul, k_div, k_mod, k_pow, k_neg, k_lt, k_le, k_gt, k_ge, k_eqI, k_neI, k_int, k_intB, k_abs, k_lenL, k_lenT, k_lenC, k_tru, k_tupL, k_tupT, k_items_l, k_items_t, k_rng1, k_ixL, k_ixT, k_ixC, k_fldD, ok_nox, ok_ok, ok_bind, List.set_cons_zero, List.set_cons_succ, startS, startN, List.map_cons, List.map_nil, List.cons_append, List.nil_append, List.append_nil, List.length_cons, List.length_nil, List.replicate, Nat.reduceSub, Nat.reduceAdd, Nat.reduceLeDiff, Nat.zero_add, true_and, and_true, false_implies, true_implies, implies_true, forall_const, reduceCtorEq, Bool.not_true, Bool.not_false, Bool.not_eq_true', isD_non, h4, k_aug, bothI_i])
      refine ⟨by rw [List.length_take]; omega, (some (Sl.mk false (.int i))), (some (Sl.mk false (v))), ?_⟩
      have e1 : ((pre.length + i : Nat) : Int) + 1 = ((pre.length + (i + 1) : Nat) : Int) := by omega
      have e2 : (valsR r).take i ++ [v] = (valsR r).take (i + 1) := by rw [List.take_add_one, h2]; rfl
      rw [e1, e2]
    · rintro S ⟨a, c, rfl⟩
      rw [Nat.zero_add, rngL_len]
      exact ⟨rfl, a, c, rfl⟩
  rintro S ⟨a, c, rfl⟩
  refine seq_cut (fun S => S = [(some (Sl.mk false (.lst (W.map .str)))), (some (Sl.mk false (.int (pre.length + 4 : Nat)))), (some (Sl.mk false (.int b))), (some (Sl.mk true (.lst (valsR r)))), a, c, (some (Sl.mk true (.lst []))), none]) (by (try simp only [↓k_guard, k_no, k_I, k_S, k_B, k_N, k_G, k_Y, k_V, k_W, k_O, g0_z, g0_s, gA_z, gA_s, g1_z, g1_s, k_1, k_2, k_n, k_c, k_T, k_L, k_C, k_f1, k_f2, k_App, k_M, k_P, k_3, k_tB, k_tT, k_toB, k_tNo, k_tA, k_tO, k_tY, k_And, k_Or, k_Not, k_eIf, k_nil, k_seq, k_set, k_own, k_drop, k_ret, k_retN, k_retO, k_if, k_fz, fz_z, fz_s, k_gN, k_gsN, k_gsC, k_gT, k_asg, k_for, k_fnil, k_fcons, k_app, oL_z, oL_s, k_par, k_run, k_runN, k_fld, oO_z, k_add, k_addL, k_sub, k_mul, k_div, k_mod, k_pow, k_neg, k_lt, k_le, k_gt, k_ge, k_eqI, k_neI, k_int, k_intB, k_abs, k_lenL, k_lenT, k_lenC, k_tru, k_tupL, k_tupT, k_items_l, k_items_t, k_rng1, k_ixL, k_ixT, k_ixC, k_fldD, ok_nox, ok_ok, ok_bind, List.set_cons_zero, List.set_cons_succ, startS, startN, List.map_cons, List.map_nil, List.cons_append, List.nil_append, List.append_nil, List.length_cons, List.length_nil, List.replicate, Nat.reduceSub, Nat.reduceAdd, Nat.reduceLeDiff, Nat.zero_add, true_and, and_true, false_implies, true_implies, implies_true, forall_const, reduceCtorEq, Bool.not_true, Bool.not_false, Bool.not_eq_true']); omega) ?_
  rintro S rfl
  refine seq_cut (fun S => ∃ o, S = [(some (Sl.mk false (.lst (W.map .str)))), (some (Sl.mk false (.int (pre.length + 4 + (gfl gl).length : Nat)))), (some (Sl.mk false (.int (b + cnt gl : Nat)))), (some (Sl.mk true (.lst (valsR r)))), a, c, (some (Sl.mk true (.lst (gl.map (·.1))))), o]) ?_ ?_
  · suffices H : ∀ (rest done : List G3) (fuel : Nat) (o : Option Sl), gl = done ++ rest → rest.length < fuel → Ok (whileF (tA (tB' (e2 ltD (eW 1) (eC (f1 lenD) (aC (eW 0) aN)))) (tA (tB' (e2 eqD (e2 ixD (eW 0) (eW 1)) (eS "("))) (tB' (e2 ltD (eW 2) (eG gv_MOST_ROWS))))) (sSeq (sAsg (gT 3 (gsC (gN 7) (gsC (gN 1) (gsC (gN 2) gsN)))) (eC (d_read_joint' n) (aC (eV 0) (aC (e2 addD (eW 1) (eI (1))) (aC (e2 addD (eW 2) (eI (1))) aN)))))
        (sSeq (sIf (tB' (e2 neD (eC d_word_at (aC (eV 0) (aC (eV 1) aN))) (eS ")"))) sNo sNil)
        (sSeq (sApp 6 (eV 7))
        (sAugI 1 addD (eI (1)))))) fuel [(some (Sl.mk false (.lst (W.map .str)))), (some (Sl.mk false (.int (pre.length + 4 + (gfl done).length : Nat)))), (some (Sl.mk false (.int (b + cnt done : Nat)))), (some (Sl.mk true (.lst (valsR r)))), a, c, (some (Sl.mk true (.lst (done.map (·.1))))), o]) (fun z => z.1 = .nx ∧ ∃ o, z.2 = [(some (Sl.mk false (.lst (W.map .str)))), (some (Sl.mk false (.int (pre.length + 4 + (gfl gl).length : Nat)))), (some (Sl.mk false (.int (b + cnt gl : Nat)))), (some (Sl.mk true (.lst (valsR r)))), a, c, (some (Sl.mk true (.lst (gl.map (·.1))))), o]) from H gl [] 10 none rfl (by omega)
    intro rest
    induction rest with
    | nil =>
      intro done fuel o e hf
      rw [List.append_nil] at e
      subst e
      cases fuel with
      | zero => simp at hf
      | succ fuel =>
        rw [k_while]
        rcases hp with rfl | ⟨r', rfl⟩
        · have hc : decide (((pre.length + 4 + (gfl gl).length : Nat) : Int) < (W.length : Int)) = false := decide_eq_false (by rw [hWl]; simp)
          (try simp only [↓k_guard, k_no, k_I, k_S, k_B, k_N, k_G, k_Y, k_V, k_W, k_O, g0_z, g0_s, gA_z, gA_s, g1_z, g1_s, k_1, k_2, k_n, k_c, k_T, k_L, k_C, k_f1, k_f2, k_App, k_M, k_P, k_3, k_tB, k_tT, k_toB, k_tNo, k_tA, k_tO, k_tY, k_And, k_Or, k_Not, k_eIf, k_nil, k_seq, k_set, k_own, k_drop, k_ret, k_retN, k_retO, k_if, k_fz, fz_z, fz_s, k_gN, k_gsN, k_gsC, k_gT, k_asg, k_for, k_fnil, k_fcons, k_app, oL_z, oL_s, k_par, k_run, k_runN, k_fld, oO_z, k_add, k_addL, k_sub, k_mul, k_div, k_mod, k_pow, k_neg, k_lt, k_le, k_gt, k_ge, k_eqI, k_neI, k_int, k_intB, k_abs, k_lenL, k_lenT, k_lenC, k_tru, k_tupL, k_tupT, k_items_l, k_items_t, k_rng1, k_ixL, k_ixT, k_ixC, k_fldD, ok_nox, ok_ok, ok_bind, List.set_cons_zero, List.set_cons_succ, startS, startN, List.map_cons, List.map_nil, List.cons_append, List.nil_append, List.append_nil, List.length_cons, List.length_nil, List.replicate, Nat.reduceSub, Nat.reduceAdd, Nat.reduceLeDiff, Nat.zero_add, true_and, and_true, false_implies, true_implies, implies_true, forall_const, reduceCtorEq, Bool.not_true, Bool.not_false, Bool.not_eq_true', List.length_map, hc])
          exact ⟨_, rfl⟩
        · have hc : decide (((pre.length + 4 + (gfl gl).length : Nat) : Int) < (W.length : Int)) = true := decide_eq_true (by rw [hWl, List.length_cons]; omega)
          (try simp only [↓k_guard, k_no, k_I, k_S, k_B, k_N, k_G, k_Y, k_V, k_W, k_O, g0_z, g0_s, gA_z, gA_s, g1_z, g1_s, k_1, k_2, k_n, k_c, k_T, k_L, k_C, k_f1, k_f2, k_App, k_M, k_P, k_3, k_tB, k_tT, k_toB, k_tNo, k_tA, k_tO, k_tY, k_And, k_Or, k_Not, k_eIf, k_nil, k_seq, k_set, k_own, k_drop, k_ret, k_retN, k_retO, k_if, k_fz, fz_z, fz_s, k_gN, k_gsN, k_gsC, k_gT, k_asg, k_for, k_fnil, k_fcons, k_app, oL_z, oL_s, k_par, k_run, k_runN, k_fld, oO_z, k_add, k_addL, k_sub, k_mul, k_div, k_mod, k_pow, k_neg, k_lt, k_le, k_gt, k_ge, k_eqI, k_neI, k_int, k_intB, k_abs, k_lenL, k_lenT, k_lenC, k_tru, k_tupL, k_tupT, k_items_l, k_items_t, k_rng1, k_ixL, k_ixT, k_ixC, k_fldD, ok_nox, ok_ok, ok_bind, List.set_cons_zero, List.set_cons_succ, startS, startN, List.map_cons, List.map_nil, List.cons_append, List.nil_append, List.append_nil, List.length_cons, List.length_nil, List.replicate, Nat.reduceSub, Nat.reduceAdd, Nat.reduceLeDiff, Nat.zero_add, true_and, and_true, false_implies, true_implies, implies_true, forall_const, reduceCtorEq, Bool.not_true, Bool.not_false, Bool.not_eq_true', List.length_map, hc])
          refine ⟨.str ")", ?_, ?_⟩
          · have : W = (pre ++ (rowW r ++ gfl gl)) ++ (")" : Str) :: r' := by rw [hW]; simp
            rw [this]
            exact atI_mid (by simp only [List.length_append, wl]; omega)
          · rw [eq_par2, ok_ok]
            (try simp only [↓k_guard, k_no, k_I, k_S, k_B, k_N, k_G, k_Y, k_V, k_W, k_O, g0_z, g0_s, gA_z, gA_s, g1_z, g1_s, k_1, k_2, k_n, k_c, k_T, k_L, k_C, k_f1, k_f2, k_App, k_M, k_P, k_3, k_tB, k_tT, k_toB, k_tNo, k_tA, k_tO, k_tY, k_And, k_Or, k_Not, k_eIf, k_nil, k_seq, k_set, k_own, k_drop, k_ret, k_retN, k_retO, k_if, k_fz, fz_z, fz_s, k_gN, k_gsN, k_gsC, k_gT, k_asg, k_for, k_fnil, k_fcons, k_app, oL_z, oL_s, k_par, k_run, k_runN, k_fld, oO_z, k_add, k_addL, k_sub, k_mul, k_div, k_mod, k_pow, k_neg, k_lt, k_le, k_gt, k_ge, k_eqI, k_neI, k_int, k_intB, k_abs, k_lenL, k_lenT, k_lenC, k_tru, k_tupL, k_tupT, k_items_l, k_items_t, k_rng1, k_ixL, k_ixT, k_ixC, k_fldD, ok_nox, ok_ok, ok_bind, List.set_cons_zero, List.set_cons_succ, startS, startN, List.map_cons, List.map_nil, List.cons_append, List.nil_append, List.append_nil, List.length_cons, List.length_nil, List.replicate, Nat.reduceSub, Nat.reduceAdd, Nat.reduceLeDiff, Nat.zero_add, true_and, and_true, false_implies, true_implies, implies_true, forall_const, reduceCtorEq, Bool.not_true, Bool.not_false, Bool.not_eq_true'])
            exact ⟨_, rfl⟩
    | cons p rest ih =>
      intro done fuel o e hf
      cases fuel with
      | zero => simp at hf
      | succ fuel =>
        have hpl := h p (by rw [e]; simp)
        have ec : cnt gl = cnt done + ((p.2.2 + 1) + cnt rest) := by rw [e, cnt_app]; rfl
        have eg : gfl gl = gfl done ++ ((("(" : Str) :: (p.2.1 ++ [(")" : Str)])) ++ gfl rest) := by rw [e, gfl_app, gfl_cons]
        have egl : (gfl gl).length = (gfl done).length + (p.2.1.length + 2 + (gfl rest).length) := by rw [eg]; simp only [List.length_append, List.length_cons, List.length_nil] <;> omega
        have hW2 : W = (pre ++ (rowW r ++ gfl done)) ++ ("(" : Str) :: ((p.2.1 ++ [(")" : Str)]) ++ (gfl rest ++ post)) := by rw [hW, eg]; simp
        have hW3 : W = (pre ++ (rowW r ++ gfl done) ++ [("(" : Str)]) ++ (p.2.1 ++ ((")" : Str) :: (gfl rest ++ post))) := by rw [hW2]; simp
        have hW4 : W = (pre ++ (rowW r ++ gfl done) ++ [("(" : Str)] ++ p.2.1) ++ (")" : Str) :: (gfl rest ++ post) := by rw [hW3]; simp
        have hpre : (pre ++ (rowW r ++ gfl done) ++ [("(" : Str)]).length = pre.length + 4 + (gfl done).length + 1 := by simp only [List.length_append, wl, List.length_cons, List.length_nil]; omega
        have hc : decide (((pre.length + 4 + (gfl done).length : Nat) : Int) < (W.length : Int)) = true := decide_eq_true (by rw [hWl]; omega)
        have hc2 : decide (((b + cnt done : Nat) : Int) < 3) = true := decide_eq_true (by omega)
        rw [k_while]
        (try simp only [↓k_guard, k_no, k_I, k_S, k_B, k_N, k_G, k_Y, k_V, k_W, k_O, g0_z, g0_s, gA_z, gA_s, g1_z, g1_s, k_1, k_2, k_n, k_c, k_T, k_L, k_C, k_f1, k_f2, k_App, k_M, k_P, k_3, k_tB, k_tT, k_toB, k_tNo, k_tA, k_tO, k_tY, k_And, k_Or, k_Not, k_eIf, k_nil, k_seq, k_set, k_own, k_drop, k_ret, k_retN, k_retO, k_if, k_fz, fz_z, fz_s, k_gN, k_gsN, k_gsC, k_gT, k_asg, k_for, k_fnil, k_fcons, k_app, oL_z, oL_s, k_par, k_run, k_runN, k_fld, oO_z, k_add, k_addL, k_sub, k_mul, k_div, k_mod, k_pow, k_neg, k_lt, k_le, k_gt, k_ge, k_eqI, k_neI, k_int, k_intB, k_abs, k_lenL, k_lenT, k_lenC, k_tru, k_tupL, k_tupT, k_items_l, k_items_t, k_rng1, k_ixL, k_ixT, k_ixC, k_fldD, ok_nox, ok_ok, ok_bind, List.set_cons_zero, List.set_cons_succ, startS, startN, List.map_cons, List.map_nil, List.cons_append, List.nil_append, List.append_nil, List.length_cons, List.length_nil, List.replicate, Nat.reduceSub, Nat.reduceAdd, Nat.reduceLeDiff, Nat.zero_add, true_and, and_true, false_implies, true_implies, implies_true, forall_const, reduceCtorEq, Bool.not_true, Bool.not_false, Bool.not_eq_true', List.length_map, hc])
        refine ⟨.str "(", by rw [hW2]; exact atI_mid (by simp only [List.length_append, wl]; omega), ?_⟩
        rw [eq_par, ok_ok]
        (try simp only [↓k_guard, k_no, k_I, k_S, k_B, k_N, k_G, k_Y, k_V, k_W, k_O, g0_z, g0_s, gA_z, gA_s, g1_z, g1_s, k_1, k_2, k_n, k_c, k_T, k_L, k_C, k_f1, k_f2, k_App, k_M, k_P, k_3, k_tB, k_tT, k_toB, k_tNo, k_tA, k_tO, k_tY, k_And, k_Or, k_Not, k_eIf, k_nil, k_seq, k_set, k_own, k_drop, k_ret, k_retN, k_retO, k_if, k_fz, fz_z, fz_s, k_gN, k_gsN, k_gsC, k_gT, k_asg, k_for, k_fnil, k_fcons, k_app, oL_z, oL_s, k_par, k_run, k_runN, k_fld, oO_z, k_add, k_addL, k_sub, k_mul, k_div, k_mod, k_pow, k_neg, k_lt, k_le, k_gt, k_ge, k_eqI, k_neI, k_int, k_intB, k_abs, k_lenL, k_lenT, k_lenC, k_tru, k_tupL, k_tupT, k_items_l, k_items_t, k_rng1, k_ixL, k_ixT, k_ixC, k_fldD, ok_nox, ok_ok, ok_bind, List.set_cons_zero, List.set_cons_succ, startS, startN, List.map_cons, List.map_nil, List.cons_append, List.nil_append, List.append_nil, List.length_cons, List.length_nil, List.replicate, Nat.reduceSub, Nat.reduceAdd, Nat.reduceLeDiff, Nat.zero_add, true_and, and_true, false_implies, true_implies, implies_true, forall_const, reduceCtorEq, Bool.not_true, Bool.not_false, Bool.not_eq_true', gv_most, hc2])
        have z := hpl (pre ++ (rowW r ++ gfl done) ++ [("(" : Str)]) ((")" : Str) :: (gfl rest ++ post)) (b + cnt done + 1) (by rw [hpre]; simp only [List.length_append, List.length_cons]; omega) (by omega) (.inr ⟨_, rfl⟩)
        rw [← hW3, hpre] at z
        rw [show ((pre.length + 4 + (gfl done).length : Nat) : Int) + 1 = ((pre.length + 4 + (gfl done).length + 1 : Nat) : Int) by omega, show ((b + cnt done : Nat) : Int) + 1 = ((b + cnt done + 1 : Nat) : Int) by omega]
        refine z.mono ?_
        rintro d rfl
        (try simp only [↓k_guard, k_no, k_I, k_S, k_B, k_N, k_G, k_Y, k_V, k_W, k_O, g0_z, g0_s, gA_z, gA_s, g1_z, g1_s, k_1, k_2, k_n, k_c, k_T, k_L, k_C, k_f1, k_f2, k_App, k_M, k_P, k_3, k_tB, k_tT, k_toB, k_tNo, k_tA, k_tO, k_tY, k_And, k_Or, k_Not, k_eIf, k_nil, k_seq, k_set, k_own, k_drop, k_ret, k_retN, k_retO, k_if, k_fz, fz_z, fz_s, k_gN, k_gsN, k_gsC, k_gT, k_asg, k_for, k_fnil, k_fcons, k_app, oL_z, oL_s, k_par, k_run, k_runN, k_fld, oO_z, k_add, k_addL, k_sub, k_mul, k_div, k_mod, k_pow, k_neg, k_lt, k_le, k_gt, k_ge, k_eqI, k_neI, k_int, k_intB, k_abs, k_lenL, k_lenT, k_lenC, k_tru, k_tupL, k_tupT, k_items_l, k_items_t, k_rng1, k_ixL, k_ixT, k_ixC, k_fldD, ok_nox, ok_ok, ok_bind, List.set_cons_zero, List.set_cons_succ, startS, startN, List.map_cons, List.map_nil, List.cons_append, List.nil_append, List.append_nil, List.length_cons, List.length_nil, List.replicate, Nat.reduceSub, Nat.reduceAdd, Nat.reduceLeDiff, Nat.zero_add, true_and, and_true, false_implies, true_implies, implies_true, forall_const, reduceCtorEq, Bool.not_true, Bool.not_false, Bool.not_eq_true', k_gT3])
        refine (p_word_at hW4 (by rw [List.length_append, hpre])).mono ?_
        rintro d rfl
        rw [ne_par, ok_ok]
        (try simp only [↓k_guard, k_no, k_I, k_S, k_B, k_N, k_G, k_Y, k_V, k_W, k_O, g0_z, g0_s, gA_z, gA_s, g1_z, g1_s, k_1, k_2, k_n, k_c, k_T, k_L, k_C, k_f1, k_f2, k_App, k_M, k_P, k_3, k_tB, k_tT, k_toB, k_tNo, k_tA, k_tO, k_tY, k_And, k_Or, k_Not, k_eIf, k_nil, k_seq, k_set, k_own, k_drop, k_ret, k_retN, k_retO, k_if, k_fz, fz_z, fz_s, k_gN, k_gsN, k_gsC, k_gT, k_asg, k_for, k_fnil, k_fcons, k_app, oL_z, oL_s, k_par, k_run, k_runN, k_fld, oO_z, k_add, k_addL, k_sub, k_mul, k_div, k_mod, k_pow, k_neg, k_lt, k_le, k_gt, k_ge, k_eqI, k_neI, k_int, k_intB, k_abs, k_lenL, k_lenT, k_lenC, k_tru, k_tupL, k_tupT, k_items_l, k_items_t, k_rng1, k_ixL, k_ixT, k_ixC, k_fldD, ok_nox, ok_ok, ok_bind, List.set_cons_zero, List.set_cons_succ, startS, startN, List.map_cons, List.map_nil, List.cons_append, List.nil_append, List.append_nil, List.length_cons, List.length_nil, List.replicate, Nat.reduceSub, Nat.reduceAdd, Nat.reduceLeDiff, Nat.zero_add, true_and, and_true, false_implies, true_implies, implies_true, forall_const, reduceCtorEq, Bool.not_true, Bool.not_false, Bool.not_eq_true', k_aug, bothI_i])
        refine ⟨by rw [List.length_map]; have l2 := congrArg List.length e; simp only [List.length_append, List.length_cons] at l2; omega, ?_⟩
        have y := ih (done ++ [p]) fuel (some (Sl.mk false (p.1))) (by rw [e]; simp) (by simp at hf; omega)
        have e1 : ((pre.length + 4 + (gfl done).length + 1 + p.2.1.length : Nat) : Int) + 1 = ((pre.length + 4 + (gfl (done ++ [p])).length : Nat) : Int) := by
          rw [gfl_app, List.length_append, gfl_cons]
          simp only [List.length_append, List.length_cons, List.length_nil, gfl, List.map_nil, gflat]
          omega
        have e2 : ((b + cnt done + 1 + p.2.2 : Nat) : Int) = ((b + cnt (done ++ [p]) : Nat) : Int) := by
          rw [cnt_app]
          show _ = ((b + (cnt done + ((p.2.2 + 1) + 0)) : Nat) : Int)
          omega
        rw [e1, e2]
        rw [List.map_append] at y
        exact y
  rintro S ⟨o, rfl⟩
  (try simp only [↓k_guard, k_no, k_I, k_S, k_B, k_N, k_G, k_Y, k_V, k_W, k_O, g0_z, g0_s, gA_z, gA_s, g1_z, g1_s, k_1, k_2, k_n, k_c, k_T, k_L, k_C, k_f1, k_f2, k_App, k_M, k_P, k_3, k_tB, k_tT, k_toB, k_tNo, k_tA, k_tO, k_tY, k_And, k_Or, k_Not, k_eIf, k_nil, k_seq, k_set, k_own, k_drop, k_ret, k_retN, k_retO, k_if, k_fz, fz_z, fz_s, k_gN, k_gsN, k_gsC, k_gT, k_asg, k_for, k_fnil, k_fcons, k_app, oL_z, oL_s, k_par, k_run, k_runN, k_fld, oO_z, k_add, k_addL, k_sub, k_mul, k_div, k_mod, k_pow, k_neg, k_lt, k_le, k_gt, k_ge, k_eqI, k_neI, k_int, k_intB, k_abs, k_lenL, k_lenT, k_lenC, k_tru, k_tupL, k_tupT, k_items_l, k_items_t, k_rng1, k_ixL, k_ixT, k_ixC, k_fldD, ok_nox, ok_ok, ok_bind, List.set_cons_zero, List.set_cons_succ, startS, startN, List.map_cons, List.map_nil, List.cons_append, List.nil_append, List.append_nil, List.length_cons, List.length_nil, List.replicate, Nat.reduceSub, Nat.reduceAdd, Nat.reduceLeDiff, Nat.zero_add, true_and, and_true, false_implies, true_implies, implies_true, forall_const, reduceCtorEq, Bool.not_true, Bool.not_false, Bool.not_eq_true'])
  refine ⟨by omega, by omega, ?_⟩
  have e1 : ((pre.length + 4 + (gfl gl).length : Nat) : Int) = ((pre.length + (rowW r ++ gfl gl).length : Nat) : Int) := by rw [List.length_append, wl]; omega
  rw [e1]
  rfl
end Pf
set_option Elab.async false
set_option linter.all false
set_option maxRecDepth 100000
namespace Pf
open M PySem L2
/-- a word: no blank, short -/
def WdOk (w : Str) : Prop := 32 ∉ w.cps.toList ∧ w.cps.toList.length ≤ 3 ∧ ∀ c ∈ w.cps.toList, c < 0x110000
theorem wd_code (n : Int) : WdOk (sg (code n)) := by
  unfold code
  split
  · exact ⟨by decide, by decide, by decide⟩
  · split
    · exact ⟨by decide, by decide, by decide⟩
    · split
      · exact ⟨by decide, by decide, by decide⟩
      · exact ⟨by decide, by decide, by decide⟩
theorem code_ne (n : Int) : code n ≠ 32 ∧ code n < 0x110000 := by
  unfold code
  split
  · decide
  · split
    · decide
    · split <;> decide
theorem wd_ew {cs : List Int} (h : cs.length ≤ 3) : WdOk (ew cs) := by
  unfold ew
  split
  · exact ⟨by decide, by decide, by decide⟩
  · refine ⟨fun hm => ?_, ?_, fun c hc => ?_⟩
    · have hm : 32 ∈ cs.map code := hm
      obtain ⟨n, _, e⟩ := List.mem_map.mp hm
      exact (code_ne n).1 e
    · show (cs.map code).length ≤ 3
      rw [List.length_map]; exact h
    · have hc : c ∈ cs.map code := hc
      obtain ⟨n, _, rfl⟩ := List.mem_map.mp hc
      exact (code_ne n).2
theorem wd_mw (n : Int) : WdOk (mw n) := by unfold mw; split <;> exact ⟨by decide, by decide, by decide⟩
theorem wd_row {r : RowT} (hr : r.Ok) : ∀ w ∈ rowW r, WdOk w := by
  intro w hw
  simp only [rowW, List.mem_cons, List.not_mem_nil, or_false] at hw
  rcases hw with rfl | rfl | rfl | rfl
  · exact wd_code _
  · exact wd_ew hr.l
  · exact wd_code _
  · exact wd_mw _
theorem wd_gfl : ∀ (l : List G3), (∀ p ∈ l, ∀ w ∈ p.2.1, WdOk w) → ∀ w ∈ gfl l, WdOk w
  | [], _, w, hw => by cases hw
  | p :: l, h, w, hw => by
    rw [gfl_cons] at hw
    rcases List.mem_append.mp hw with hw | hw
    · rcases List.mem_cons.mp hw with rfl | hw
      · exact ⟨by decide, by decide, by decide⟩
      · rcases List.mem_append.mp hw with hw | hw
        · exact h p (by simp) w hw
        · rw [List.mem_singleton] at hw; subst hw
          exact ⟨by decide, by decide, by decide⟩
    · exact wd_gfl l (fun q hq => h q (by simp [hq])) w hw
/-- all that is known of a joint row and its words -/
structure Jw (n : Nat) (p : G3) : Prop where
  w : Wd d_row_words' n (p.1, p.2.1)
  l : Wd d__law_words' n (p.1, p.2.1)
  r : Rdj n p
  k : ∀ w ∈ p.2.1, WdOk w
theorem step_all {n : Nat} {r : RowT} (hr : r.Ok) (gl : List G3) (h : ∀ p ∈ gl, Jw n p) (hl : gl.length ≤ 5) (hw : (gfl gl).length ≤ 96) : Jw (n + 1) (jD r (gl.map (·.1)), rowW r ++ gfl gl, cnt gl) := by
  have wl : (rowW r).length = 4 := rfl
  have e1 : (gl.map fun p : G3 => (p.1, p.2.1)).map (·.1) = gl.map (·.1) := by rw [List.map_map]; rfl
  have e2 : gflat ((gl.map fun p : G3 => (p.1, p.2.1)).map (·.2)) = gfl gl := by rw [List.map_map]; rfl
  have hlen : (rowW r ++ gfl gl).length ≤ 100 := by rw [List.length_append, wl]; omega
  refine ⟨⟨hlen, ?_⟩, ⟨hlen, ?_⟩, step_read hr gl (fun p hp => (h p hp).r) hl, ?_⟩
  · have z := step_words (n := n) hr (gl.map fun p : G3 => (p.1, p.2.1)) (fun q hq => by obtain ⟨p, hp, rfl⟩ := List.mem_map.mp hq; exact (h p hp).w) (by rw [List.length_map]; exact hl)
    rw [e1, e2] at z
    exact z
  · have z := step_lwords (n := n) hr (gl.map fun p : G3 => (p.1, p.2.1)) (fun q hq => by obtain ⟨p, hp, rfl⟩ := List.mem_map.mp hq; exact (h p hp).l) (by rw [List.length_map]; exact hl)
    rw [e1, e2] at z
    exact z
  · intro w hw'
    rcases List.mem_append.mp hw' with h' | h'
    · exact wd_row hr w h'
    · exact wd_gfl gl (fun p hp => (h p hp).k) w h'
theorem leaf {r : RowT} (hr : r.Ok) (n : Nat) : Jw (n + 1) (jD r [], rowW r, 0) := by
  have z := step_all (n := n) hr [] (fun p hp => by cases hp) (by simp) (by simp [gfl, gflat])
  simp only [gfl, gflat, List.map_nil, List.append_nil] at z
  exact z
/-- one of the law's joint rows -/
theorem jt_all {d : D} (h : JT d) (n : Nat) : ∃ ws k, Jw (n + 3) (d, ws, k) ∧ k ≤ 2 ∧ ws ≠ [] := by
  cases h with
  | one r hr => exact ⟨_, _, leaf hr (n + 2), by omega, by simp [rowW]⟩
  | two r s hr hs =>
    have z := step_all (n := n + 2) hr [(jD s [], rowW s, 0)] (fun p hp => by rw [List.mem_singleton] at hp; subst hp; exact leaf hs (n + 1)) (by simp) (by simp [gfl, gflat, rowW])
    exact ⟨_, _, z, by simp [cnt], by simp [rowW]⟩
  | side r s t hr hs ht =>
    have z := step_all (n := n + 2) hr [(jD s [], rowW s, 0), (jD t [], rowW t, 0)] (fun p hp => by
      simp only [List.mem_cons, List.not_mem_nil, or_false] at hp
      rcases hp with rfl | rfl
      · exact leaf hs (n + 1)
      · exact leaf ht (n + 1)) (by simp) (by simp [gfl, gflat, rowW])
    exact ⟨_, _, z, by simp [cnt], by simp [rowW]⟩
  | deep r s t hr hs ht =>
    have y := step_all (n := n + 1) hs [(jD t [], rowW t, 0)] (fun p hp => by rw [List.mem_singleton] at hp; subst hp; exact leaf ht n) (by simp) (by simp [gfl, gflat, rowW])
    have z := step_all (n := n + 2) hr [(jD s [jD t []], rowW s ++ gfl [(jD t [], rowW t, 0)], cnt [(jD t [], rowW t, 0)])] (fun p hp => by rw [List.mem_singleton] at hp; subst hp; exact y) (by simp) (by simp [gfl, gflat, rowW])
    exact ⟨_, _, z, by simp [cnt], by simp [rowW]⟩
/-! ### the text -/
def txt (ws : List Str) : Str := Txt.join " " ws
theorem joinL_len (S : List Nat) : ∀ (l : List (List Nat)), (∀ p ∈ l, p.length ≤ 3) → (TL.joinL S l).length ≤ l.length * (3 + S.length)
  | [], _ => by simp [TL.joinL]
  | [p], h => by
    have := h p (by simp)
    simp only [TL.joinL, List.length_cons, List.length_nil]
    omega
  | p :: q :: r, h => by
    have h1 := h p (by simp)
    have h2 := joinL_len S (q :: r) fun x hx => h x (by simp [hx])
    simp only [TL.joinL, List.length_append]
    rw [List.length_cons (a := p), Nat.add_mul]
    omega
theorem joinL_mem (S : List Nat) {c : Nat} : ∀ (l : List (List Nat)), c ∈ TL.joinL S l → c ∈ S ∨ ∃ p ∈ l, c ∈ p
  | [], h => by simp [TL.joinL] at h
  | [p], h => .inr ⟨p, by simp, h⟩
  | p :: q :: r, h => by
    simp only [TL.joinL, List.mem_append] at h
    rcases h with h | h | h
    · exact .inr ⟨p, by simp, h⟩
    · exact .inl h
    · rcases joinL_mem S (q :: r) h with h | ⟨x, hx, h⟩
      · exact .inl h
      · exact .inr ⟨x, List.mem_cons_of_mem _ hx, h⟩
theorem txt_tl (ws : List Str) : (txt ws).cps.toList = TL.joinL [32] (ws.map TL.tl) := by
  unfold txt
  rw [TL.join_eq]
  exact TL.tl_join " " ws
theorem txt_len {ws : List Str} (h : ∀ w ∈ ws, WdOk w) (hl : ws.length ≤ 100) : (txt ws).length ≤ 400 := by
  have e : (txt ws).length = (txt ws).cps.toList.length := by show (txt ws).cps.size = _; simp
  rw [e, txt_tl]
  have := joinL_len [32] (ws.map TL.tl) (fun p hp => by obtain ⟨w, hw, rfl⟩ := List.mem_map.mp hp; exact (h w hw).2.1)
  rw [List.length_map] at this
  simp only [List.length_cons, List.length_nil] at this
  omega
theorem txt_ok {ws : List Str} (h : ∀ w ∈ ws, WdOk w) : PyData.strOk (txt ws) = true := by
  unfold PyData.strOk
  rw [← Array.all_toList, txt_tl, List.all_eq_true]
  intro c hc
  rcases joinL_mem [32] _ hc with hc | ⟨p, hp, hc⟩
  · rw [List.mem_singleton] at hc; subst hc; decide
  · obtain ⟨w, hw, rfl⟩ := List.mem_map.mp hp
    exact decide_eq_true ((h w hw).2.2 c hc)
theorem sum_len : ∀ (ws : List Str), (∀ w ∈ ws, WdOk w) → (ws.map (·.length)).sum ≤ 3 * ws.length
  | [], _ => by simp
  | w :: ws, h => by
    have h1 := sum_len ws fun x hx => h x (by simp [hx])
    have h2 : w.length ≤ 3 := by
      have := (h w (by simp)).2.1
      show w.cps.size ≤ 3
      simpa using this
    simp only [List.map_cons, List.sum_cons, List.length_cons]
    omega
theorem k_joinT {ws : List Str} (h : ∀ w ∈ ws, WdOk w) (hl : ws.length ≤ 100) {Q : D → Prop} : Ok (joinD (.str " ") (.lst (ws.map .str))) Q ↔ Q (.str (txt ws)) := by
  have e : joinD (.str " ") (.lst (ws.map .str)) = .ok (.str (txt ws)) := by
    unfold joinD
    simp only [asS_map]
    have := sum_len ws h
    rw [if_pos (by show _ + ws.length * 1 ≤ _; omega)]
    rfl
  rw [e, ok_ok]
theorem split_txt {ws : List Str} (h : ∀ w ∈ ws, WdOk w) (hn : ws ≠ []) : Txt.split (txt ws) " " = ws :=
  TL.split_join (s := 32) (S := []) rfl (by decide +kernel) hn fun p hp => (h p hp).1
theorem p_text {p : G3} (h : Jw 4 p) : Ok (d_row_text [p.1]) fun d => d = .str (txt p.2.1) := by
  unfold d_row_text m_row_text
  rw [ok_nox, k_run, k_ret, k_eM1, k_S]
  refine ⟨rfl, ?_⟩
  (try simp only [↓k_guard, k_no, k_I, k_S, k_B, k_N, k_G, k_Y, k_V, k_W, k_O, g0_z, g0_s, gA_z, gA_s, g1_z, g1_s, k_1, k_2, k_n, k_c, k_T, k_L, k_C, k_f1, k_f2, k_App, k_M, k_P, k_3, k_tB, k_tT, k_toB, k_tNo, k_tA, k_tO, k_tY, k_And, k_Or, k_Not, k_eIf, k_nil, k_seq, k_set, k_own, k_drop, k_ret, k_retN, k_retO, k_if, k_fz, fz_z, fz_s, k_gN, k_gsN, k_gsC, k_gT, k_asg, k_for, k_fnil, k_fcons, k_app, oL_z, oL_s, k_par, k_run, k_runN, k_fld, oO_z, k_add, k_addL, k_sub, k_mul, k_div, k_mod, k_pow, k_neg, k_lt, k_le, k_gt, k_ge, k_eqI, k_neI, k_int, k_intB, k_abs, k_lenL, k_lenT, k_lenC, k_tru, k_tupL, k_tupT, k_items_l, k_items_t, k_rng1, k_ixL, k_ixT, k_ixC, k_fldD, ok_nox, ok_ok, ok_bind, List.set_cons_zero, List.set_cons_succ, startS, startN, List.map_cons, List.map_nil, List.cons_append, List.nil_append, List.append_nil, List.length_cons, List.length_nil, List.replicate, Nat.reduceSub, Nat.reduceAdd, Nat.reduceLeDiff, Nat.zero_add, true_and, and_true, false_implies, true_implies, implies_true, forall_const, reduceCtorEq, Bool.not_true, Bool.not_false, Bool.not_eq_true'])
  show Ok (d_row_words' 4 [p.1]) _
  refine h.w.2.mono ?_
  rintro d rfl
  rw [k_joinT h.k h.w.1]
theorem p_read {p : G3} (h : Jw 5 p) (hk : p.2.2 ≤ 2) (hn : p.2.1 ≠ []) : Ok (d_read_row [.str (txt p.2.1)]) fun d => d = p.1 := by
  have hs := size_ge
  have hl : p.2.1.length ≤ 100 := h.w.1
  unfold d_read_row m_read_row
  rw [ok_nox, k_run]
  refine Ok.mono (P := fun z => z.1 = .rt p.1) ?_ fun z h => by rw [h]
  refine seq_cut (fun S => S = [(some (Sl.mk false (.str (txt p.2.1)))), (some (Sl.mk false (.lst (p.2.1.map .str)))), none, none, none]) ?_ ?_
  · rw [k_set, k_eM1]
    (try simp only [↓k_guard, k_no, k_I, k_S, k_B, k_N, k_G, k_Y, k_V, k_W, k_O, g0_z, g0_s, gA_z, gA_s, g1_z, g1_s, k_1, k_2, k_n, k_c, k_T, k_L, k_C, k_f1, k_f2, k_App, k_M, k_P, k_3, k_tB, k_tT, k_toB, k_tNo, k_tA, k_tO, k_tY, k_And, k_Or, k_Not, k_eIf, k_nil, k_seq, k_set, k_own, k_drop, k_ret, k_retN, k_retO, k_if, k_fz, fz_z, fz_s, k_gN, k_gsN, k_gsC, k_gT, k_asg, k_for, k_fnil, k_fcons, k_app, oL_z, oL_s, k_par, k_run, k_runN, k_fld, oO_z, k_add, k_addL, k_sub, k_mul, k_div, k_mod, k_pow, k_neg, k_lt, k_le, k_gt, k_ge, k_eqI, k_neI, k_int, k_intB, k_abs, k_lenL, k_lenT, k_lenC, k_tru, k_tupL, k_tupT, k_items_l, k_items_t, k_rng1, k_ixL, k_ixT, k_ixC, k_fldD, ok_nox, ok_ok, ok_bind, List.set_cons_zero, List.set_cons_succ, startS, startN, List.map_cons, List.map_nil, List.cons_append, List.nil_append, List.append_nil, List.length_cons, List.length_nil, List.replicate, Nat.reduceSub, Nat.reduceAdd, Nat.reduceLeDiff, Nat.zero_add, true_and, and_true, false_implies, true_implies, implies_true, forall_const, reduceCtorEq, Bool.not_true, Bool.not_false, Bool.not_eq_true'])
    refine ⟨rfl, ?_⟩
    have e : splitD (.str (txt p.2.1)) (.str " ") = .ok (.lst (p.2.1.map .str)) := by
      unfold splitD
      dsimp only
      rw [if_pos ⟨rfl, by have := txt_len h.k hl; omega⟩, split_txt h.k hn]
    rw [e, ok_ok]
  rintro S rfl
  have z := h.r [] [] 1 (by simp only [List.length_nil]; omega) (by omega) (.inl rfl)
  rw [List.nil_append, List.append_nil] at z
  refine seq_cut (fun S => S = [(some (Sl.mk false (.str (txt p.2.1)))), (some (Sl.mk false (.lst (p.2.1.map .str)))), (some (Sl.mk false (p.1))), (some (Sl.mk false (.int p.2.1.length))), (some (Sl.mk false (.int (1 + p.2.2 : Nat))))]) ?_ ?_
  · (try simp only [↓k_guard, k_no, k_I, k_S, k_B, k_N, k_G, k_Y, k_V, k_W, k_O, g0_z, g0_s, gA_z, gA_s, g1_z, g1_s, k_1, k_2, k_n, k_c, k_T, k_L, k_C, k_f1, k_f2, k_App, k_M, k_P, k_3, k_tB, k_tT, k_toB, k_tNo, k_tA, k_tO, k_tY, k_And, k_Or, k_Not, k_eIf, k_nil, k_seq, k_set, k_own, k_drop, k_ret, k_retN, k_retO, k_if, k_fz, fz_z, fz_s, k_gN, k_gsN, k_gsC, k_gT, k_asg, k_for, k_fnil, k_fcons, k_app, oL_z, oL_s, k_par, k_run, k_runN, k_fld, oO_z, k_add, k_addL, k_sub, k_mul, k_div, k_mod, k_pow, k_neg, k_lt, k_le, k_gt, k_ge, k_eqI, k_neI, k_int, k_intB, k_abs, k_lenL, k_lenT, k_lenC, k_tru, k_tupL, k_tupT, k_items_l, k_items_t, k_rng1, k_ixL, k_ixT, k_ixC, k_fldD, ok_nox, ok_ok, ok_bind, List.set_cons_zero, List.set_cons_succ, startS, startN, List.map_cons, List.map_nil, List.cons_append, List.nil_append, List.append_nil, List.length_cons, List.length_nil, List.replicate, Nat.reduceSub, Nat.reduceAdd, Nat.reduceLeDiff, Nat.zero_add, true_and, and_true, false_implies, true_implies, implies_true, forall_const, reduceCtorEq, Bool.not_true, Bool.not_false, Bool.not_eq_true'])
    show Ok (d_read_joint' 5 [.lst (p.2.1.map .str), .int 0, .int 1]) _
    refine z.mono ?_
    rintro d rfl
    (try simp only [↓k_guard, k_no, k_I, k_S, k_B, k_N, k_G, k_Y, k_V, k_W, k_O, g0_z, g0_s, gA_z, gA_s, g1_z, g1_s, k_1, k_2, k_n, k_c, k_T, k_L, k_C, k_f1, k_f2, k_App, k_M, k_P, k_3, k_tB, k_tT, k_toB, k_tNo, k_tA, k_tO, k_tY, k_And, k_Or, k_Not, k_eIf, k_nil, k_seq, k_set, k_own, k_drop, k_ret, k_retN, k_retO, k_if, k_fz, fz_z, fz_s, k_gN, k_gsN, k_gsC, k_gT, k_asg, k_for, k_fnil, k_fcons, k_app, oL_z, oL_s, k_par, k_run, k_runN, k_fld, oO_z, k_add, k_addL, k_sub, k_mul, k_div, k_mod, k_pow, k_neg, k_lt, k_le, k_gt, k_ge, k_eqI, k_neI, k_int, k_intB, k_abs, k_lenL, k_lenT, k_lenC, k_tru, k_tupL, k_tupT, k_items_l, k_items_t, k_rng1, k_ixL, k_ixT, k_ixC, k_fldD, ok_nox, ok_ok, ok_bind, List.set_cons_zero, List.set_cons_succ, startS, startN, List.map_cons, List.map_nil, List.cons_append, List.nil_append, List.append_nil, List.length_cons, List.length_nil, List.replicate, Nat.reduceSub, Nat.reduceAdd, Nat.reduceLeDiff, Nat.zero_add, true_and, and_true, false_implies, true_implies, implies_true, forall_const, reduceCtorEq, Bool.not_true, Bool.not_false, Bool.not_eq_true', k_gT3, List.length_nil, Nat.zero_add])
  rintro S rfl
  (try simp only [↓k_guard, k_no, k_I, k_S, k_B, k_N, k_G, k_Y, k_V, k_W, k_O, g0_z, g0_s, gA_z, gA_s, g1_z, g1_s, k_1, k_2, k_n, k_c, k_T, k_L, k_C, k_f1, k_f2, k_App, k_M, k_P, k_3, k_tB, k_tT, k_toB, k_tNo, k_tA, k_tO, k_tY, k_And, k_Or, k_Not, k_eIf, k_nil, k_seq, k_set, k_own, k_drop, k_ret, k_retN, k_retO, k_if, k_fz, fz_z, fz_s, k_gN, k_gsN, k_gsC, k_gT, k_asg, k_for, k_fnil, k_fcons, k_app, oL_z, oL_s, k_par, k_run, k_runN, k_fld, oO_z, k_add, k_addL, k_sub, k_mul, k_div, k_mod, k_pow, k_neg, k_lt, k_le, k_gt, k_ge, k_eqI, k_neI, k_int, k_intB, k_abs, k_lenL, k_lenT, k_lenC, k_tru, k_tupL, k_tupT, k_items_l, k_items_t, k_rng1, k_ixL, k_ixT, k_ixC, k_fldD, ok_nox, ok_ok, ok_bind, List.set_cons_zero, List.set_cons_succ, startS, startN, List.map_cons, List.map_nil, List.cons_append, List.nil_append, List.append_nil, List.length_cons, List.length_nil, List.replicate, Nat.reduceSub, Nat.reduceAdd, Nat.reduceLeDiff, Nat.zero_add, true_and, and_true, false_implies, true_implies, implies_true, forall_const, reduceCtorEq, Bool.not_true, Bool.not_false, Bool.not_eq_true', List.length_map])
  simp
/-! ### the law's comparison -/
inductive Pln : Nat → D → Prop where
  | int (n : Nat) (i : Int) : Pln n (.int i)
  | str (n : Nat) (x : Str) : PyData.strOk x = true → Pln n (.str x)
  | tup (n : Nat) (ds : List D) : ds.length ≤ 100 → (∀ d ∈ ds, Pln n d) → Pln (n + 1) (.tup ds)
theorem p_same : ∀ (n : Nat) (d : D), Pln n d → Ok (d__law_same' (n + 1) [d, d]) fun z => z = .bl true := by
  have hs := size_ge
  intro n
  induction n with
  | zero =>
    intro d h
    show Ok ((runF false 3 (m__law_same (d__law_same' 0)) _).nox) _
    unfold m__law_same
    rw [ok_nox, k_run]
    cases h with
    | int _ i =>
      (try simp only [↓k_guard, k_no, k_I, k_S, k_B, k_N, k_G, k_Y, k_V, k_W, k_O, g0_z, g0_s, gA_z, gA_s, g1_z, g1_s, k_1, k_2, k_n, k_c, k_T, k_L, k_C, k_f1, k_f2, k_App, k_M, k_P, k_3, k_tB, k_tT, k_toB, k_tNo, k_tA, k_tO, k_tY, k_And, k_Or, k_Not, k_eIf, k_nil, k_seq, k_set, k_own, k_drop, k_ret, k_retN, k_retO, k_if, k_fz, fz_z, fz_s, k_gN, k_gsN, k_gsC, k_gT, k_asg, k_for, k_fnil, k_fcons, k_app, oL_z, oL_s, k_par, k_run, k_runN, k_fld, oO_z, k_add, k_addL, k_sub, k_mul, k_div, k_mod, k_pow, k_neg, k_lt, k_le, k_gt, k_ge, k_eqI, k_neI, k_int, k_intB, k_abs, k_lenL, k_lenT, k_lenC, k_tru, k_tupL, k_tupT, k_items_l, k_items_t, k_rng1, k_ixL, k_ixT, k_ixC, k_fldD, ok_nox, ok_ok, ok_bind, List.set_cons_zero, List.set_cons_succ, startS, startN, List.map_cons, List.map_nil, List.cons_append, List.nil_append, List.append_nil, List.length_cons, List.length_nil, List.replicate, Nat.reduceSub, Nat.reduceAdd, Nat.reduceLeDiff, Nat.zero_add, true_and, and_true, false_implies, true_implies, implies_true, forall_const, reduceCtorEq, Bool.not_true, Bool.not_false, Bool.not_eq_true'])
      rw [show isi2D "tuple" "list" (.int i) = .ok (.bl false) by kernel_rfl, ok_ok]
      (try simp only [↓k_guard, k_no, k_I, k_S, k_B, k_N, k_G, k_Y, k_V, k_W, k_O, g0_z, g0_s, gA_z, gA_s, g1_z, g1_s, k_1, k_2, k_n, k_c, k_T, k_L, k_C, k_f1, k_f2, k_App, k_M, k_P, k_3, k_tB, k_tT, k_toB, k_tNo, k_tA, k_tO, k_tY, k_And, k_Or, k_Not, k_eIf, k_nil, k_seq, k_set, k_own, k_drop, k_ret, k_retN, k_retO, k_if, k_fz, fz_z, fz_s, k_gN, k_gsN, k_gsC, k_gT, k_asg, k_for, k_fnil, k_fcons, k_app, oL_z, oL_s, k_par, k_run, k_runN, k_fld, oO_z, k_add, k_addL, k_sub, k_mul, k_div, k_mod, k_pow, k_neg, k_lt, k_le, k_gt, k_ge, k_eqI, k_neI, k_int, k_intB, k_abs, k_lenL, k_lenT, k_lenC, k_tru, k_tupL, k_tupT, k_items_l, k_items_t, k_rng1, k_ixL, k_ixT, k_ixC, k_fldD, ok_nox, ok_ok, ok_bind, List.set_cons_zero, List.set_cons_succ, startS, startN, List.map_cons, List.map_nil, List.cons_append, List.nil_append, List.append_nil, List.length_cons, List.length_nil, List.replicate, Nat.reduceSub, Nat.reduceAdd, Nat.reduceLeDiff, Nat.zero_add, true_and, and_true, false_implies, true_implies, implies_true, forall_const, reduceCtorEq, Bool.not_true, Bool.not_false, Bool.not_eq_true', isD_non])
      rw [show (D.int i).isNon = false from rfl]
      (try simp only [↓k_guard, k_no, k_I, k_S, k_B, k_N, k_G, k_Y, k_V, k_W, k_O, g0_z, g0_s, gA_z, gA_s, g1_z, g1_s, k_1, k_2, k_n, k_c, k_T, k_L, k_C, k_f1, k_f2, k_App, k_M, k_P, k_3, k_tB, k_tT, k_toB, k_tNo, k_tA, k_tO, k_tY, k_And, k_Or, k_Not, k_eIf, k_nil, k_seq, k_set, k_own, k_drop, k_ret, k_retN, k_retO, k_if, k_fz, fz_z, fz_s, k_gN, k_gsN, k_gsC, k_gT, k_asg, k_for, k_fnil, k_fcons, k_app, oL_z, oL_s, k_par, k_run, k_runN, k_fld, oO_z, k_add, k_addL, k_sub, k_mul, k_div, k_mod, k_pow, k_neg, k_lt, k_le, k_gt, k_ge, k_eqI, k_neI, k_int, k_intB, k_abs, k_lenL, k_lenT, k_lenC, k_tru, k_tupL, k_tupT, k_items_l, k_items_t, k_rng1, k_ixL, k_ixT, k_ixC, k_fldD, ok_nox, ok_ok, ok_bind, List.set_cons_zero, List.set_cons_succ, startS, startN, List.map_cons, List.map_nil, List.cons_append, List.nil_append, List.append_nil, List.length_cons, List.length_nil, List.replicate, Nat.reduceSub, Nat.reduceAdd, Nat.reduceLeDiff, Nat.zero_add, true_and, and_true, false_implies, true_implies, implies_true, forall_const, reduceCtorEq, Bool.not_true, Bool.not_false, Bool.not_eq_true'])
      rw [show isiD (.int i) (.ty "str") = .ok (.bl false) by kernel_rfl, ok_ok]
      (try simp only [↓k_guard, k_no, k_I, k_S, k_B, k_N, k_G, k_Y, k_V, k_W, k_O, g0_z, g0_s, gA_z, gA_s, g1_z, g1_s, k_1, k_2, k_n, k_c, k_T, k_L, k_C, k_f1, k_f2, k_App, k_M, k_P, k_3, k_tB, k_tT, k_toB, k_tNo, k_tA, k_tO, k_tY, k_And, k_Or, k_Not, k_eIf, k_nil, k_seq, k_set, k_own, k_drop, k_ret, k_retN, k_retO, k_if, k_fz, fz_z, fz_s, k_gN, k_gsN, k_gsC, k_gT, k_asg, k_for, k_fnil, k_fcons, k_app, oL_z, oL_s, k_par, k_run, k_runN, k_fld, oO_z, k_add, k_addL, k_sub, k_mul, k_div, k_mod, k_pow, k_neg, k_lt, k_le, k_gt, k_ge, k_eqI, k_neI, k_int, k_intB, k_abs, k_lenL, k_lenT, k_lenC, k_tru, k_tupL, k_tupT, k_items_l, k_items_t, k_rng1, k_ixL, k_ixT, k_ixC, k_fldD, ok_nox, ok_ok, ok_bind, List.set_cons_zero, List.set_cons_succ, startS, startN, List.map_cons, List.map_nil, List.cons_append, List.nil_append, List.append_nil, List.length_cons, List.length_nil, List.replicate, Nat.reduceSub, Nat.reduceAdd, Nat.reduceLeDiff, Nat.zero_add, true_and, and_true, false_implies, true_implies, implies_true, forall_const, reduceCtorEq, Bool.not_true, Bool.not_false, Bool.not_eq_true'])
      rw [show isiD (.int i) (.ty "int") = .ok (.bl true) by kernel_rfl, ok_ok]
      (try simp only [↓k_guard, k_no, k_I, k_S, k_B, k_N, k_G, k_Y, k_V, k_W, k_O, g0_z, g0_s, gA_z, gA_s, g1_z, g1_s, k_1, k_2, k_n, k_c, k_T, k_L, k_C, k_f1, k_f2, k_App, k_M, k_P, k_3, k_tB, k_tT, k_toB, k_tNo, k_tA, k_tO, k_tY, k_And, k_Or, k_Not, k_eIf, k_nil, k_seq, k_set, k_own, k_drop, k_ret, k_retN, k_retO, k_if, k_fz, fz_z, fz_s, k_gN, k_gsN, k_gsC, k_gT, k_asg, k_for, k_fnil, k_fcons, k_app, oL_z, oL_s, k_par, k_run, k_runN, k_fld, oO_z, k_add, k_addL, k_sub, k_mul, k_div, k_mod, k_pow, k_neg, k_lt, k_le, k_gt, k_ge, k_eqI, k_neI, k_int, k_intB, k_abs, k_lenL, k_lenT, k_lenC, k_tru, k_tupL, k_tupT, k_items_l, k_items_t, k_rng1, k_ixL, k_ixT, k_ixC, k_fldD, ok_nox, ok_ok, ok_bind, List.set_cons_zero, List.set_cons_succ, startS, startN, List.map_cons, List.map_nil, List.cons_append, List.nil_append, List.append_nil, List.length_cons, List.length_nil, List.replicate, Nat.reduceSub, Nat.reduceAdd, Nat.reduceLeDiff, Nat.zero_add, true_and, and_true, false_implies, true_implies, implies_true, forall_const, reduceCtorEq, Bool.not_true, Bool.not_false, Bool.not_eq_true'])
      rw [show isiD (.int i) (.ty "bool") = .ok (.bl false) by kernel_rfl, ok_ok]
      (try simp only [↓k_guard, k_no, k_I, k_S, k_B, k_N, k_G, k_Y, k_V, k_W, k_O, g0_z, g0_s, gA_z, gA_s, g1_z, g1_s, k_1, k_2, k_n, k_c, k_T, k_L, k_C, k_f1, k_f2, k_App, k_M, k_P, k_3, k_tB, k_tT, k_toB, k_tNo, k_tA, k_tO, k_tY, k_And, k_Or, k_Not, k_eIf, k_nil, k_seq, k_set, k_own, k_drop, k_ret, k_retN, k_retO, k_if, k_fz, fz_z, fz_s, k_gN, k_gsN, k_gsC, k_gT, k_asg, k_for, k_fnil, k_fcons, k_app, oL_z, oL_s, k_par, k_run, k_runN, k_fld, oO_z, k_add, k_addL, k_sub, k_mul, k_div, k_mod, k_pow, k_neg, k_lt, k_le, k_gt, k_ge, k_eqI, k_neI, k_int, k_intB, k_abs, k_lenL, k_lenT, k_lenC, k_tru, k_tupL, k_tupT, k_items_l, k_items_t, k_rng1, k_ixL, k_ixT, k_ixC, k_fldD, ok_nox, ok_ok, ok_bind, List.set_cons_zero, List.set_cons_succ, startS, startN, List.map_cons, List.map_nil, List.cons_append, List.nil_append, List.append_nil, List.length_cons, List.length_nil, List.replicate, Nat.reduceSub, Nat.reduceAdd, Nat.reduceLeDiff, Nat.zero_add, true_and, and_true, false_implies, true_implies, implies_true, forall_const, reduceCtorEq, Bool.not_true, Bool.not_false, Bool.not_eq_true'])
      simp
    | str _ x hx =>
      (try simp only [↓k_guard, k_no, k_I, k_S, k_B, k_N, k_G, k_Y, k_V, k_W, k_O, g0_z, g0_s, gA_z, gA_s, g1_z, g1_s, k_1, k_2, k_n, k_c, k_T, k_L, k_C, k_f1, k_f2, k_App, k_M, k_P, k_3, k_tB, k_tT, k_toB, k_tNo, k_tA, k_tO, k_tY, k_And, k_Or, k_Not, k_eIf, k_nil, k_seq, k_set, k_own, k_drop, k_ret, k_retN, k_retO, k_if, k_fz, fz_z, fz_s, k_gN, k_gsN, k_gsC, k_gT, k_asg, k_for, k_fnil, k_fcons, k_app, oL_z, oL_s, k_par, k_run, k_runN, k_fld, oO_z, k_add, k_addL, k_sub, k_mul, k_div, k_mod, k_pow, k_neg, k_lt, k_le, k_gt, k_ge, k_eqI, k_neI, k_int, k_intB, k_abs, k_lenL, k_lenT, k_lenC, k_tru, k_tupL, k_tupT, k_items_l, k_items_t, k_rng1, k_ixL, k_ixT, k_ixC, k_fldD, ok_nox, ok_ok, ok_bind, List.set_cons_zero, List.set_cons_succ, startS, startN, List.map_cons, List.map_nil, List.cons_append, List.nil_append, List.append_nil, List.length_cons, List.length_nil, List.replicate, Nat.reduceSub, Nat.reduceAdd, Nat.reduceLeDiff, Nat.zero_add, true_and, and_true, false_implies, true_implies, implies_true, forall_const, reduceCtorEq, Bool.not_true, Bool.not_false, Bool.not_eq_true'])
      rw [show isi2D "tuple" "list" (.str x) = .ok (.bl false) by kernel_rfl, ok_ok]
      (try simp only [↓k_guard, k_no, k_I, k_S, k_B, k_N, k_G, k_Y, k_V, k_W, k_O, g0_z, g0_s, gA_z, gA_s, g1_z, g1_s, k_1, k_2, k_n, k_c, k_T, k_L, k_C, k_f1, k_f2, k_App, k_M, k_P, k_3, k_tB, k_tT, k_toB, k_tNo, k_tA, k_tO, k_tY, k_And, k_Or, k_Not, k_eIf, k_nil, k_seq, k_set, k_own, k_drop, k_ret, k_retN, k_retO, k_if, k_fz, fz_z, fz_s, k_gN, k_gsN, k_gsC, k_gT, k_asg, k_for, k_fnil, k_fcons, k_app, oL_z, oL_s, k_par, k_run, k_runN, k_fld, oO_z, k_add, k_addL, k_sub, k_mul, k_div, k_mod, k_pow, k_neg, k_lt, k_le, k_gt, k_ge, k_eqI, k_neI, k_int, k_intB, k_abs, k_lenL, k_lenT, k_lenC, k_tru, k_tupL, k_tupT, k_items_l, k_items_t, k_rng1, k_ixL, k_ixT, k_ixC, k_fldD, ok_nox, ok_ok, ok_bind, List.set_cons_zero, List.set_cons_succ, startS, startN, List.map_cons, List.map_nil, List.cons_append, List.nil_append, List.append_nil, List.length_cons, List.length_nil, List.replicate, Nat.reduceSub, Nat.reduceAdd, Nat.reduceLeDiff, Nat.zero_add, true_and, and_true, false_implies, true_implies, implies_true, forall_const, reduceCtorEq, Bool.not_true, Bool.not_false, Bool.not_eq_true', isD_non])
      rw [show (D.str x).isNon = false from rfl]
      (try simp only [↓k_guard, k_no, k_I, k_S, k_B, k_N, k_G, k_Y, k_V, k_W, k_O, g0_z, g0_s, gA_z, gA_s, g1_z, g1_s, k_1, k_2, k_n, k_c, k_T, k_L, k_C, k_f1, k_f2, k_App, k_M, k_P, k_3, k_tB, k_tT, k_toB, k_tNo, k_tA, k_tO, k_tY, k_And, k_Or, k_Not, k_eIf, k_nil, k_seq, k_set, k_own, k_drop, k_ret, k_retN, k_retO, k_if, k_fz, fz_z, fz_s, k_gN, k_gsN, k_gsC, k_gT, k_asg, k_for, k_fnil, k_fcons, k_app, oL_z, oL_s, k_par, k_run, k_runN, k_fld, oO_z, k_add, k_addL, k_sub, k_mul, k_div, k_mod, k_pow, k_neg, k_lt, k_le, k_gt, k_ge, k_eqI, k_neI, k_int, k_intB, k_abs, k_lenL, k_lenT, k_lenC, k_tru, k_tupL, k_tupT, k_items_l, k_items_t, k_rng1, k_ixL, k_ixT, k_ixC, k_fldD, ok_nox, ok_ok, ok_bind, List.set_cons_zero, List.set_cons_succ, startS, startN, List.map_cons, List.map_nil, List.cons_append, List.nil_append, List.append_nil, List.length_cons, List.length_nil, List.replicate, Nat.reduceSub, Nat.reduceAdd, Nat.reduceLeDiff, Nat.zero_add, true_and, and_true, false_implies, true_implies, implies_true, forall_const, reduceCtorEq, Bool.not_true, Bool.not_false, Bool.not_eq_true'])
      rw [show isiD (.str x) (.ty "str") = .ok (.bl true) by kernel_rfl, ok_ok]
      (try simp only [↓k_guard, k_no, k_I, k_S, k_B, k_N, k_G, k_Y, k_V, k_W, k_O, g0_z, g0_s, gA_z, gA_s, g1_z, g1_s, k_1, k_2, k_n, k_c, k_T, k_L, k_C, k_f1, k_f2, k_App, k_M, k_P, k_3, k_tB, k_tT, k_toB, k_tNo, k_tA, k_tO, k_tY, k_And, k_Or, k_Not, k_eIf, k_nil, k_seq, k_set, k_own, k_drop, k_ret, k_retN, k_retO, k_if, k_fz, fz_z, fz_s, k_gN, k_gsN, k_gsC, k_gT, k_asg, k_for, k_fnil, k_fcons, k_app, oL_z, oL_s, k_par, k_run, k_runN, k_fld, oO_z, k_add, k_addL, k_sub, k_mul, k_div, k_mod, k_pow, k_neg, k_lt, k_le, k_gt, k_ge, k_eqI, k_neI, k_int, k_intB, k_abs, k_lenL, k_lenT, k_lenC, k_tru, k_tupL, k_tupT, k_items_l, k_items_t, k_rng1, k_ixL, k_ixT, k_ixC, k_fldD, ok_nox, ok_ok, ok_bind, List.set_cons_zero, List.set_cons_succ, startS, startN, List.map_cons, List.map_nil, List.cons_append, List.nil_append, List.append_nil, List.length_cons, List.length_nil, List.replicate, Nat.reduceSub, Nat.reduceAdd, Nat.reduceLeDiff, Nat.zero_add, true_and, and_true, false_implies, true_implies, implies_true, forall_const, reduceCtorEq, Bool.not_true, Bool.not_false, Bool.not_eq_true'])
      have e : eqD (.str x) (.str x) = .ok (.bl true) := by unfold eqD; simp only [dok, hx, deq]; simp
      rw [e, ok_ok]
  | succ n ih =>
    intro d h
    show Ok ((runF false 3 (m__law_same (d__law_same' (n + 1))) _).nox) _
    unfold m__law_same
    rw [ok_nox, k_run]
    cases h with
    | int _ i =>
      (try simp only [↓k_guard, k_no, k_I, k_S, k_B, k_N, k_G, k_Y, k_V, k_W, k_O, g0_z, g0_s, gA_z, gA_s, g1_z, g1_s, k_1, k_2, k_n, k_c, k_T, k_L, k_C, k_f1, k_f2, k_App, k_M, k_P, k_3, k_tB, k_tT, k_toB, k_tNo, k_tA, k_tO, k_tY, k_And, k_Or, k_Not, k_eIf, k_nil, k_seq, k_set, k_own, k_drop, k_ret, k_retN, k_retO, k_if, k_fz, fz_z, fz_s, k_gN, k_gsN, k_gsC, k_gT, k_asg, k_for, k_fnil, k_fcons, k_app, oL_z, oL_s, k_par, k_run, k_runN, k_fld, oO_z, k_add, k_addL, k_sub, k_mul, k_div, k_mod, k_pow, k_neg, k_lt, k_le, k_gt, k_ge, k_eqI, k_neI, k_int, k_intB, k_abs, k_lenL, k_lenT, k_lenC, k_tru, k_tupL, k_tupT, k_items_l, k_items_t, k_rng1, k_ixL, k_ixT, k_ixC, k_fldD, ok_nox, ok_ok, ok_bind, List.set_cons_zero, List.set_cons_succ, startS, startN, List.map_cons, List.map_nil, List.cons_append, List.nil_append, List.append_nil, List.length_cons, List.length_nil, List.replicate, Nat.reduceSub, Nat.reduceAdd, Nat.reduceLeDiff, Nat.zero_add, true_and, and_true, false_implies, true_implies, implies_true, forall_const, reduceCtorEq, Bool.not_true, Bool.not_false, Bool.not_eq_true'])
      rw [show isi2D "tuple" "list" (.int i) = .ok (.bl false) by kernel_rfl, ok_ok]
      (try simp only [↓k_guard, k_no, k_I, k_S, k_B, k_N, k_G, k_Y, k_V, k_W, k_O, g0_z, g0_s, gA_z, gA_s, g1_z, g1_s, k_1, k_2, k_n, k_c, k_T, k_L, k_C, k_f1, k_f2, k_App, k_M, k_P, k_3, k_tB, k_tT, k_toB, k_tNo, k_tA, k_tO, k_tY, k_And, k_Or, k_Not, k_eIf, k_nil, k_seq, k_set, k_own, k_drop, k_ret, k_retN, k_retO, k_if, k_fz, fz_z, fz_s, k_gN, k_gsN, k_gsC, k_gT, k_asg, k_for, k_fnil, k_fcons, k_app, oL_z, oL_s, k_par, k_run, k_runN, k_fld, oO_z, k_add, k_addL, k_sub, k_mul, k_div, k_mod, k_pow, k_neg, k_lt, k_le, k_gt, k_ge, k_eqI, k_neI, k_int, k_intB, k_abs, k_lenL, k_lenT, k_lenC, k_tru, k_tupL, k_tupT, k_items_l, k_items_t, k_rng1, k_ixL, k_ixT, k_ixC, k_fldD, ok_nox, ok_ok, ok_bind, List.set_cons_zero, List.set_cons_succ, startS, startN, List.map_cons, List.map_nil, List.cons_append, List.nil_append, List.append_nil, List.length_cons, List.length_nil, List.replicate, Nat.reduceSub, Nat.reduceAdd, Nat.reduceLeDiff, Nat.zero_add, true_and, and_true, false_implies, true_implies, implies_true, forall_const, reduceCtorEq, Bool.not_true, Bool.not_false, Bool.not_eq_true', isD_non])
      rw [show (D.int i).isNon = false from rfl]
      (try simp only [↓k_guard, k_no, k_I, k_S, k_B, k_N, k_G, k_Y, k_V, k_W, k_O, g0_z, g0_s, gA_z, gA_s, g1_z, g1_s, k_1, k_2, k_n, k_c, k_T, k_L, k_C, k_f1, k_f2, k_App, k_M, k_P, k_3, k_tB, k_tT, k_toB, k_tNo, k_tA, k_tO, k_tY, k_And, k_Or, k_Not, k_eIf, k_nil, k_seq, k_set, k_own, k_drop, k_ret, k_retN, k_retO, k_if, k_fz, fz_z, fz_s, k_gN, k_gsN, k_gsC, k_gT, k_asg, k_for, k_fnil, k_fcons, k_app, oL_z, oL_s, k_par, k_run, k_runN, k_fld, oO_z, k_add, k_addL, k_sub, k_mul, k_div, k_mod, k_pow, k_neg, k_lt, k_le, k_gt, k_ge, k_eqI, k_neI, k_int, k_intB, k_abs, k_lenL, k_lenT, k_lenC, k_tru, k_tupL, k_tupT, k_items_l, k_items_t, k_rng1, k_ixL, k_ixT, k_ixC, k_fldD, ok_nox, ok_ok, ok_bind, List.set_cons_zero, List.set_cons_succ, startS, startN, List.map_cons, List.map_nil, List.cons_append, List.nil_append, List.append_nil, List.length_cons, List.length_nil, List.replicate, Nat.reduceSub, Nat.reduceAdd, Nat.reduceLeDiff, Nat.zero_add, true_and, and_true, false_implies, true_implies, implies_true, forall_const, reduceCtorEq, Bool.not_true, Bool.not_false, Bool.not_eq_true'])
      rw [show isiD (.int i) (.ty "str") = .ok (.bl false) by kernel_rfl, ok_ok]
      (try simp only [↓k_guard, k_no, k_I, k_S, k_B, k_N, k_G, k_Y, k_V, k_W, k_O, g0_z, g0_s, gA_z, gA_s, g1_z, g1_s, k_1, k_2, k_n, k_c, k_T, k_L, k_C, k_f1, k_f2, k_App, k_M, k_P, k_3, k_tB, k_tT, k_toB, k_tNo, k_tA, k_tO, k_tY, k_And, k_Or, k_Not, k_eIf, k_nil, k_seq, k_set, k_own, k_drop, k_ret, k_retN, k_retO, k_if, k_fz, fz_z, fz_s, k_gN, k_gsN, k_gsC, k_gT, k_asg, k_for, k_fnil, k_fcons, k_app, oL_z, oL_s, k_par, k_run, k_runN, k_fld, oO_z, k_add, k_addL, k_sub, k_mul, k_div, k_mod, k_pow, k_neg, k_lt, k_le, k_gt, k_ge, k_eqI, k_neI, k_int, k_intB, k_abs, k_lenL, k_lenT, k_lenC, k_tru, k_tupL, k_tupT, k_items_l, k_items_t, k_rng1, k_ixL, k_ixT, k_ixC, k_fldD, ok_nox, ok_ok, ok_bind, List.set_cons_zero, List.set_cons_succ, startS, startN, List.map_cons, List.map_nil, List.cons_append, List.nil_append, List.append_nil, List.length_cons, List.length_nil, List.replicate, Nat.reduceSub, Nat.reduceAdd, Nat.reduceLeDiff, Nat.zero_add, true_and, and_true, false_implies, true_implies, implies_true, forall_const, reduceCtorEq, Bool.not_true, Bool.not_false, Bool.not_eq_true'])
      rw [show isiD (.int i) (.ty "int") = .ok (.bl true) by kernel_rfl, ok_ok]
      (try simp only [↓k_guard, k_no, k_I, k_S, k_B, k_N, k_G, k_Y, k_V, k_W, k_O, g0_z, g0_s, gA_z, gA_s, g1_z, g1_s, k_1, k_2, k_n, k_c, k_T, k_L, k_C, k_f1, k_f2, k_App, k_M, k_P, k_3, k_tB, k_tT, k_toB, k_tNo, k_tA, k_tO, k_tY, k_And, k_Or, k_Not, k_eIf, k_nil, k_seq, k_set, k_own, k_drop, k_ret, k_retN, k_retO, k_if, k_fz, fz_z, fz_s, k_gN, k_gsN, k_gsC, k_gT, k_asg, k_for, k_fnil, k_fcons, k_app, oL_z, oL_s, k_par, k_run, k_runN, k_fld, oO_z, k_add, k_addL, k_sub, k_mul, k_div, k_mod, k_pow, k_neg, k_lt, k_le, k_gt, k_ge, k_eqI, k_neI, k_int, k_intB, k_abs, k_lenL, k_lenT, k_lenC, k_tru, k_tupL, k_tupT, k_items_l, k_items_t, k_rng1, k_ixL, k_ixT, k_ixC, k_fldD, ok_nox, ok_ok, ok_bind, List.set_cons_zero, List.set_cons_succ, startS, startN, List.map_cons, List.map_nil, List.cons_append, List.nil_append, List.append_nil, List.length_cons, List.length_nil, List.replicate, Nat.reduceSub, Nat.reduceAdd, Nat.reduceLeDiff, Nat.zero_add, true_and, and_true, false_implies, true_implies, implies_true, forall_const, reduceCtorEq, Bool.not_true, Bool.not_false, Bool.not_eq_true'])
      rw [show isiD (.int i) (.ty "bool") = .ok (.bl false) by kernel_rfl, ok_ok]
      (try simp only [↓k_guard, k_no, k_I, k_S, k_B, k_N, k_G, k_Y, k_V, k_W, k_O, g0_z, g0_s, gA_z, gA_s, g1_z, g1_s, k_1, k_2, k_n, k_c, k_T, k_L, k_C, k_f1, k_f2, k_App, k_M, k_P, k_3, k_tB, k_tT, k_toB, k_tNo, k_tA, k_tO, k_tY, k_And, k_Or, k_Not, k_eIf, k_nil, k_seq, k_set, k_own, k_drop, k_ret, k_retN, k_retO, k_if, k_fz, fz_z, fz_s, k_gN, k_gsN, k_gsC, k_gT, k_asg, k_for, k_fnil, k_fcons, k_app, oL_z, oL_s, k_par, k_run, k_runN, k_fld, oO_z, k_add, k_addL, k_sub, k_mul, k_div, k_mod, k_pow, k_neg, k_lt, k_le, k_gt, k_ge, k_eqI, k_neI, k_int, k_intB, k_abs, k_lenL, k_lenT, k_lenC, k_tru, k_tupL, k_tupT, k_items_l, k_items_t, k_rng1, k_ixL, k_ixT, k_ixC, k_fldD, ok_nox, ok_ok, ok_bind, List.set_cons_zero, List.set_cons_succ, startS, startN, List.map_cons, List.map_nil, List.cons_append, List.nil_append, List.append_nil, List.length_cons, List.length_nil, List.replicate, Nat.reduceSub, Nat.reduceAdd, Nat.reduceLeDiff, Nat.zero_add, true_and, and_true, false_implies, true_implies, implies_true, forall_const, reduceCtorEq, Bool.not_true, Bool.not_false, Bool.not_eq_true'])
      simp
    | str _ x hx =>
      (try simp only [↓k_guard, k_no, k_I, k_S, k_B, k_N, k_G, k_Y, k_V, k_W, k_O, g0_z, g0_s, gA_z, gA_s, g1_z, g1_s, k_1, k_2, k_n, k_c, k_T, k_L, k_C, k_f1, k_f2, k_App, k_M, k_P, k_3, k_tB, k_tT, k_toB, k_tNo, k_tA, k_tO, k_tY, k_And, k_Or, k_Not, k_eIf, k_nil, k_seq, k_set, k_own, k_drop, k_ret, k_retN, k_retO, k_if, k_fz, fz_z, fz_s, k_gN, k_gsN, k_gsC, k_gT, k_asg, k_for, k_fnil, k_fcons, k_app, oL_z, oL_s, k_par, k_run, k_runN, k_fld, oO_z, k_add, k_addL, k_sub, k_mul, k_div, k_mod, k_pow, k_neg, k_lt, k_le, k_gt, k_ge, k_eqI, k_neI, k_int, k_intB, k_abs, k_lenL, k_lenT, k_lenC, k_tru, k_tupL, k_tupT, k_items_l, k_items_t, k_rng1, k_ixL, k_ixT, k_ixC, k_fldD, ok_nox, ok_ok, ok_bind, List.set_cons_zero, List.set_cons_succ, startS, startN, List.map_cons, List.map_nil, List.cons_append, List.nil_append, List.append_nil, List.length_cons, List.length_nil, List.replicate, Nat.reduceSub, Nat.reduceAdd, Nat.reduceLeDiff, Nat.zero_add, true_and, and_true, false_implies, true_implies, implies_true, forall_const, reduceCtorEq, Bool.not_true, Bool.not_false, Bool.not_eq_true'])
      rw [show isi2D "tuple" "list" (.str x) = .ok (.bl false) by kernel_rfl, ok_ok]
      (try simp only [↓k_guard, k_no, k_I, k_S, k_B, k_N, k_G, k_Y, k_V, k_W, k_O, g0_z, g0_s, gA_z, gA_s, g1_z, g1_s, k_1, k_2, k_n, k_c, k_T, k_L, k_C, k_f1, k_f2, k_App, k_M, k_P, k_3, k_tB, k_tT, k_toB, k_tNo, k_tA, k_tO, k_tY, k_And, k_Or, k_Not, k_eIf, k_nil, k_seq, k_set, k_own, k_drop, k_ret, k_retN, k_retO, k_if, k_fz, fz_z, fz_s, k_gN, k_gsN, k_gsC, k_gT, k_asg, k_for, k_fnil, k_fcons, k_app, oL_z, oL_s, k_par, k_run, k_runN, k_fld, oO_z, k_add, k_addL, k_sub, k_mul, k_div, k_mod, k_pow, k_neg, k_lt, k_le, k_gt, k_ge, k_eqI, k_neI, k_int, k_intB, k_abs, k_lenL, k_lenT, k_lenC, k_tru, k_tupL, k_tupT, k_items_l, k_items_t, k_rng1, k_ixL, k_ixT, k_ixC, k_fldD, ok_nox, ok_ok, ok_bind, List.set_cons_zero, List.set_cons_succ, startS, startN, List.map_cons, List.map_nil, List.cons_append, List.nil_append, List.append_nil, List.length_cons, List.length_nil, List.replicate, Nat.reduceSub, Nat.reduceAdd, Nat.reduceLeDiff, Nat.zero_add, true_and, and_true, false_implies, true_implies, implies_true, forall_const, reduceCtorEq, Bool.not_true, Bool.not_false, Bool.not_eq_true', isD_non])
      rw [show (D.str x).isNon = false from rfl]
      (try simp only [↓k_guard, k_no, k_I, k_S, k_B, k_N, k_G, k_Y, k_V, k_W, k_O, g0_z, g0_s, gA_z, gA_s, g1_z, g1_s, k_1, k_2, k_n, k_c, k_T, k_L, k_C, k_f1, k_f2, k_App, k_M, k_P, k_3, k_tB, k_tT, k_toB, k_tNo, k_tA, k_tO, k_tY, k_And, k_Or, k_Not, k_eIf, k_nil, k_seq, k_set, k_own, k_drop, k_ret, k_retN, k_retO, k_if, k_fz, fz_z, fz_s, k_gN, k_gsN, k_gsC, k_gT, k_asg, k_for, k_fnil, k_fcons, k_app, oL_z, oL_s, k_par, k_run, k_runN, k_fld, oO_z, k_add, k_addL, k_sub, k_mul, k_div, k_mod, k_pow, k_neg, k_lt, k_le, k_gt, k_ge, k_eqI, k_neI, k_int, k_intB, k_abs, k_lenL, k_lenT, k_lenC, k_tru, k_tupL, k_tupT, k_items_l, k_items_t, k_rng1, k_ixL, k_ixT, k_ixC, k_fldD, ok_nox, ok_ok, ok_bind, List.set_cons_zero, List.set_cons_succ, startS, startN, List.map_cons, List.map_nil, List.cons_append, List.nil_append, List.append_nil, List.length_cons, List.length_nil, List.replicate, Nat.reduceSub, Nat.reduceAdd, Nat.reduceLeDiff, Nat.zero_add, true_and, and_true, false_implies, true_implies, implies_true, forall_const, reduceCtorEq, Bool.not_true, Bool.not_false, Bool.not_eq_true'])
      rw [show isiD (.str x) (.ty "str") = .ok (.bl true) by kernel_rfl, ok_ok]
      (try simp only [↓k_guard, k_no, k_I, k_S, k_B, k_N, k_G, k_Y, k_V, k_W, k_O, g0_z, g0_s, gA_z, gA_s, g1_z, g1_s, k_1, k_2, k_n, k_c, k_T, k_L, k_C, k_f1, k_f2, k_App, k_M, k_P, k_3, k_tB, k_tT, k_toB, k_tNo, k_tA, k_tO, k_tY, k_And, k_Or, k_Not, k_eIf, k_nil, k_seq, k_set, k_own, k_drop, k_ret, k_retN, k_retO, k_if, k_fz, fz_z, fz_s, k_gN, k_gsN, k_gsC, k_gT, k_asg, k_for, k_fnil, k_fcons, k_app, oL_z, oL_s, k_par, k_run, k_runN, k_fld, oO_z, k_add, k_addL, k_sub, k_mul, k_div, k_mod, k_pow, k_neg, k_lt, k_le, k_gt, k_ge, k_eqI, k_neI, k_int, k_intB, k_abs, k_lenL, k_lenT, k_lenC, k_tru, k_tupL, k_tupT, k_items_l, k_items_t, k_rng1, k_ixL, k_ixT, k_ixC, k_fldD, ok_nox, ok_ok, ok_bind, List.set_cons_zero, List.set_cons_succ, startS, startN, List.map_cons, List.map_nil, List.cons_append, List.nil_append, List.append_nil, List.length_cons, List.length_nil, List.replicate, Nat.reduceSub, Nat.reduceAdd, Nat.reduceLeDiff, Nat.zero_add, true_and, and_true, false_implies, true_implies, implies_true, forall_const, reduceCtorEq, Bool.not_true, Bool.not_false, Bool.not_eq_true'])
      have e : eqD (.str x) (.str x) = .ok (.bl true) := by unfold eqD; simp only [dok, hx, deq]; simp
      rw [e, ok_ok]
    | tup _ ds hl hd =>
      have nf : ∀ b : Bool, neD (.bl b) (.bl b) = .ok (.bl false) := fun b => by unfold neD; simp [dok, deq]
      (try simp only [↓k_guard, k_no, k_I, k_S, k_B, k_N, k_G, k_Y, k_V, k_W, k_O, g0_z, g0_s, gA_z, gA_s, g1_z, g1_s, k_1, k_2, k_n, k_c, k_T, k_L, k_C, k_f1, k_f2, k_App, k_M, k_P, k_3, k_tB, k_tT, k_toB, k_tNo, k_tA, k_tO, k_tY, k_And, k_Or, k_Not, k_eIf, k_nil, k_seq, k_set, k_own, k_drop, k_ret, k_retN, k_retO, k_if, k_fz, fz_z, fz_s, k_gN, k_gsN, k_gsC, k_gT, k_asg, k_for, k_fnil, k_fcons, k_app, oL_z, oL_s, k_par, k_run, k_runN, k_fld, oO_z, k_add, k_addL, k_sub, k_mul, k_div, k_mod, k_pow, k_neg, k_lt, k_le, k_gt, k_ge, k_eqI, k_neI, k_int, k_intB, k_abs, k_lenL, k_lenT, k_lenC, k_tru, k_tupL, k_tupT, k_items_l, k_items_t, k_rng1, k_ixL, k_ixT, k_ixC, k_fldD, ok_nox, ok_ok, ok_bind, List.set_cons_zero, List.set_cons_succ, startS, startN, List.map_cons, List.map_nil, List.cons_append, List.nil_append, List.append_nil, List.length_cons, List.length_nil, List.replicate, Nat.reduceSub, Nat.reduceAdd, Nat.reduceLeDiff, Nat.zero_add, true_and, and_true, false_implies, true_implies, implies_true, forall_const, reduceCtorEq, Bool.not_true, Bool.not_false, Bool.not_eq_true'])
      rw [show isi2D "tuple" "list" (.tup ds) = .ok (.bl true) by kernel_rfl, ok_ok]
      (try simp only [↓k_guard, k_no, k_I, k_S, k_B, k_N, k_G, k_Y, k_V, k_W, k_O, g0_z, g0_s, gA_z, gA_s, g1_z, g1_s, k_1, k_2, k_n, k_c, k_T, k_L, k_C, k_f1, k_f2, k_App, k_M, k_P, k_3, k_tB, k_tT, k_toB, k_tNo, k_tA, k_tO, k_tY, k_And, k_Or, k_Not, k_eIf, k_nil, k_seq, k_set, k_own, k_drop, k_ret, k_retN, k_retO, k_if, k_fz, fz_z, fz_s, k_gN, k_gsN, k_gsC, k_gT, k_asg, k_for, k_fnil, k_fcons, k_app, oL_z, oL_s, k_par, k_run, k_runN, k_fld, oO_z, k_add, k_addL, k_sub, k_mul, k_div, k_mod, k_pow, k_neg, k_lt, k_le, k_gt, k_ge, k_eqI, k_neI, k_int, k_intB, k_abs, k_lenL, k_lenT, k_lenC, k_tru, k_tupL, k_tupT, k_items_l, k_items_t, k_rng1, k_ixL, k_ixT, k_ixC, k_fldD, ok_nox, ok_ok, ok_bind, List.set_cons_zero, List.set_cons_succ, startS, startN, List.map_cons, List.map_nil, List.cons_append, List.nil_append, List.append_nil, List.length_cons, List.length_nil, List.replicate, Nat.reduceSub, Nat.reduceAdd, Nat.reduceLeDiff, Nat.zero_add, true_and, and_true, false_implies, true_implies, implies_true, forall_const, reduceCtorEq, Bool.not_true, Bool.not_false, Bool.not_eq_true'])
      rw [show isiD (.tup ds) (.ty "tuple") = .ok (.bl true) by kernel_rfl, ok_ok, ok_ok]
      rw [nf, ok_ok]
      (try simp only [↓k_guard, k_no, k_I, k_S, k_B, k_N, k_G, k_Y, k_V, k_W, k_O, g0_z, g0_s, gA_z, gA_s, g1_z, g1_s, k_1, k_2, k_n, k_c, k_T, k_L, k_C, k_f1, k_f2, k_App, k_M, k_P, k_3, k_tB, k_tT, k_toB, k_tNo, k_tA, k_tO, k_tY, k_And, k_Or, k_Not, k_eIf, k_nil, k_seq, k_set, k_own, k_drop, k_ret, k_retN, k_retO, k_if, k_fz, fz_z, fz_s, k_gN, k_gsN, k_gsC, k_gT, k_asg, k_for, k_fnil, k_fcons, k_app, oL_z, oL_s, k_par, k_run, k_runN, k_fld, oO_z, k_add, k_addL, k_sub, k_mul, k_div, k_mod, k_pow, k_neg, k_lt, k_le, k_gt, k_ge, k_eqI, k_neI, k_int, k_intB, k_abs, k_lenL, k_lenT, k_lenC, k_tru, k_tupL, k_tupT, k_items_l, k_items_t, k_rng1, k_ixL, k_ixT, k_ixC, k_fldD, ok_nox, ok_ok, ok_bind, List.set_cons_zero, List.set_cons_succ, startS, startN, List.map_cons, List.map_nil, List.cons_append, List.nil_append, List.append_nil, List.length_cons, List.length_nil, List.replicate, Nat.reduceSub, Nat.reduceAdd, Nat.reduceLeDiff, Nat.zero_add, true_and, and_true, false_implies, true_implies, implies_true, forall_const, reduceCtorEq, Bool.not_true, Bool.not_false, Bool.not_eq_true'])
      rw [show isiD (.tup ds) (.ty "list") = .ok (.bl false) by kernel_rfl, ok_ok, ok_ok]
      rw [nf, ok_ok]
      (try simp only [↓k_guard, k_no, k_I, k_S, k_B, k_N, k_G, k_Y, k_V, k_W, k_O, g0_z, g0_s, gA_z, gA_s, g1_z, g1_s, k_1, k_2, k_n, k_c, k_T, k_L, k_C, k_f1, k_f2, k_App, k_M, k_P, k_3, k_tB, k_tT, k_toB, k_tNo, k_tA, k_tO, k_tY, k_And, k_Or, k_Not, k_eIf, k_nil, k_seq, k_set, k_own, k_drop, k_ret, k_retN, k_retO, k_if, k_fz, fz_z, fz_s, k_gN, k_gsN, k_gsC, k_gT, k_asg, k_for, k_fnil, k_fcons, k_app, oL_z, oL_s, k_par, k_run, k_runN, k_fld, oO_z, k_add, k_addL, k_sub, k_mul, k_div, k_mod, k_pow, k_neg, k_lt, k_le, k_gt, k_ge, k_eqI, k_neI, k_int, k_intB, k_abs, k_lenL, k_lenT, k_lenC, k_tru, k_tupL, k_tupT, k_items_l, k_items_t, k_rng1, k_ixL, k_ixT, k_ixC, k_fldD, ok_nox, ok_ok, ok_bind, List.set_cons_zero, List.set_cons_succ, startS, startN, List.map_cons, List.map_nil, List.cons_append, List.nil_append, List.append_nil, List.length_cons, List.length_nil, List.replicate, Nat.reduceSub, Nat.reduceAdd, Nat.reduceLeDiff, Nat.zero_add, true_and, and_true, false_implies, true_implies, implies_true, forall_const, reduceCtorEq, Bool.not_true, Bool.not_false, Bool.not_eq_true'])
      simp only [decide_true, true_implies, Bool.true_eq_false, false_implies, and_true]
      refine k_lcM (fun i : Nat => D.int (0 + (i : Int))) (fun _ => .bl true) (List.range ds.length) ?_ (by simp; omega) ?_ ?_
      · (try simp only [↓k_guard, k_no, k_I, k_S, k_B, k_N, k_G, k_Y, k_V, k_W, k_O, g0_z, g0_s, gA_z, gA_s, g1_z, g1_s, k_1, k_2, k_n, k_c, k_T, k_L, k_C, k_f1, k_f2, k_App, k_M, k_P, k_3, k_tB, k_tT, k_toB, k_tNo, k_tA, k_tO, k_tY, k_And, k_Or, k_Not, k_eIf, k_nil, k_seq, k_set, k_own, k_drop, k_ret, k_retN, k_retO, k_if, k_fz, fz_z, fz_s, k_gN, k_gsN, k_gsC, k_gT, k_asg, k_for, k_fnil, k_fcons, k_app, oL_z, oL_s, k_par, k_run, k_runN, k_fld, oO_z, k_add, k_addL, k_sub, k_mul, k_div, k_mod, k_pow, k_neg, k_lt, k_le, k_gt, k_ge, k_eqI, k_neI, k_int, k_intB, k_abs, k_lenL, k_lenT, k_lenC, k_tru, k_tupL, k_tupT, k_items_l, k_items_t, k_rng1, k_ixL, k_ixT, k_ixC, k_fldD, ok_nox, ok_ok, ok_bind, List.set_cons_zero, List.set_cons_succ, startS, startN, List.map_cons, List.map_nil, List.cons_append, List.nil_append, List.append_nil, List.length_cons, List.length_nil, List.replicate, Nat.reduceSub, Nat.reduceAdd, Nat.reduceLeDiff, Nat.zero_add, true_and, and_true, false_implies, true_implies, implies_true, forall_const, reduceCtorEq, Bool.not_true, Bool.not_false, Bool.not_eq_true'])
        refine ⟨⟨by omega, by omega⟩, ?_⟩
        rw [Int.toNat_natCast]; rfl
      · intro i hi
        have hi : i < ds.length := by simpa using hi
        obtain ⟨x, hx⟩ := atI_lt (xs := ds) (i := 0 + (i : Int)) (by omega) (by omega)
        (try simp only [↓k_guard, k_no, k_I, k_S, k_B, k_N, k_G, k_Y, k_V, k_W, k_O, g0_z, g0_s, gA_z, gA_s, g1_z, g1_s, k_1, k_2, k_n, k_c, k_T, k_L, k_C, k_f1, k_f2, k_App, k_M, k_P, k_3, k_tB, k_tT, k_toB, k_tNo, k_tA, k_tO, k_tY, k_And, k_Or, k_Not, k_eIf, k_nil, k_seq, k_set, k_own, k_drop, k_ret, k_retN, k_retO, k_if, k_fz, fz_z, fz_s, k_gN, k_gsN, k_gsC, k_gT, k_asg, k_for, k_fnil, k_fcons, k_app, oL_z, oL_s, k_par, k_run, k_runN, k_fld, oO_z, k_add, k_addL, k_sub, k_mul, k_div, k_mod, k_pow, k_neg, k_lt, k_le, k_gt, k_ge, k_eqI, k_neI, k_int, k_intB, k_abs, k_lenL, k_lenT, k_lenC, k_tru, k_tupL, k_tupT, k_items_l, k_items_t, k_rng1, k_ixL, k_ixT, k_ixC, k_fldD, ok_nox, ok_ok, ok_bind, List.set_cons_zero, List.set_cons_succ, startS, startN, List.map_cons, List.map_nil, List.cons_append, List.nil_append, List.append_nil, List.length_cons, List.length_nil, List.replicate, Nat.reduceSub, Nat.reduceAdd, Nat.reduceLeDiff, Nat.zero_add, true_and, and_true, false_implies, true_implies, implies_true, forall_const, reduceCtorEq, Bool.not_true, Bool.not_false, Bool.not_eq_true', wipeS])
        refine ⟨x, hx, x, hx, ?_⟩
        exact ih x (hd x (atI_mem hx))
      · rw [k_all]
        simp
theorem Pln.up {n : Nat} {d : D} (h : Pln n d) : Pln (n + 1) d := by
  induction h with
  | int n i => exact .int _ i
  | str n x hx => exact .str _ x hx
  | tup n ds hl hd ih => exact .tup _ ds hl ih
theorem pln_row {r : RowT} (hr : r.Ok) : Pln 2 (rowD r) := by
  refine .tup 1 _ (by simp) fun d hd => ?_
  simp only [List.mem_cons, List.not_mem_nil, or_false] at hd
  rcases hd with rfl | rfl | rfl | rfl
  · exact .int _ _
  · refine .tup 0 _ (by rw [List.length_map]; have := hr.l; omega) fun d hd => ?_
    obtain ⟨i, _, rfl⟩ := List.mem_map.mp hd
    exact .int _ i
  · exact .int _ _
  · exact .int _ _
theorem pln_j {r : RowT} (hr : r.Ok) (gs : List D) {n : Nat} (hl : gs.length ≤ 100) (h : ∀ d ∈ gs, Pln (n + 1) d) : Pln (n + 3) (jD r gs) := by
  refine .tup (n + 2) _ (by simp) fun d hd => ?_
  simp only [List.mem_cons, List.not_mem_nil, or_false] at hd
  rcases hd with rfl | rfl
  · have : ∀ n, Pln (n + 2) (rowD r) := fun n => by
      induction n with
      | zero => exact pln_row hr
      | succ n ih => exact ih.up
    exact this n
  · exact .tup (n + 1) _ hl h
theorem pln_jt {d : D} (h : JT d) : Pln 11 d := by
  have up : ∀ {n : Nat} {d : D} (k : Nat), Pln n d → Pln (n + k) d := fun {n d} k h => by
    induction k with
    | zero => exact h
    | succ k ih => exact ih.up
  have lf : ∀ {r : RowT}, r.Ok → Pln 3 (jD r []) := fun hr => pln_j (n := 0) hr [] (by simp) (fun d hd => by cases hd)
  cases h with
  | one r hr => exact up 8 (lf hr)
  | two r s hr hs => exact up 6 (pln_j (n := 2) hr _ (by simp) (fun d hd => by rw [List.mem_singleton] at hd; subst hd; exact lf hs))
  | side r s t hr hs ht =>
    refine up 6 (pln_j (n := 2) hr _ (by simp) (fun d hd => ?_))
    simp only [List.mem_cons, List.not_mem_nil, or_false] at hd
    rcases hd with rfl | rfl
    · exact lf hs
    · exact lf ht
  | deep r s t hr hs ht =>
    refine up 4 (pln_j (n := 4) hr _ (by simp) (fun d hd => ?_))
    rw [List.mem_singleton] at hd; subst hd
    exact pln_j (n := 2) hs _ (by simp) (fun d hd => by rw [List.mem_singleton] at hd; subst hd; exact lf ht)
end Pf
set_option Elab.async false
set_option linter.all false
set_option maxRecDepth 100000
namespace Pf
open M PySem L2
structure Gd (p : G3) : Prop where
  j4 : Jw 4 p
  j5 : Jw 5 p
  k : p.2.2 ≤ 2
  ne : p.2.1 ≠ []
  pl : Pln 11 p.1
theorem words_inj {a b : List Str} (h : a.map D.str = b.map D.str) : a = b := by
  induction a generalizing b with
  | nil => cases b with
    | nil => rfl
    | cons y b => simp at h
  | cons x a ih => cases b with
    | nil => simp at h
    | cons y b =>
      simp only [List.map_cons, List.cons.injEq, D.str.injEq] at h
      rw [h.1, ih h.2]
theorem gd_of {d : D} (h : JT d) : ∃ p : G3, p.1 = d ∧ Gd p := by
  have key : ∃ ws k, Jw 4 (d, ws, k) ∧ Jw 5 (d, ws, k) ∧ k ≤ 2 ∧ ws ≠ [] := by
    have lf : ∀ {r : RowT}, r.Ok → ∀ n, Jw (n + 1) (jD r [], rowW r, 0) := fun hr n => leaf hr n
    cases h with
    | one r hr => exact ⟨_, _, leaf hr 3, leaf hr 4, by omega, by simp [rowW]⟩
    | two r s hr hs =>
      have st : ∀ n, Jw (n + 2) (jD r [jD s []], rowW r ++ gfl [(jD s [], rowW s, 0)], cnt [(jD s [], rowW s, 0)]) := fun n =>
        step_all (n := n + 1) hr [(jD s [], rowW s, 0)] (fun p hp => by rw [List.mem_singleton] at hp; subst hp; exact leaf hs n) (by simp) (by simp [gfl, gflat, rowW])
      exact ⟨_, _, st 2, st 3, by simp [cnt], by simp [rowW]⟩
    | side r s t hr hs ht =>
      have st : ∀ n, Jw (n + 2) (jD r [jD s [], jD t []], rowW r ++ gfl [(jD s [], rowW s, 0), (jD t [], rowW t, 0)], cnt [(jD s [], rowW s, 0), (jD t [], rowW t, 0)]) := fun n =>
        step_all (n := n + 1) hr [(jD s [], rowW s, 0), (jD t [], rowW t, 0)] (fun p hp => by
          simp only [List.mem_cons, List.not_mem_nil, or_false] at hp
          rcases hp with rfl | rfl
          · exact leaf hs n
          · exact leaf ht n) (by simp) (by simp [gfl, gflat, rowW])
      exact ⟨_, _, st 2, st 3, by simp [cnt], by simp [rowW]⟩
    | deep r s t hr hs ht =>
      have y : ∀ n, Jw (n + 2) (jD s [jD t []], rowW s ++ gfl [(jD t [], rowW t, 0)], cnt [(jD t [], rowW t, 0)]) := fun n =>
        step_all (n := n + 1) hs [(jD t [], rowW t, 0)] (fun p hp => by rw [List.mem_singleton] at hp; subst hp; exact leaf ht n) (by simp) (by simp [gfl, gflat, rowW])
      have z : ∀ n, Jw (n + 3) (jD r [jD s [jD t []]], rowW r ++ gfl [(jD s [jD t []], rowW s ++ gfl [(jD t [], rowW t, 0)], cnt [(jD t [], rowW t, 0)])], cnt [(jD s [jD t []], rowW s ++ gfl [(jD t [], rowW t, 0)], cnt [(jD t [], rowW t, 0)])]) := fun n =>
        step_all (n := n + 2) hr [(jD s [jD t []], rowW s ++ gfl [(jD t [], rowW t, 0)], cnt [(jD t [], rowW t, 0)])] (fun p hp => by rw [List.mem_singleton] at hp; subst hp; exact y n) (by simp) (by simp [gfl, gflat, rowW])
      exact ⟨_, _, z 1, z 2, by simp [cnt], by simp [rowW]⟩
  obtain ⟨ws, k, h1, h2, h3, h4⟩ := key
  exact ⟨(d, ws, k), rfl, h1, h2, h3, h4, pln_jt h⟩
theorem gds : ∀ {ds : List D}, (∀ d ∈ ds, JT d) → ∃ ps : List G3, ds = ps.map (·.1) ∧ ∀ p ∈ ps, Gd p
  | [], _ => ⟨[], rfl, by simp⟩
  | d :: ds, h => by
    obtain ⟨p, rfl, hp⟩ := gd_of (h d (by simp))
    obtain ⟨ps, rfl, hps⟩ := gds (ds := ds) fun x hx => h x (by simp [hx])
    refine ⟨p :: ps, rfl, fun x hx => ?_⟩
    rcases List.mem_cons.mp hx with rfl | hx
    · exact hp
    · exact hps x hx
theorem pure_law : ∀ ns : List Int, ns.length ≤ 63 → (∀ z ∈ ns, PySem.Builtin.Int.intBits z ≤ 1048576) → d_law [.scr ns] = .ok (.bl true) := by
  intro ns hlen hbits
  have hs := size_ge
  refine Ok.eq ?_
  unfold d_law m_law
  rw [ok_nox, k_run]
  refine Ok.mono (P := fun z => z.1 = .rt (.bl true)) ?_ fun z h => by rw [h]
  refine seq_cut (fun S => ∃ c : Nat, c ≤ 63 ∧ S = [(some (Sl.mk false (.scr ns))), (some (Sl.mk false (.int c))), none, none, none, none]) ?_ ?_
  · (try simp only [↓k_guard, k_no, k_I, k_S, k_B, k_N, k_G, k_Y, k_V, k_W, k_O, g0_z, g0_s, gA_z, gA_s, g1_z, g1_s, k_1, k_2, k_n, k_c, k_T, k_L, k_C, k_f1, k_f2, k_App, k_M, k_P, k_3, k_tB, k_tT, k_toB, k_tNo, k_tA, k_tO, k_tY, k_And, k_Or, k_Not, k_eIf, k_nil, k_seq, k_set, k_own, k_drop, k_ret, k_retN, k_retO, k_if, k_fz, fz_z, fz_s, k_gN, k_gsN, k_gsC, k_gT, k_asg, k_for, k_fnil, k_fcons, k_app, oL_z, oL_s, k_par, k_run, k_runN, k_fld, oO_z, k_add, k_addL, k_sub, k_mul, k_div, k_mod, k_pow, k_neg, k_lt, k_le, k_gt, k_ge, k_eqI, k_neI, k_int, k_intB, k_abs, k_lenL, k_lenT, k_lenC, k_tru, k_tupL, k_tupT, k_items_l, k_items_t, k_rng1, k_ixL, k_ixT, k_ixC, k_fldD, ok_nox, ok_ok, ok_bind, List.set_cons_zero, List.set_cons_succ, startS, startN, List.map_cons, List.map_nil, List.cons_append, List.nil_append, List.append_nil, List.length_cons, List.length_nil, List.replicate, Nat.reduceSub, Nat.reduceAdd, Nat.reduceLeDiff, Nat.zero_add, true_and, and_true, false_implies, true_implies, implies_true, forall_const, reduceCtorEq, Bool.not_true, Bool.not_false, Bool.not_eq_true', k_min2, k_max2])
    generalize hq : (if (if (ns.length : Int) > 1 then (ns.length : Int) else 1) < 63 then (if (ns.length : Int) > 1 then (ns.length : Int) else 1) else 63) = q
    have h2 : 0 ≤ q ∧ q ≤ 63 := by rw [← hq]; split <;> split <;> omega
    exact ⟨q.toNat, by omega, by rw [Int.toNat_of_nonneg h2.1]⟩
  rintro S ⟨c, hc, rfl⟩
  refine seq_cut (fun S => ∃ ps : List G3, ps.length = c ∧ (∀ p ∈ ps, Gd p) ∧ S = [(some (Sl.mk false (.scr ns))), (some (Sl.mk false (.int c))), none, (some (Sl.mk false (.lst (ps.map (·.1))))), none, none]) ?_ ?_
  · rw [k_set]
    refine k_lcA (P := JT) c (by omega) ?_ ?_
    · (try simp only [↓k_guard, k_no, k_I, k_S, k_B, k_N, k_G, k_Y, k_V, k_W, k_O, g0_z, g0_s, gA_z, gA_s, g1_z, g1_s, k_1, k_2, k_n, k_c, k_T, k_L, k_C, k_f1, k_f2, k_App, k_M, k_P, k_3, k_tB, k_tT, k_toB, k_tNo, k_tA, k_tO, k_tY, k_And, k_Or, k_Not, k_eIf, k_nil, k_seq, k_set, k_own, k_drop, k_ret, k_retN, k_retO, k_if, k_fz, fz_z, fz_s, k_gN, k_gsN, k_gsC, k_gT, k_asg, k_for, k_fnil, k_fcons, k_app, oL_z, oL_s, k_par, k_run, k_runN, k_fld, oO_z, k_add, k_addL, k_sub, k_mul, k_div, k_mod, k_pow, k_neg, k_lt, k_le, k_gt, k_ge, k_eqI, k_neI, k_int, k_intB, k_abs, k_lenL, k_lenT, k_lenC, k_tru, k_tupL, k_tupT, k_items_l, k_items_t, k_rng1, k_ixL, k_ixT, k_ixC, k_fldD, ok_nox, ok_ok, ok_bind, List.set_cons_zero, List.set_cons_succ, startS, startN, List.map_cons, List.map_nil, List.cons_append, List.nil_append, List.append_nil, List.length_cons, List.length_nil, List.replicate, Nat.reduceSub, Nat.reduceAdd, Nat.reduceLeDiff, Nat.zero_add, true_and, and_true, false_implies, true_implies, implies_true, forall_const, reduceCtorEq, Bool.not_true, Bool.not_false, Bool.not_eq_true'])
      refine ⟨⟨by omega, by omega⟩, by rw [rngL_len, Int.toNat_natCast], ?_⟩
      intro d hd
      obtain ⟨j, hj⟩ := List.getElem?_of_mem hd
      obtain ⟨hj, rfl⟩ := rngL_get hj
      simp only [Int.toNat_natCast] at hj
      (try simp only [↓k_guard, k_no, k_I, k_S, k_B, k_N, k_G, k_Y, k_V, k_W, k_O, g0_z, g0_s, gA_z, gA_s, g1_z, g1_s, k_1, k_2, k_n, k_c, k_T, k_L, k_C, k_f1, k_f2, k_App, k_M, k_P, k_3, k_tB, k_tT, k_toB, k_tNo, k_tA, k_tO, k_tY, k_And, k_Or, k_Not, k_eIf, k_nil, k_seq, k_set, k_own, k_drop, k_ret, k_retN, k_retO, k_if, k_fz, fz_z, fz_s, k_gN, k_gsN, k_gsC, k_gT, k_asg, k_for, k_fnil, k_fcons, k_app, oL_z, oL_s, k_par, k_run, k_runN, k_fld, oO_z, k_add, k_addL, k_sub, k_mul, k_div, k_mod, k_pow, k_neg, k_lt, k_le, k_gt, k_ge, k_eqI, k_neI, k_int, k_intB, k_abs, k_lenL, k_lenT, k_lenC, k_tru, k_tupL, k_tupT, k_items_l, k_items_t, k_rng1, k_ixL, k_ixT, k_ixC, k_fldD, ok_nox, ok_ok, ok_bind, List.set_cons_zero, List.set_cons_succ, startS, startN, List.map_cons, List.map_nil, List.cons_append, List.nil_append, List.append_nil, List.length_cons, List.length_nil, List.replicate, Nat.reduceSub, Nat.reduceAdd, Nat.reduceLeDiff, Nat.zero_add, true_and, and_true, false_implies, true_implies, implies_true, forall_const, reduceCtorEq, Bool.not_true, Bool.not_false, Bool.not_eq_true', wipeS])
      refine (p_draws ns (0 + (j : Int)) 7 (by omega) (by omega) (by omega)).mono ?_
      intro d hd
      exact p_joint d hd
    · intro ys hy hp
      obtain ⟨ps, rfl, hps⟩ := gds hp
      rw [List.length_map] at hy
      exact ⟨rfl, ps, hy, hps, rfl⟩
  rintro S ⟨ps, hl, hg, rfl⟩
  refine seq_cut (fun S => S = [(some (Sl.mk false (.scr ns))), (some (Sl.mk false (.int c))), none, (some (Sl.mk false (.lst (ps.map (·.1))))), (some (Sl.mk false (.lst (ps.map fun p => .str (txt p.2.1))))), none]) ?_ ?_
  · rw [k_set]
    refine k_lcM (fun p : G3 => p.1) (fun p => .str (txt p.2.1)) ps (by (try simp only [↓k_guard, k_no, k_I, k_S, k_B, k_N, k_G, k_Y, k_V, k_W, k_O, g0_z, g0_s, gA_z, gA_s, g1_z, g1_s, k_1, k_2, k_n, k_c, k_T, k_L, k_C, k_f1, k_f2, k_App, k_M, k_P, k_3, k_tB, k_tT, k_toB, k_tNo, k_tA, k_tO, k_tY, k_And, k_Or, k_Not, k_eIf, k_nil, k_seq, k_set, k_own, k_drop, k_ret, k_retN, k_retO, k_if, k_fz, fz_z, fz_s, k_gN, k_gsN, k_gsC, k_gT, k_asg, k_for, k_fnil, k_fcons, k_app, oL_z, oL_s, k_par, k_run, k_runN, k_fld, oO_z, k_add, k_addL, k_sub, k_mul, k_div, k_mod, k_pow, k_neg, k_lt, k_le, k_gt, k_ge, k_eqI, k_neI, k_int, k_intB, k_abs, k_lenL, k_lenT, k_lenC, k_tru, k_tupL, k_tupT, k_items_l, k_items_t, k_rng1, k_ixL, k_ixT, k_ixC, k_fldD, ok_nox, ok_ok, ok_bind, List.set_cons_zero, List.set_cons_succ, startS, startN, List.map_cons, List.map_nil, List.cons_append, List.nil_append, List.append_nil, List.length_cons, List.length_nil, List.replicate, Nat.reduceSub, Nat.reduceAdd, Nat.reduceLeDiff, Nat.zero_add, true_and, and_true, false_implies, true_implies, implies_true, forall_const, reduceCtorEq, Bool.not_true, Bool.not_false, Bool.not_eq_true'])) (by omega) ?_ ⟨rfl, rfl⟩
    intro p hp
    (try simp only [↓k_guard, k_no, k_I, k_S, k_B, k_N, k_G, k_Y, k_V, k_W, k_O, g0_z, g0_s, gA_z, gA_s, g1_z, g1_s, k_1, k_2, k_n, k_c, k_T, k_L, k_C, k_f1, k_f2, k_App, k_M, k_P, k_3, k_tB, k_tT, k_toB, k_tNo, k_tA, k_tO, k_tY, k_And, k_Or, k_Not, k_eIf, k_nil, k_seq, k_set, k_own, k_drop, k_ret, k_retN, k_retO, k_if, k_fz, fz_z, fz_s, k_gN, k_gsN, k_gsC, k_gT, k_asg, k_for, k_fnil, k_fcons, k_app, oL_z, oL_s, k_par, k_run, k_runN, k_fld, oO_z, k_add, k_addL, k_sub, k_mul, k_div, k_mod, k_pow, k_neg, k_lt, k_le, k_gt, k_ge, k_eqI, k_neI, k_int, k_intB, k_abs, k_lenL, k_lenT, k_lenC, k_tru, k_tupL, k_tupT, k_items_l, k_items_t, k_rng1, k_ixL, k_ixT, k_ixC, k_fldD, ok_nox, ok_ok, ok_bind, List.set_cons_zero, List.set_cons_succ, startS, startN, List.map_cons, List.map_nil, List.cons_append, List.nil_append, List.append_nil, List.length_cons, List.length_nil, List.replicate, Nat.reduceSub, Nat.reduceAdd, Nat.reduceLeDiff, Nat.zero_add, true_and, and_true, false_implies, true_implies, implies_true, forall_const, reduceCtorEq, Bool.not_true, Bool.not_false, Bool.not_eq_true', wipeS])
    exact (p_text (hg p hp).j4).mono fun d hd => hd
  rintro S rfl
  have at_ : ∀ i : Nat, i < c → ∃ p, p ∈ ps ∧ L2.atI (ps.map (·.1)) (0 + (i : Int)) = some p.1 ∧ L2.atI (ps.map fun p => D.str (txt p.2.1)) (0 + (i : Int)) = some (.str (txt p.2.1)) := fun i hi => by
    obtain ⟨p, hp⟩ := atI_lt (xs := ps) (i := 0 + (i : Int)) (by omega) (by omega)
    exact ⟨p, atI_mem hp, by rw [atI_map, hp]; rfl, by rw [atI_map, hp]; rfl⟩
  refine seq_cut (fun S => ∃ o, S = [(some (Sl.mk false (.scr ns))), (some (Sl.mk false (.int c))), o, (some (Sl.mk false (.lst (ps.map (·.1))))), (some (Sl.mk false (.lst (ps.map fun p => .str (txt p.2.1))))), none]) ?_ ?_
  · (try simp only [↓k_guard, k_no, k_I, k_S, k_B, k_N, k_G, k_Y, k_V, k_W, k_O, g0_z, g0_s, gA_z, gA_s, g1_z, g1_s, k_1, k_2, k_n, k_c, k_T, k_L, k_C, k_f1, k_f2, k_App, k_M, k_P, k_3, k_tB, k_tT, k_toB, k_tNo, k_tA, k_tO, k_tY, k_And, k_Or, k_Not, k_eIf, k_nil, k_seq, k_set, k_own, k_drop, k_ret, k_retN, k_retO, k_if, k_fz, fz_z, fz_s, k_gN, k_gsN, k_gsC, k_gT, k_asg, k_for, k_fnil, k_fcons, k_app, oL_z, oL_s, k_par, k_run, k_runN, k_fld, oO_z, k_add, k_addL, k_sub, k_mul, k_div, k_mod, k_pow, k_neg, k_lt, k_le, k_gt, k_ge, k_eqI, k_neI, k_int, k_intB, k_abs, k_lenL, k_lenT, k_lenC, k_tru, k_tupL, k_tupT, k_items_l, k_items_t, k_rng1, k_ixL, k_ixT, k_ixC, k_fldD, ok_nox, ok_ok, ok_bind, List.set_cons_zero, List.set_cons_succ, startS, startN, List.map_cons, List.map_nil, List.cons_append, List.nil_append, List.append_nil, List.length_cons, List.length_nil, List.replicate, Nat.reduceSub, Nat.reduceAdd, Nat.reduceLeDiff, Nat.zero_add, true_and, and_true, false_implies, true_implies, implies_true, forall_const, reduceCtorEq, Bool.not_true, Bool.not_false, Bool.not_eq_true'])
    refine ⟨⟨by omega, by omega⟩, ?_⟩
    refine for_inv (fun i S => ∃ o, S = [(some (Sl.mk false (.scr ns))), (some (Sl.mk false (.int c))), o, (some (Sl.mk false (.lst (ps.map (·.1))))), (some (Sl.mk false (.lst (ps.map fun p => .str (txt p.2.1))))), none]) _ 0 _ ⟨none, rfl⟩ ?_ ?_
    · rintro i d S hd ⟨o, rfl⟩
      obtain ⟨hi, rfl⟩ := rngL_get hd
      simp only [Int.toNat_natCast] at hi
      obtain ⟨p, hp, a1, a2⟩ := at_ i hi
      obtain ⟨j4, j5, hk, hne, hpl⟩ := hg p hp
      (try simp only [↓k_guard, k_no, k_I, k_S, k_B, k_N, k_G, k_Y, k_V, k_W, k_O, g0_z, g0_s, gA_z, gA_s, g1_z, g1_s, k_1, k_2, k_n, k_c, k_T, k_L, k_C, k_f1, k_f2, k_App, k_M, k_P, k_3, k_tB, k_tT, k_toB, k_tNo, k_tA, k_tO, k_tY, k_And, k_Or, k_Not, k_eIf, k_nil, k_seq, k_set, k_own, k_drop, k_ret, k_retN, k_retO, k_if, k_fz, fz_z, fz_s, k_gN, k_gsN, k_gsC, k_gT, k_asg, k_for, k_fnil, k_fcons, k_app, oL_z, oL_s, k_par, k_run, k_runN, k_fld, oO_z, k_add, k_addL, k_sub, k_mul, k_div, k_mod, k_pow, k_neg, k_lt, k_le, k_gt, k_ge, k_eqI, k_neI, k_int, k_intB, k_abs, k_lenL, k_lenT, k_lenC, k_tru, k_tupL, k_tupT, k_items_l, k_items_t, k_rng1, k_ixL, k_ixT, k_ixC, k_fldD, ok_nox, ok_ok, ok_bind, List.set_cons_zero, List.set_cons_succ, startS, startN, List.map_cons, List.map_nil, List.cons_append, List.nil_append, List.append_nil, List.length_cons, List.length_nil, List.replicate, Nat.reduceSub, Nat.reduceAdd, Nat.reduceLeDiff, Nat.zero_add, true_and, and_true, false_implies, true_implies, implies_true, forall_const, reduceCtorEq, Bool.not_true, Bool.not_false, Bool.not_eq_true', k_eM1])
      refine ⟨_, a2, rfl, _, a1, ?_⟩
      show Ok (d__law_words' 4 [p.1]) _
      refine j4.l.2.mono ?_
      rintro d rfl
      rw [k_joinT j4.k j4.w.1]
      show Ok (d__law_same' 12 _) _
      refine (p_same 11 _ (.str _ _ (txt_ok j4.k))).mono ?_
      rintro d rfl
      (try simp only [↓k_guard, k_no, k_I, k_S, k_B, k_N, k_G, k_Y, k_V, k_W, k_O, g0_z, g0_s, gA_z, gA_s, g1_z, g1_s, k_1, k_2, k_n, k_c, k_T, k_L, k_C, k_f1, k_f2, k_App, k_M, k_P, k_3, k_tB, k_tT, k_toB, k_tNo, k_tA, k_tO, k_tY, k_And, k_Or, k_Not, k_eIf, k_nil, k_seq, k_set, k_own, k_drop, k_ret, k_retN, k_retO, k_if, k_fz, fz_z, fz_s, k_gN, k_gsN, k_gsC, k_gT, k_asg, k_for, k_fnil, k_fcons, k_app, oL_z, oL_s, k_par, k_run, k_runN, k_fld, oO_z, k_add, k_addL, k_sub, k_mul, k_div, k_mod, k_pow, k_neg, k_lt, k_le, k_gt, k_ge, k_eqI, k_neI, k_int, k_intB, k_abs, k_lenL, k_lenT, k_lenC, k_tru, k_tupL, k_tupT, k_items_l, k_items_t, k_rng1, k_ixL, k_ixT, k_ixC, k_fldD, ok_nox, ok_ok, ok_bind, List.set_cons_zero, List.set_cons_succ, startS, startN, List.map_cons, List.map_nil, List.cons_append, List.nil_append, List.append_nil, List.length_cons, List.length_nil, List.replicate, Nat.reduceSub, Nat.reduceAdd, Nat.reduceLeDiff, Nat.zero_add, true_and, and_true, false_implies, true_implies, implies_true, forall_const, reduceCtorEq, Bool.not_true, Bool.not_false, Bool.not_eq_true'])
      exact ⟨_, rfl⟩
    · rintro S ⟨o, rfl⟩
      exact ⟨rfl, o, rfl⟩
  rintro S ⟨o, rfl⟩
  rw [k_ret, k_C, k_c]
  refine k_lcM (fun i : Nat => D.int (0 + (i : Int))) (fun _ => .bl true) (List.range c) ?_ (by simp; omega) ?_ ?_
  · (try simp only [↓k_guard, k_no, k_I, k_S, k_B, k_N, k_G, k_Y, k_V, k_W, k_O, g0_z, g0_s, gA_z, gA_s, g1_z, g1_s, k_1, k_2, k_n, k_c, k_T, k_L, k_C, k_f1, k_f2, k_App, k_M, k_P, k_3, k_tB, k_tT, k_toB, k_tNo, k_tA, k_tO, k_tY, k_And, k_Or, k_Not, k_eIf, k_nil, k_seq, k_set, k_own, k_drop, k_ret, k_retN, k_retO, k_if, k_fz, fz_z, fz_s, k_gN, k_gsN, k_gsC, k_gT, k_asg, k_for, k_fnil, k_fcons, k_app, oL_z, oL_s, k_par, k_run, k_runN, k_fld, oO_z, k_add, k_addL, k_sub, k_mul, k_div, k_mod, k_pow, k_neg, k_lt, k_le, k_gt, k_ge, k_eqI, k_neI, k_int, k_intB, k_abs, k_lenL, k_lenT, k_lenC, k_tru, k_tupL, k_tupT, k_items_l, k_items_t, k_rng1, k_ixL, k_ixT, k_ixC, k_fldD, ok_nox, ok_ok, ok_bind, List.set_cons_zero, List.set_cons_succ, startS, startN, List.map_cons, List.map_nil, List.cons_append, List.nil_append, List.append_nil, List.length_cons, List.length_nil, List.replicate, Nat.reduceSub, Nat.reduceAdd, Nat.reduceLeDiff, Nat.zero_add, true_and, and_true, false_implies, true_implies, implies_true, forall_const, reduceCtorEq, Bool.not_true, Bool.not_false, Bool.not_eq_true'])
    refine ⟨⟨by omega, by omega⟩, ?_⟩
    rw [Int.toNat_natCast]; rfl
  · intro i hi
    have hi : i < c := by simpa using hi
    obtain ⟨p, hp, a1, a2⟩ := at_ i hi
    obtain ⟨j4, j5, hk, hne, hpl⟩ := hg p hp
    (try simp only [↓k_guard, k_no, k_I, k_S, k_B, k_N, k_G, k_Y, k_V, k_W, k_O, g0_z, g0_s, gA_z, gA_s, g1_z, g1_s, k_1, k_2, k_n, k_c, k_T, k_L, k_C, k_f1, k_f2, k_App, k_M, k_P, k_3, k_tB, k_tT, k_toB, k_tNo, k_tA, k_tO, k_tY, k_And, k_Or, k_Not, k_eIf, k_nil, k_seq, k_set, k_own, k_drop, k_ret, k_retN, k_retO, k_if, k_fz, fz_z, fz_s, k_gN, k_gsN, k_gsC, k_gT, k_asg, k_for, k_fnil, k_fcons, k_app, oL_z, oL_s, k_par, k_run, k_runN, k_fld, oO_z, k_add, k_addL, k_sub, k_mul, k_div, k_mod, k_pow, k_neg, k_lt, k_le, k_gt, k_ge, k_eqI, k_neI, k_int, k_intB, k_abs, k_lenL, k_lenT, k_lenC, k_tru, k_tupL, k_tupT, k_items_l, k_items_t, k_rng1, k_ixL, k_ixT, k_ixC, k_fldD, ok_nox, ok_ok, ok_bind, List.set_cons_zero, List.set_cons_succ, startS, startN, List.map_cons, List.map_nil, List.cons_append, List.nil_append, List.append_nil, List.length_cons, List.length_nil, List.replicate, Nat.reduceSub, Nat.reduceAdd, Nat.reduceLeDiff, Nat.zero_add, true_and, and_true, false_implies, true_implies, implies_true, forall_const, reduceCtorEq, Bool.not_true, Bool.not_false, Bool.not_eq_true', wipeS])
    refine ⟨_, a2, ?_⟩
    refine (p_read j5 hk hne).mono ?_
    rintro d rfl
    refine ⟨_, a1, ?_⟩
    show Ok (d__law_same' 12 _) _
    exact (p_same 11 _ hpl).mono fun d hd => hd
  · (try simp only [↓k_guard, k_no, k_I, k_S, k_B, k_N, k_G, k_Y, k_V, k_W, k_O, g0_z, g0_s, gA_z, gA_s, g1_z, g1_s, k_1, k_2, k_n, k_c, k_T, k_L, k_C, k_f1, k_f2, k_App, k_M, k_P, k_3, k_tB, k_tT, k_toB, k_tNo, k_tA, k_tO, k_tY, k_And, k_Or, k_Not, k_eIf, k_nil, k_seq, k_set, k_own, k_drop, k_ret, k_retN, k_retO, k_if, k_fz, fz_z, fz_s, k_gN, k_gsN, k_gsC, k_gT, k_asg, k_for, k_fnil, k_fcons, k_app, oL_z, oL_s, k_par, k_run, k_runN, k_fld, oO_z, k_add, k_addL, k_sub, k_mul, k_div, k_mod, k_pow, k_neg, k_lt, k_le, k_gt, k_ge, k_eqI, k_neI, k_int, k_intB, k_abs, k_lenL, k_lenT, k_lenC, k_tru, k_tupL, k_tupT, k_items_l, k_items_t, k_rng1, k_ixL, k_ixT, k_ixC, k_fldD, ok_nox, ok_ok, ok_bind, List.set_cons_zero, List.set_cons_succ, startS, startN, List.map_cons, List.map_nil, List.cons_append, List.nil_append, List.append_nil, List.length_cons, List.length_nil, List.replicate, Nat.reduceSub, Nat.reduceAdd, Nat.reduceLeDiff, Nat.zero_add, true_and, and_true, false_implies, true_implies, implies_true, forall_const, reduceCtorEq, Bool.not_true, Bool.not_false, Bool.not_eq_true'])
    rw [k_all]
    simp
end Pf
set_option Elab.async false
set_option linter.all false
set_option maxRecDepth 100000
set_option maxHeartbeats 0
namespace Pf
open PySem L2 M
def dd_sign_of : Dx := ⟨.glo "sign_of", ⟨("", none), "sign_of", "sign_of", defArgs st_sign_of, defBody st_sign_of, defScope st_sign_of, [], []⟩⟩
def dd_row_words : Dx := ⟨.glo "row_words", ⟨("", none), "row_words", "row_words", defArgs st_row_words, defBody st_row_words, defScope st_row_words, [], []⟩⟩
def dd_row_text : Dx := ⟨.glo "row_text", ⟨("", none), "row_text", "row_text", defArgs st_row_text, defBody st_row_text, defScope st_row_text, [], []⟩⟩
def dd_word_at : Dx := ⟨.glo "word_at", ⟨("", none), "word_at", "word_at", defArgs st_word_at, defBody st_word_at, defScope st_word_at, [], []⟩⟩
def dd_entries_of : Dx := ⟨.glo "entries_of", ⟨("", none), "entries_of", "entries_of", defArgs st_entries_of, defBody st_entries_of, defScope st_entries_of, [], []⟩⟩
def dd_meaning : Dx := ⟨.glo "meaning", ⟨("", none), "meaning", "meaning", defArgs st_meaning, defBody st_meaning, defScope st_meaning, [], []⟩⟩
def dd_read_joint : Dx := ⟨.glo "read_joint", ⟨("", none), "read_joint", "read_joint", defArgs st_read_joint, defBody st_read_joint, defScope st_read_joint, [], []⟩⟩
def dd_read_row : Dx := ⟨.glo "read_row", ⟨("", none), "read_row", "read_row", defArgs st_read_row, defBody st_read_row, defScope st_read_row, [], []⟩⟩
def dd__law_cell : Dx := ⟨.glo "_law_cell", ⟨("", none), "_law_cell", "_law_cell", defArgs st__law_cell, defBody st__law_cell, defScope st__law_cell, [], []⟩⟩
def dd__law_draws : Dx := ⟨.glo "_law_draws", ⟨("", none), "_law_draws", "_law_draws", defArgs st__law_draws, defBody st__law_draws, defScope st__law_draws, [], []⟩⟩
def dd__law_entries : Dx := ⟨.glo "_law_entries", ⟨("", none), "_law_entries", "_law_entries", defArgs st__law_entries, defBody st__law_entries, defScope st__law_entries, [], []⟩⟩
def dd__law_row : Dx := ⟨.glo "_law_row", ⟨("", none), "_law_row", "_law_row", defArgs st__law_row, defBody st__law_row, defScope st__law_row, [], []⟩⟩
def dd__law_joint : Dx := ⟨.glo "_law_joint", ⟨("", none), "_law_joint", "_law_joint", defArgs st__law_joint, defBody st__law_joint, defScope st__law_joint, [], []⟩⟩
def dd__law_words : Dx := ⟨.glo "_law_words", ⟨("", none), "_law_words", "_law_words", defArgs st__law_words, defBody st__law_words, defScope st__law_words, [], []⟩⟩
def dd__law_same : Dx := ⟨.glo "_law_same", ⟨("", none), "_law_same", "_law_same", defArgs st__law_same, defBody st__law_same, defScope st__law_same, [], []⟩⟩
def dd_law : Dx := ⟨.glo "law", ⟨("", none), "law", "law", defArgs st_law, defBody st_law, defScope st_law, [], []⟩⟩
def fn : List Dx := [dd_sign_of, dd_row_words, dd_row_text, dd_word_at, dd_entries_of, dd_meaning, dd_read_joint, dd_read_row, dd__law_cell, dd__law_draws, dd__law_entries, dd__law_row, dd__law_joint, dd__law_words, dd__law_same, dd_law]
def ftab : List TabI := [("ENTRIES", tv_ENTRIES), ("BITS", tv_BITS), ("RUNS", tv_RUNS), ("MORES", tv_MORES)]
def fx : Fy := ⟨[.glo "sign_of", .glo "row_words", .glo "row_text", .glo "word_at", .glo "entries_of", .glo "meaning", .glo "read_joint", .glo "read_row", .glo "_law_cell", .glo "_law_draws", .glo "_law_entries", .glo "_law_row", .glo "_law_joint", .glo "_law_words", .glo "_law_same", .glo "law", .free "abs", .free "all", .free "any", .free "bool", .free "int", .free "isinstance", .free "len", .free "list", .free "max", .free "min", .free "range", .free "str", .free "tuple", .glo "ENTRIES", .glo "BITS", .glo "RUNS", .glo "MORES"], [("MOST_ENTRIES", gv_MOST_ENTRIES), ("MOST_ROWS", gv_MOST_ROWS)], [], []⟩
def clK (K : PySem.W.Frag) : Nat → Option (Addr × List Str) := fun i => none
def looseN : List Str := (["BreachError", "BadText", "MOST_ROWS", "MOST_ENTRIES", "BITS", "ENTRIES", "RUNS", "MORES", "sign_of", "row_words", "row_text", "word_at", "entries_of", "meaning", "read_joint", "read_row", "_law_cell", "_law_draws", "_law_entries", "_law_row", "_law_joint", "_law_words", "_law_same"] : List Str)
abbrev Rw : PySem.W.OpenRow := PySem.W.OpenLaw.row PySem.Challenge.rw_firstbreach_k65_row_texts_read_back
abbrev hk : PySem.W.Hook := hookZ 5 fx ftab fn
def ob (s : PySem.W.SharedT) : AlZ := obsZG 5 fx ftab fn (HandSHeadRun.getT s)
theorem ob_eq (s : PySem.W.SharedT) : ob s = hk.obs s.abs := obsZG_eq (HandSHeadRun.getT_eq s)
theorem run (w : World) : HandSHeadRun.RunEq Rw (PySem.W.view Rw.prog [26]) hk ob 4000 looseN w := by
  exact PySem.W.byRow2 "special-get-raises" (P := fun w => HandSHeadRun.RunEq Rw (PySem.W.view Rw.prog [26]) hk ob 4000 looseN w) (fun w os => by kernel_rfl) (fun w os => by kernel_rfl) w
theorem facts {P : Program} {w : World} {K : PySem.W.Frag} {h : Heap} {mg : Str → Option Value} {f : Addr} (X : K.In h) (Gn : h.Ns mainGlobals mg) (hfa : mg ("law" : Str) = some (.ref f)) (cz : SaysZ fx ftab fn w K) :
    ∃ fd : FuncData, (∀ (s : Shared) (v : Value), BindsTo s fd ⟨[v], []⟩ [("_law_script", v)]) ∧ ∀ base : Heap, K.In base → base.Ns mainGlobals mg → FnOk P w K mg base CX0 14 f fd ["_law_script"] (SpF ⟨K, clK K⟩ false 1 d_law) := by
  have c := cz.y
  have t_ENTRIES : KTab K w mg "ENTRIES" tv_ENTRIES := ktab_ok (t := ("ENTRIES", tv_ENTRIES)) (He.glo_ok X Gn (c.fact 29 (f := .glo "ENTRIES") rfl)) (cz.tab 0 rfl).1 (cz.tab 0 rfl).2
  have t_BITS : KTab K w mg "BITS" tv_BITS := ktab_ok (t := ("BITS", tv_BITS)) (He.glo_ok X Gn (c.fact 30 (f := .glo "BITS") rfl)) (cz.tab 1 rfl).1 (cz.tab 1 rfl).2
  have t_RUNS : KTab K w mg "RUNS" tv_RUNS := ktab_ok (t := ("RUNS", tv_RUNS)) (He.glo_ok X Gn (c.fact 31 (f := .glo "RUNS") rfl)) (cz.tab 2 rfl).1 (cz.tab 2 rfl).2
  have t_MORES : KTab K w mg "MORES" tv_MORES := ktab_ok (t := ("MORES", tv_MORES)) (He.glo_ok X Gn (c.fact 32 (f := .glo "MORES") rfl)) (cz.tab 3 rfl).1 (cz.tab 3 rfl).2
  have B : Bt mg := ⟨He.free_ok X Gn (c.fact 16 (f := .free "abs") rfl), He.free_ok X Gn (c.fact 17 (f := .free "all") rfl), He.free_ok X Gn (c.fact 18 (f := .free "any") rfl), He.free_ok X Gn (c.fact 19 (f := .free "bool") rfl), He.free_ok X Gn (c.fact 20 (f := .free "int") rfl), He.free_ok X Gn (c.fact 21 (f := .free "isinstance") rfl), He.free_ok X Gn (c.fact 22 (f := .free "len") rfl), He.free_ok X Gn (c.fact 23 (f := .free "list") rfl), He.free_ok X Gn (c.fact 24 (f := .free "max") rfl), He.free_ok X Gn (c.fact 25 (f := .free "min") rfl), He.free_ok X Gn (c.fact 26 (f := .free "range") rfl), He.free_ok X Gn (c.fact 27 (f := .free "str") rfl), He.free_ok X Gn (c.fact 28 (f := .free "tuple") rfl)⟩
  have g_MOST_ENTRIES : Gc mg ⟨K, clK K⟩ "MOST_ENTRIES" gv_MOST_ENTRIES := gB_ok X Gn (c.gc 0 (f := ("MOST_ENTRIES", gv_MOST_ENTRIES)) rfl)
  have g_MOST_ROWS : Gc mg ⟨K, clK K⟩ "MOST_ROWS" gv_MOST_ROWS := gB_ok X Gn (c.gc 1 (f := ("MOST_ROWS", gv_MOST_ROWS)) rfl)
  obtain ⟨fd_sign_of, F_sign_of⟩ := c.def_ 0 (d := dd_sign_of) rfl
  obtain ⟨fd_row_words, F_row_words⟩ := c.def_ 1 (d := dd_row_words) rfl
  obtain ⟨fd_row_text, F_row_text⟩ := c.def_ 2 (d := dd_row_text) rfl
  obtain ⟨fd_word_at, F_word_at⟩ := c.def_ 3 (d := dd_word_at) rfl
  obtain ⟨fd_entries_of, F_entries_of⟩ := c.def_ 4 (d := dd_entries_of) rfl
  obtain ⟨fd_meaning, F_meaning⟩ := c.def_ 5 (d := dd_meaning) rfl
  obtain ⟨fd_read_joint, F_read_joint⟩ := c.def_ 6 (d := dd_read_joint) rfl
  obtain ⟨fd_read_row, F_read_row⟩ := c.def_ 7 (d := dd_read_row) rfl
  obtain ⟨fd__law_cell, F__law_cell⟩ := c.def_ 8 (d := dd__law_cell) rfl
  obtain ⟨fd__law_draws, F__law_draws⟩ := c.def_ 9 (d := dd__law_draws) rfl
  obtain ⟨fd__law_entries, F__law_entries⟩ := c.def_ 10 (d := dd__law_entries) rfl
  obtain ⟨fd__law_row, F__law_row⟩ := c.def_ 11 (d := dd__law_row) rfl
  obtain ⟨fd__law_joint, F__law_joint⟩ := c.def_ 12 (d := dd__law_joint) rfl
  obtain ⟨fd__law_words, F__law_words⟩ := c.def_ 13 (d := dd__law_words) rfl
  obtain ⟨fd__law_same, F__law_same⟩ := c.def_ 14 (d := dd__law_same) rfl
  obtain ⟨fd_law, F_law⟩ := c.def_ 15 (d := dd_law) rfl
  have e := hfa.symm.trans (He.glo_ok X Gn (c.fact 15 (f := .glo "law") rfl))
  cases e
  have b := FunD.bindsA (ps := ["_law_script"]) F_law fun _ _ _ _ _ _ us hl => match us, hl with | [_], _ => rfl
  refine ⟨fd_law, fun s v => b s [v] rfl, fun base _ _ => ?_⟩
  have h_sign_of : Callee P w K mg base ⟨K, clK K⟩ 1 "sign_of" 1 false d_sign_of := ok_sign_of F_sign_of (He.glo_ok X Gn (c.fact 0 (f := .glo "sign_of") rfl)) B 
  have h_row_words : Callee P w K mg base ⟨K, clK K⟩ 6 "row_words" 1 false d_row_words := ok_row_words F_row_words (He.glo_ok X Gn (c.fact 1 (f := .glo "row_words") rfl)) B h_sign_of
  have h_row_text : Callee P w K mg base ⟨K, clK K⟩ 7 "row_text" 1 false d_row_text := ok_row_text F_row_text (He.glo_ok X Gn (c.fact 2 (f := .glo "row_text") rfl)) B h_row_words
  have h_word_at : Callee P w K mg base ⟨K, clK K⟩ 1 "word_at" 2 false d_word_at := ok_word_at F_word_at (He.glo_ok X Gn (c.fact 3 (f := .glo "word_at") rfl)) B 
  have h_entries_of : Callee P w K mg base ⟨K, clK K⟩ 1 "entries_of" 1 false d_entries_of := ok_entries_of F_entries_of (He.glo_ok X Gn (c.fact 4 (f := .glo "entries_of") rfl)) B g_MOST_ENTRIES t_ENTRIES
  have h_meaning : Callee P w K mg base ⟨K, clK K⟩ 2 "meaning" 2 false d_meaning := ok_meaning F_meaning (He.glo_ok X Gn (c.fact 5 (f := .glo "meaning") rfl)) B t_BITS h_entries_of t_RUNS t_MORES
  have h_read_joint : Callee P w K mg base ⟨K, clK K⟩ 8 "read_joint" 3 false d_read_joint := ok_read_joint F_read_joint (He.glo_ok X Gn (c.fact 6 (f := .glo "read_joint") rfl)) B h_meaning h_word_at g_MOST_ROWS
  have h_read_row : Callee P w K mg base ⟨K, clK K⟩ 9 "read_row" 1 false d_read_row := ok_read_row F_read_row (He.glo_ok X Gn (c.fact 7 (f := .glo "read_row") rfl)) B h_read_joint
  have h__law_cell : Callee P w K mg base ⟨K, clK K⟩ 1 "_law_cell" 2 false d__law_cell := ok__law_cell F__law_cell (He.glo_ok X Gn (c.fact 8 (f := .glo "_law_cell") rfl)) B 
  have h__law_draws : Callee P w K mg base ⟨K, clK K⟩ 2 "_law_draws" 3 false d__law_draws := ok__law_draws F__law_draws (He.glo_ok X Gn (c.fact 9 (f := .glo "_law_draws") rfl)) B h__law_cell
  have h__law_entries : Callee P w K mg base ⟨K, clK K⟩ 1 "_law_entries" 1 false d__law_entries := ok__law_entries F__law_entries (He.glo_ok X Gn (c.fact 10 (f := .glo "_law_entries") rfl)) B 
  have h__law_row : Callee P w K mg base ⟨K, clK K⟩ 2 "_law_row" 2 false d__law_row := ok__law_row F__law_row (He.glo_ok X Gn (c.fact 11 (f := .glo "_law_row") rfl)) B h__law_entries
  have h__law_joint : Callee P w K mg base ⟨K, clK K⟩ 3 "_law_joint" 1 false d__law_joint := ok__law_joint F__law_joint (He.glo_ok X Gn (c.fact 12 (f := .glo "_law_joint") rfl)) B h__law_row
  have h__law_words : Callee P w K mg base ⟨K, clK K⟩ 5 "_law_words" 1 false d__law_words := ok__law_words F__law_words (He.glo_ok X Gn (c.fact 13 (f := .glo "_law_words") rfl)) B 
  have h__law_same : Callee P w K mg base ⟨K, clK K⟩ 13 "_law_same" 2 false d__law_same := ok__law_same F__law_same (He.glo_ok X Gn (c.fact 14 (f := .glo "_law_same") rfl)) B 
  exact ok_law F_law (He.glo_ok X Gn (c.fact 15 (f := .glo "law") rfl)) B h__law_joint h__law_draws h_row_text h__law_same h__law_words h_read_row
end Pf
set_option Elab.async false
set_option linter.all false
set_option maxRecDepth 100000
set_option maxHeartbeats 0
open PySem PySem.W PySem.Calls PyProof.Rows
theorem PySem.Challenge.cw_firstbreach_k65_row_texts_read_back_holds : PySem.Challenge.rw_firstbreach_k65_row_texts_read_back.Holds := by
  w_on; o_law
  refine HandSHeadRun.head_any (r := OpenLaw.row PySem.Challenge.rw_firstbreach_k65_row_texts_read_back) (q := view (OpenLaw.row PySem.Challenge.rw_firstbreach_k65_row_texts_read_back).prog [26]) (H := Pf.hk) (ob := Pf.ob) (M := 4000) (loose := Pf.looseN) (d := HandSHeadRun.topDef (OpenLaw.row PySem.Challenge.rw_firstbreach_k65_row_texts_read_back).prog 26) (kwd := []) Pf.ob_eq
    (by kernel_rfl) (fun s => by kernel_rfl) Pf.run (by kernel_rfl) (by kernel_rfl) (by kernel_rfl) (by rfl) (by first | assumption | decide +kernel) (by decide +kernel) ⟨rfl, rfl, rfl, rfl, rfl, by decide +kernel⟩ ?hw ?hc
  case hw => w_witness2
  case hc =>
    refine M.walk_ofX (l := PySem.Challenge.rw_firstbreach_k65_row_texts_read_back) (n := 63) (k := 14) (x := "_law_script") (den := Pf.d_law) rfl (by decide) (by kernel_rfl) ⟨rfl, by decide, by decide⟩ ?F Pf.pure_law
    intro w mg fa h Y G hmg0
    obtain ⟨K, KX, c⟩ := Y
    have hmg : mg ("law" : PySem.Str) = some (.ref fa) := by
      have e : (HandSHeadRun.topDef (OpenLaw.row PySem.Challenge.rw_firstbreach_k65_row_texts_read_back).prog 26).name = ("law" : PySem.Str) := by kernel_rfl
      rw [← e]
      exact hmg0
    obtain ⟨fd, hb, hF⟩ := Pf.facts (P := (PySem.Challenge.rw_firstbreach_k65_row_texts_read_back).prog) (w := w) KX G hmg c
    exact ⟨K, fd, Pf.clK K, KX, hb, hF⟩
