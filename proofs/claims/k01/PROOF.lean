import PyProof.Rows.All
import HandS.ForMost
import HandS.Flow
import HandS.Deep
import HandS.Evl
import HandS.WordsExc
import HandS.Exc
import HandS.TupAny
import HandS.TupMul
import HandS.TupLe
import HandS.WideBits
import HandS.Zip
import HandS.Defaults
import HandS.IsInst
import HandS.Strs
import KE.SortData
import HandS.Text
import HandS.Style
import HandS.MakeKwOnly
import HandS.MakeKw
import HandS.SetBool
import HandS.TupSets
import KE.GoesEnum
import KE.GoesMore
import HandS.Property
import HandS.Head0
import HandS.Head1
import HandS.Head2
import HandS.HeadEnd
import HandS.HeadHook1
import HandS.HeadHook2
import HandS.EndBits
import HandS.HeadNt
import KE.DataAny
import HandS.Conv
import HandS.More
import HandS.HeadHook3
import PyProof.RulesMatch
import HandS.SetFor
import HandS.SetKeys
import HandS.SortKw
import HandS.Keys
import KE.SortKeyHeap
import HandS.ExcInit
import HandS.ExcCtx
import KE.KExcLine
import KE.KSuper
import HandS.ExcField
import HandS.ExcIs
import HandS.TryOnly
import HandS.HotCalls
import HandS.ClsMeth
import HandS.DictComp
import HandS.Small
import PySem.Challenge.RW_firstbreach_k01_share_states
set_option Elab.async false
set_option linter.all false
set_option maxRecDepth 100000
set_option maxHeartbeats 4000000
/-! A plain by-value semantics over the hand layer: values D, results R, slots with an owner's flag. -/
namespace M
open PySem L2
/-! ### values, results -/
inductive D where
  | non | bl (b : Bool) | int (i : Int) | str (x : Str) | ty (n : String)
  | tup (xs : List D) | lst (xs : List D) | dic (ks : List Key) (vs : List D) | dit (ks : List (List Key)) (vs : List D)
  | obj (c : Nat) (fs : List D) | scr (ns : List Int) | cls (c : Nat)
  deriving Inhabited
structure Exc where
  c : Nat
  fs : List D
inductive R (α : Type) where
  | ok (a : α) | exc (x : Exc) | fail
def R.bind {α β : Type} (r : R α) (f : α → R β) : R β := match r with
  | .ok a => f a
  | .exc x => .exc x
  | .fail => .fail
instance : Monad R where
  pure := .ok
  bind := R.bind
@[simp] theorem R.pure_eq {α : Type} (a : α) : (pure a : R α) = .ok a := rfl
@[simp] theorem R.ok_bind {α β : Type} (a : α) (f : α → R β) : (R.ok a >>= f) = f a := rfl
@[simp] theorem R.exc_bind {α β : Type} (x : Exc) (f : α → R β) : (R.exc x >>= f) = .exc x := rfl
@[simp] theorem R.fail_bind {α β : Type} (f : α → R β) : (R.fail >>= f) = .fail := rfl
/-- an exception may not leave here -/
def R.nox {α : Type} : R α → R α
  | .exc _ => .fail
  | r => r
@[simp] theorem R.nox_ok {α : Type} (a : α) : (R.ok a).nox = .ok a := rfl
@[simp] theorem R.nox_fail {α : Type} : (R.fail : R α).nox = .fail := rfl
/-- a guard -/
def R.need (b : Bool) : R Unit := if b then .ok () else .fail
@[simp] theorem R.need_true : R.need true = .ok () := rfl
structure Sl where
  own : Bool
  d : D
abbrev Env := List (Option Sl)
abbrev FE := Env → R D
abbrev FT := Env → R Bool
abbrev FA := Env → R (List D)
inductive Fl where
  | nx | bk | ct | rt (d : D)
abbrev FS := Env → R (Fl × Env)
abbrev FG := D → Env → R Env
/-- a value: stable; borrowed from a slot that owns it; new -/
inductive Kd where
  | st | bo | fr
/-! ### heaps -/
def Ex (H H' : Hp) : Prop := ∀ a o, H a = some o → H' a = some o
theorem Ex.refl (H : Hp) : Ex H H := fun _ _ h => h
theorem Ex.trans {H H1 H2 : Hp} (a : Ex H H1) (b : Ex H1 H2) : Ex H H2 := fun x o h => b x o (a x o h)
theorem Ex.new {H : Hp} {p : Addr} {o : HO} (h : H p = none) : Ex H (upd H p o) := fun a u e => by
  rw [upd_ne (ne_of_none e h)]; exact e
theorem Ex.upd {H H' : Hp} {p : Addr} {o : HO} (e : Ex H H') (h : H p = none) : Ex H (upd H' p o) := fun a u q => by
  rw [upd_ne (ne_of_none q h)]; exact e a u q
theorem Ex.upd2 {H H' : Hp} {p : Addr} {o : HO} (e : Ex H H') (h : H' p = some o) : Ex (L2.upd H p o) H' := fun a u q => by
  by_cases ha : a = p
  · subst ha; rw [upd_same] at q; cases q; exact h
  · rw [upd_ne ha] at q; exact e a u q
theorem Ex.free {H H' : Hp} (e : Ex H H') {l : Addr} (h : H' l = none) : H l = none := by
  cases q : H l with
  | none => rfl
  | some o => rw [e l o q] at h; cases h
theorem Ex.sqL {K : PySem.W.Frag} {H H' : Hp} {a : Addr} {xs : List V} (e : Ex H H') (h : SqL K H a xs) : SqL K H' a xs := by
  rcases h with (h | ⟨o, h⟩) | h
  · exact .inl (.inl (e _ _ h))
  · exact .inl (.inr ⟨o, e _ _ h⟩)
  · exact .inr h
theorem Ex.sqT {K : PySem.W.Frag} {H H' : Hp} {a : Addr} {xs : List V} (e : Ex H H') (h : SqT K H a xs) : SqT K H' a xs := by
  rcases h with (h | ⟨o, h⟩) | h
  · exact .inl (.inl (e _ _ h))
  · exact .inl (.inr ⟨o, e _ _ h⟩)
  · exact .inr h
/-- a constant of the text may be of these shapes -/
def okC (xs : List V) : Bool := decide (xs.length < 2) || (decide (3 < xs.length) || xs.all fun x => match x with | .str _ => true | _ => false)
/-- a tuple that is tracked, or a constant of the text -/
def SqU (K : PySem.W.Frag) (H : Hp) (a : Addr) (xs : List V) : Prop := H a = some (.tup xs) ∨ ∃ (o : Obj) (its : Array Value) (n : Nat), K.lookup a = some o ∧ o.cls = .type "tuple" ∧ o.data = .seq its n ∧ its.size ≤ sizeLine ∧ Vals xs its.toList ∧ okC xs = true
theorem SqU.t {K : PySem.W.Frag} {H : Hp} {a : Addr} {xs : List V} (h : SqU K H a xs) : SqT K H a xs := by
  rcases h with h | ⟨o, its, n, h1, h2, h3, h4, h5, _⟩
  · exact SqT.of h
  · exact .inr ⟨o, its, n, h1, h2, h3, h4, h5⟩
theorem SqU.of {K : PySem.W.Frag} {H : Hp} {a : Addr} {xs : List V} (h : H a = some (.tup xs)) : SqU K H a xs := .inl h
theorem Ex.sqU {K : PySem.W.Frag} {H H' : Hp} {a : Addr} {xs : List V} (e : Ex H H') (h : SqU K H a xs) : SqU K H' a xs := by
  rcases h with h | h
  · exact .inl (e _ _ h)
  · exact .inr h
/-- the stable part G within H grows by what is new alone -/
structure Step (G H G' H' : Hp) : Prop where
  g : Ex G G'
  h : Ex H H'
  gh : Ex G' H'
  gr : ∀ b o, G' b = some o → G b = some o ∨ H b = none
theorem Step.refl {G H : Hp} (e : Ex G H) : Step G H G H := ⟨Ex.refl _, Ex.refl _, e, fun _ _ h => .inl h⟩
theorem Step.trans {G H G1 H1 G2 H2 : Hp} (a : Step G H G1 H1) (b : Step G1 H1 G2 H2) : Step G H G2 H2 :=
  ⟨a.g.trans b.g, a.h.trans b.h, b.gh, fun x o q => by
    rcases b.gr x o q with q | q
    · exact a.gr x o q
    · exact .inr (a.h.free q)⟩
/-- a new object, stable at once -/
theorem Step.new {G H : Hp} {p : Addr} {o : HO} (e : Ex G H) (h : H p = none) : Step G H (upd G p o) (upd H p o) :=
  ⟨Ex.new (e.free h), Ex.new h, fun a u q => by
    by_cases ha : a = p
    · subst ha; rw [upd_same] at q ⊢; exact q
    · rw [upd_ne ha] at q ⊢; exact e a u q, fun b u q => by
    by_cases hb : b = p
    · subst hb; exact .inr h
    · rw [upd_ne hb] at q; exact .inl q⟩
/-- a new object, not stable -/
theorem Step.new' {G H : Hp} {p : Addr} {o : HO} (e : Ex G H) (h : H p = none) : Step G H G (upd H p o) :=
  ⟨Ex.refl _, Ex.new h, e.upd (e.free h), fun _ _ q => .inl q⟩
/-- what is new becomes stable -/
theorem Step.frz {G0 H0 G H : Hp} {p : Addr} {o : HO} (s : Step G0 H0 G H) (h : H p = some o) (h0 : H0 p = none) (hg : G p = none) : Step G0 H0 (upd G p o) H :=
  ⟨s.g.trans (Ex.new hg), s.h, s.gh.upd2 h, fun b u q => by
    by_cases hb : b = p
    · subst hb; exact .inr h0
    · rw [upd_ne hb] at q; exact s.gr b u q⟩
/-! ### the relation of values -/
/-- what is known of the text: its written part; the classes by number: address, names of the fields -/
structure Kn where
  K : PySem.W.Frag
  cl : Nat → Option (Addr × List Str)
mutual
inductive RD (k : Kn) (G : Hp) : D → V → Prop where
  | non : RD k G .non .non
  | bl (b : Bool) : RD k G (.bl b) (.bl b)
  | int (i : Int) : RD k G (.int i) (.int i)
  | str (x : Str) : RD k G (.str x) (.str x)
  | ty (n : String) : RD k G (.ty n) (.ty n)
  | tup {ds : List D} {a : Addr} {vs : List V} : SqU k.K G a vs → RDs k G ds vs → RD k G (.tup ds) (.ref a)
  | lst {ds : List D} {a : Addr} {vs : List V} : G a = some (.lst vs) → RDs k G ds vs → RD k G (.lst ds) (.ref a)
  | cls {c : Nat} {C : Addr} {nm : List Str} : k.cl c = some (C, nm) → RD k G (.cls c) (.ref C)
  | scr {ns : List Int} {a : Addr} : SqL k.K G a (ns.map V.int) → RD k G (.scr ns) (.ref a)
  | dic {ks : List Key} {ds : List D} {a : Addr} {vs : List V} : G a = some (.dK (ks.zip vs)) → ks.length = ds.length → RDs k G ds vs → RD k G (.dic ks ds) (.ref a)
  | dit {ks : List (List Key)} {ds : List D} {a : Addr} {vs : List V} : G a = some (.dT (ks.zip vs)) → ks.length = ds.length → RDs k G ds vs → RD k G (.dit ks ds) (.ref a)
  | obj {c : Nat} {ds : List D} {a C dx : Addr} {nm : List Str} {vs : List V} : k.cl c = some (C, nm) → G a = some (.ins C dx (nm.zip vs)) → RDs k G ds vs → RD k G (.obj c ds) (.ref a)
inductive RDs (k : Kn) (G : Hp) : List D → List V → Prop where
  | nil : RDs k G [] []
  | cons {d : D} {ds : List D} {v : V} {vs : List V} : RD k G d v → RDs k G ds vs → RDs k G (d :: ds) (v :: vs)
end
mutual
theorem RD.mono {k : Kn} {G G' : Hp} (e : Ex G G') : ∀ {d : D} {v : V}, RD k G d v → RD k G' d v
  | _, _, .non => .non
  | _, _, .bl b => .bl b
  | _, _, .int i => .int i
  | _, _, .str x => .str x
  | _, _, .ty n => .ty n
  | _, _, .tup h r => .tup (e.sqU h) (RDs.mono e r)
  | _, _, .lst h r => .lst (e _ _ h) (RDs.mono e r)
  | _, _, .scr h => .scr (e.sqL h)
  | _, _, .cls h => .cls h
  | _, _, .dic h l r => .dic (e _ _ h) l (RDs.mono e r)
  | _, _, .dit h l r => .dit (e _ _ h) l (RDs.mono e r)
  | _, _, .obj c h r => .obj c (e _ _ h) (RDs.mono e r)
theorem RDs.mono {k : Kn} {G G' : Hp} (e : Ex G G') : ∀ {ds : List D} {vs : List V}, RDs k G ds vs → RDs k G' ds vs
  | _, _, .nil => .nil
  | _, _, .cons a b => .cons (RD.mono e a) (RDs.mono e b)
end
section
variable {k : Kn} {G H : Hp}
theorem RDs.length : ∀ {ds : List D} {vs : List V}, RDs k G ds vs → ds.length = vs.length
  | _, _, .nil => rfl
  | _, _, .cons _ b => by simp [RDs.length b]
theorem RDs.append : ∀ {ds es : List D} {vs us : List V}, RDs k G ds vs → RDs k G es us → RDs k G (ds ++ es) (vs ++ us)
  | _, _, _, _, .nil, s => s
  | _, _, _, _, .cons a b, s => .cons a (RDs.append b s)
theorem RDs.get : ∀ {ds : List D} {vs : List V} {i : Nat} {d : D}, RDs k G ds vs → ds[i]? = some d → ∃ v, vs[i]? = some v ∧ RD k G d v
  | _, _, _, _, .nil, h => by simp at h
  | _, _, 0, _, .cons a _, h => by simp at h; subst h; exact ⟨_, rfl, a⟩
  | _, _, i + 1, d, .cons _ b, h => by
    obtain ⟨v, h1, h2⟩ := RDs.get (i := i) (d := d) b (by simpa using h)
    exact ⟨v, by simpa using h1, h2⟩
theorem RDs.getV {ds : List D} {vs : List V} {i : Nat} {v : V} (r : RDs k G ds vs) (h : vs[i]? = some v) : ∃ d, ds[i]? = some d ∧ RD k G d v := by
  have hl := r.length
  have hi : i < ds.length := by rw [hl]; exact (List.getElem?_eq_some_iff.mp h).1
  obtain ⟨v', h1, h2⟩ := r.get (List.getElem?_eq_getElem hi)
  rw [h] at h1; cases h1
  exact ⟨_, List.getElem?_eq_getElem hi, h2⟩
theorem RDs.take : ∀ {ds : List D} {vs : List V} (n : Nat), RDs k G ds vs → RDs k G (ds.take n) (vs.take n)
  | _, _, 0, _ => by simpa using .nil
  | _, _, _ + 1, .nil => .nil
  | _, _, n + 1, .cons r t => .cons r (RDs.take n t)
theorem RDs.drop : ∀ {ds : List D} {vs : List V} (n : Nat), RDs k G ds vs → RDs k G (ds.drop n) (vs.drop n)
  | _, _, 0, r => r
  | _, _, _ + 1, .nil => .nil
  | _, _, n + 1, .cons _ t => RDs.drop n t
theorem RDs.reverse : ∀ {ds : List D} {vs : List V}, RDs k G ds vs → RDs k G ds.reverse vs.reverse
  | _, _, .nil => .nil
  | _, _, .cons a b => by rw [List.reverse_cons, List.reverse_cons]; exact RDs.append (RDs.reverse b) (.cons a .nil)
theorem RDs.set : ∀ {ds : List D} {vs : List V} (i : Nat) {d : D} {v : V}, RDs k G ds vs → RD k G d v → RDs k G (ds.set i d) (vs.set i v)
  | _, _, _, _, _, .nil, _ => .nil
  | _, _, 0, _, _, .cons _ t, r => .cons r t
  | _, _, i + 1, _, _, .cons q t, r => .cons q (RDs.set i t r)
theorem RDs.ints : ∀ (ns : List Int), RDs k G (ns.map D.int) (ns.map V.int)
  | [] => .nil
  | n :: ns => .cons (.int n) (RDs.ints ns)
end
/-- an object and what it holds, one level: what may be owned -/
inductive Cont (k : Kn) (G : Hp) : D → HO → Prop where
  | lst {ds : List D} {vs : List V} : RDs k G ds vs → Cont k G (.lst ds) (.lst vs)
  | dic {ks : List Key} {ds : List D} {vs : List V} : ks.length = ds.length → RDs k G ds vs → Cont k G (.dic ks ds) (.dK (ks.zip vs))
  | dit {ks : List (List Key)} {ds : List D} {vs : List V} : ks.length = ds.length → RDs k G ds vs → Cont k G (.dit ks ds) (.dT (ks.zip vs))
  | obj {c : Nat} {ds : List D} {C dx : Addr} {nm : List Str} {vs : List V} : k.cl c = some (C, nm) → RDs k G ds vs → Cont k G (.obj c ds) (.ins C dx (nm.zip vs))
theorem Cont.mono {k : Kn} {G G' : Hp} (e : Ex G G') {d : D} {o : HO} (c : Cont k G d o) : Cont k G' d o := by
  cases c with
  | lst r => exact .lst (r.mono e)
  | dic l r => exact .dic l (r.mono e)
  | dit l r => exact .dit l (r.mono e)
  | obj h r => exact .obj h (r.mono e)
theorem Cont.rd {k : Kn} {G : Hp} {d : D} {o : HO} {a : Addr} (c : Cont k G d o) (h : G a = some o) : RD k G d (.ref a) := by
  cases c with
  | lst r => exact .lst h r
  | dic l r => exact .dic h l r
  | dit l r => exact .dit h l r
  | obj q r => exact .obj q h r
/-! ### the state of a frame -/
/-- the frame: the text, the heap at the entry, its stable part, what is wanted of an exception -/
structure Cf where
  k : Kn
  H0 : Hp
  G0 : Hp
  W : WX
def OwnAt (S : Env) (σ : St) (i : Nat) (a : Addr) : Prop := (∃ d, S[i]? = some (some ⟨true, d⟩)) ∧ σ[i]? = some (some (.ref a))
structure Rel (c : Cf) (G : Hp) (S : Env) (σ : St) (H : Hp) : Prop where
  st : Step c.G0 c.H0 G H
  len : S.length = σ.length
  fz : ∀ (i : Nat) (d : D), S[i]? = some (some ⟨false, d⟩) → ∃ v, σ[i]? = some (some v) ∧ RD c.k G d v
  ow : ∀ (i : Nat) (d : D), S[i]? = some (some ⟨true, d⟩) → ∃ a o, σ[i]? = some (some (.ref a)) ∧ G a = none ∧ c.H0 a = none ∧ H a = some o ∧ Cont c.k G d o
  nd : ∀ (i j : Nat) (a : Addr), OwnAt S σ i a → OwnAt S σ j a → i = j
section
variable {c : Cf} {G G' H H' : Hp} {S : Env} {σ : St}
theorem Rel.own (r : Rel c G S σ H) {i : Nat} {a : Addr} (h : OwnAt S σ i a) : G a = none ∧ c.H0 a = none ∧ ∃ o d, H a = some o ∧ S[i]? = some (some ⟨true, d⟩) ∧ Cont c.k G d o := by
  obtain ⟨⟨d, hd⟩, hs⟩ := h
  obtain ⟨a', o, e, g, h0, ho, ct⟩ := r.ow i d hd
  rw [hs] at e; cases e
  exact ⟨g, h0, o, d, ho, hd, ct⟩
theorem Rel.grow (r : Rel c G S σ H) (s : Step G H G' H') : Rel c G' S σ H' where
  st := r.st.trans s
  len := r.len
  fz := fun i d h => let ⟨v, e, q⟩ := r.fz i d h; ⟨v, e, q.mono s.g⟩
  ow := fun i d h => by
    obtain ⟨a, o, e, g, h0, ho, ct⟩ := r.ow i d h
    refine ⟨a, o, e, ?_, h0, s.h _ _ ho, ct.mono s.g⟩
    cases q : G' a with
    | none => rfl
    | some u =>
      rcases s.gr a u q with z | z
      · rw [g] at z; cases z
      · rw [ho] at z; cases z
  nd := r.nd
/-- an owned object is frozen -/
theorem Rel.frz (r : Rel c G S σ H) {i : Nat} {d : D} (h : S[i]? = some (some ⟨true, d⟩)) : ∃ G', Ex G G' ∧ Rel c G' (S.set i (some ⟨false, d⟩)) σ H := by
  obtain ⟨a, o, e, g, h0, ho, ct⟩ := r.ow i d h
  have ow : OwnAt S σ i a := ⟨⟨d, h⟩, e⟩
  have ex : Ex G (upd G a o) := Ex.new g
  have hi : i < S.length := (List.getElem?_eq_some_iff.mp h).1
  refine ⟨upd G a o, ex, ⟨r.st.frz ho h0 g, by rw [List.length_set]; exact r.len, fun j d' q => ?_, fun j d' q => ?_, fun j l b q1 q2 => ?_⟩⟩
  · by_cases hj : i = j
    · subst hj
      rw [List.getElem?_set_self hi] at q; cases q
      exact ⟨_, e, (ct.mono ex).rd upd_same⟩
    · rw [List.getElem?_set_ne hj] at q
      obtain ⟨v, e', q'⟩ := r.fz j d' q
      exact ⟨v, e', q'.mono ex⟩
  · by_cases hj : i = j
    · subst hj
      rw [List.getElem?_set_self hi] at q; cases q
    · rw [List.getElem?_set_ne hj] at q
      obtain ⟨b, u, e', g', h0', ho', ct'⟩ := r.ow j d' q
      have hb : b ≠ a := fun z => hj (r.nd i j a ow ⟨⟨d', q⟩, by rw [← z]; exact e'⟩)
      exact ⟨b, u, e', by rw [upd_ne hb]; exact g', h0', ho', ct'.mono ex⟩
  · have back : ∀ {m : Nat}, OwnAt (S.set i (some ⟨false, d⟩)) σ m b → OwnAt S σ m b := fun {m} hm => by
      obtain ⟨⟨d', q⟩, z⟩ := hm
      by_cases hj : i = m
      · subst hj; rw [List.getElem?_set_self hi] at q; cases q
      · rw [List.getElem?_set_ne hj] at q; exact ⟨⟨d', q⟩, z⟩
    exact r.nd j l b (back q1) (back q2)
/-- a slot takes a stable value -/
theorem Rel.setS (r : Rel c G S σ H) {d : D} {v : V} (i : Nat) (h : RD c.k G d v) : Rel c G (S.set i (some ⟨false, d⟩)) (σ.set i (some v)) H where
  st := r.st
  len := by rw [List.length_set, List.length_set]; exact r.len
  fz := fun j d' q => by
    by_cases hj : i = j
    · subst hj
      have hi : i < S.length := by have := (List.getElem?_eq_some_iff.mp q).1; rwa [List.length_set] at this
      rw [List.getElem?_set_self hi] at q; cases q
      exact ⟨v, List.getElem?_set_self (by rw [← r.len]; exact hi), h⟩
    · rw [List.getElem?_set_ne hj] at q ⊢; exact r.fz j d' q
  ow := fun j d' q => by
    by_cases hj : i = j
    · subst hj
      have hi : i < S.length := by have := (List.getElem?_eq_some_iff.mp q).1; rwa [List.length_set] at this
      rw [List.getElem?_set_self hi] at q; cases q
    · rw [List.getElem?_set_ne hj] at q ⊢; exact r.ow j d' q
  nd := fun j l b q1 q2 => by
    have back : ∀ {m : Nat}, OwnAt (S.set i (some ⟨false, d⟩)) (σ.set i (some v)) m b → OwnAt S σ m b := fun {m} hm => by
      obtain ⟨⟨d', q⟩, z⟩ := hm
      by_cases hj : i = m
      · subst hj
        have hi : i < S.length := by have := (List.getElem?_eq_some_iff.mp q).1; rwa [List.length_set] at this
        rw [List.getElem?_set_self hi] at q; cases q
      · rw [List.getElem?_set_ne hj] at q z; exact ⟨⟨d', q⟩, z⟩
    exact r.nd j l b (back q1) (back q2)
/-- a slot takes a new object that nobody else has; the heap may have changed at it -/
theorem Rel.setO (r : Rel c G S σ H) {d : D} {a : Addr} {o : HO} (i : Nat) (ha : H' a = some o) (hg : G a = none) (h0 : c.H0 a = none) (ct : Cont c.k G d o) (hn : ∀ j, OwnAt S σ j a → j = i) (hh : ∀ b, b ≠ a → H' b = H b) :
    Rel c G (S.set i (some ⟨true, d⟩)) (σ.set i (some (.ref a))) H' where
  st := ⟨r.st.g, fun b u q => by rw [hh b (ne_of_none q h0)]; exact r.st.h b u q, fun b u q => by rw [hh b (ne_of_none q hg)]; exact r.st.gh b u q, r.st.gr⟩
  len := by rw [List.length_set, List.length_set]; exact r.len
  fz := fun j d' q => by
    by_cases hj : i = j
    · subst hj
      have hi : i < S.length := by have := (List.getElem?_eq_some_iff.mp q).1; rwa [List.length_set] at this
      rw [List.getElem?_set_self hi] at q; cases q
    · rw [List.getElem?_set_ne hj] at q ⊢; exact r.fz j d' q
  ow := fun j d' q => by
    by_cases hj : i = j
    · subst hj
      have hi : i < S.length := by have := (List.getElem?_eq_some_iff.mp q).1; rwa [List.length_set] at this
      rw [List.getElem?_set_self hi] at q; cases q
      exact ⟨a, o, List.getElem?_set_self (by rw [← r.len]; exact hi), hg, h0, ha, ct⟩
    · rw [List.getElem?_set_ne hj] at q ⊢
      obtain ⟨b, u, e', g', h0', ho', ct'⟩ := r.ow j d' q
      have hb : b ≠ a := fun z => hj (hn j ⟨⟨d', q⟩, by rw [← z]; exact e'⟩).symm
      exact ⟨b, u, e', g', h0', by rw [hh b hb]; exact ho', ct'⟩
  nd := fun j l b q1 q2 => by
    have back : ∀ {m : Nat}, OwnAt (S.set i (some ⟨true, d⟩)) (σ.set i (some (.ref a))) m b → (m = i ∧ b = a) ∨ (m ≠ i ∧ OwnAt S σ m b) := fun {m} hm => by
      obtain ⟨⟨d', q⟩, z⟩ := hm
      by_cases hj : i = m
      · subst hj
        have hi : i < S.length := by have := (List.getElem?_eq_some_iff.mp q).1; rwa [List.length_set] at this
        rw [List.getElem?_set_self (by rw [← r.len]; exact hi)] at z; cases z
        exact .inl ⟨rfl, rfl⟩
      · rw [List.getElem?_set_ne hj] at q z; exact .inr ⟨Ne.symm hj, ⟨d', q⟩, z⟩
    rcases back q1 with ⟨h1, e1⟩ | ⟨n1, o1⟩ <;> rcases back q2 with ⟨h2, e2⟩ | ⟨n2, o2⟩
    · rw [h1, h2]
    · exact absurd (hn l (by rw [← e1]; exact o2)) n2
    · exact absurd (hn j (by rw [← e2]; exact o1)) n1
    · exact r.nd j l b o1 o2
/-- a slot is forgotten -/
theorem Rel.unset (r : Rel c G S σ H) (i : Nat) : Rel c G (S.set i none) (σ.set i none) H where
  st := r.st
  len := by rw [List.length_set, List.length_set]; exact r.len
  fz := fun j d' q => by
    by_cases hj : i = j
    · subst hj
      have hi : i < S.length := by have := (List.getElem?_eq_some_iff.mp q).1; rwa [List.length_set] at this
      rw [List.getElem?_set_self hi] at q; cases q
    · rw [List.getElem?_set_ne hj] at q ⊢; exact r.fz j d' q
  ow := fun j d' q => by
    by_cases hj : i = j
    · subst hj
      have hi : i < S.length := by have := (List.getElem?_eq_some_iff.mp q).1; rwa [List.length_set] at this
      rw [List.getElem?_set_self hi] at q; cases q
    · rw [List.getElem?_set_ne hj] at q ⊢; exact r.ow j d' q
  nd := fun j l b q1 q2 => by
    have back : ∀ {m : Nat}, OwnAt (S.set i none) (σ.set i none) m b → OwnAt S σ m b := fun {m} hm => by
      obtain ⟨⟨d', q⟩, z⟩ := hm
      by_cases hj : i = m
      · subst hj
        have hi : i < S.length := by have := (List.getElem?_eq_some_iff.mp q).1; rwa [List.length_set] at this
        rw [List.getElem?_set_self hi] at q; cases q
      · rw [List.getElem?_set_ne hj] at q z; exact ⟨⟨d', q⟩, z⟩
    exact r.nd j l b (back q1) (back q2)
end
def wipeS (S : Env) : List Nat → Env
  | [] => S
  | v :: vs => (wipeS S vs).set v none
theorem Rel.wipe {c : Cf} {G H : Hp} {S : Env} {σ : St} (r : Rel c G S σ H) : ∀ vs : List Nat, Rel c G (wipeS S vs) (L2.wipe σ vs) H
  | [] => r
  | v :: vs => (Rel.wipe r vs).unset v
/-- a slot's own object is changed -/
theorem Rel.mut {c : Cf} {G H : Hp} {S : Env} {σ : St} (r : Rel c G S σ H) {i : Nat} {a : Addr} {d' : D} {o' : HO} (ow : OwnAt S σ i a) (ct : Cont c.k G d' o') : Rel c G (S.set i (some ⟨true, d'⟩)) σ (upd H a o') := by
  obtain ⟨g, h0, _⟩ := r.own ow
  have q := r.setO (H' := upd H a o') i upd_same g h0 ct (fun j oj => r.nd j i a oj ow) (fun b hb => upd_ne hb)
  have e : σ.set i (some (.ref a)) = σ := by
    apply List.ext_getElem?
    intro j
    by_cases hj : i = j
    · subst hj; rw [List.getElem?_set_self (List.getElem?_eq_some_iff.mp ow.2).1, ow.2]
    · rw [List.getElem?_set_ne hj]
  rw [e] at q; exact q
/-! ### readings -/
/-- a value as it stands now: stable, or an object of its own whose parts are stable -/
def Now (k : Kn) (G H : Hp) (d : D) (v : V) : Prop := RD k G d v ∨ ∃ a o, v = .ref a ∧ H a = some o ∧ Cont k G d o
inductive Nows (k : Kn) (G H : Hp) : List D → List V → Prop where
  | nil : Nows k G H [] []
  | cons {d : D} {ds : List D} {v : V} {vs : List V} : Now k G H d v → Nows k G H ds vs → Nows k G H (d :: ds) (v :: vs)
section
variable {k : Kn} {G G' H H' : Hp}
theorem Now.grow {d : D} {v : V} (n : Now k G H d v) (s : Step G H G' H') : Now k G' H' d v := by
  rcases n with n | ⟨a, o, e, h, ct⟩
  · exact .inl (n.mono s.g)
  · exact .inr ⟨a, o, e, s.h _ _ h, ct.mono s.g⟩
theorem Nows.grow (s : Step G H G' H') : ∀ {ds : List D} {vs : List V}, Nows k G H ds vs → Nows k G' H' ds vs
  | _, _, .nil => .nil
  | _, _, .cons a b => .cons (a.grow s) (Nows.grow s b)
theorem Nows.of : ∀ {ds : List D} {vs : List V}, RDs k G ds vs → Nows k G H ds vs
  | _, _, .nil => .nil
  | _, _, .cons a b => .cons (.inl a) (Nows.of b)
theorem Now.rd {d : D} {v : V} (e : Ex G H) (n : Now k G H d v) : RD k H d v := by
  rcases n with n | ⟨a, o, rfl, h, ct⟩
  · exact n.mono e
  · exact (ct.mono e).rd h
theorem Nows.rd (e : Ex G H) : ∀ {ds : List D} {vs : List V}, Nows k G H ds vs → RDs k H ds vs
  | _, _, .nil => .nil
  | _, _, .cons a b => .cons (a.rd e) (Nows.rd e b)
theorem Now.lst {ds : List D} {v : V} (e : Ex G H) (n : Now k G H (.lst ds) v) : ∃ a vs, v = .ref a ∧ H a = some (.lst vs) ∧ RDs k G ds vs := by
  rcases n with n | ⟨a, o, rfl, h, ct⟩
  · cases n with | lst h r => exact ⟨_, _, rfl, e _ _ h, r⟩
  · cases ct with | lst r => exact ⟨_, _, rfl, h, r⟩
theorem Now.tup {ds : List D} {v : V} (n : Now k G H (.tup ds) v) : ∃ a vs, v = .ref a ∧ SqU k.K G a vs ∧ RDs k G ds vs := by
  rcases n with n | ⟨a, o, rfl, h, ct⟩
  · cases n with | tup h r => exact ⟨_, _, rfl, h, r⟩
  · cases ct
theorem Now.scr {ns : List Int} {v : V} (n : Now k G H (.scr ns) v) : ∃ a, v = .ref a ∧ SqL k.K G a (ns.map V.int) := by
  rcases n with n | ⟨a, o, rfl, h, ct⟩
  · cases n with | scr h => exact ⟨_, rfl, h⟩
  · cases ct
theorem Now.dic {ks : List Key} {ds : List D} {v : V} (e : Ex G H) (n : Now k G H (.dic ks ds) v) : ∃ a vs, v = .ref a ∧ H a = some (.dK (ks.zip vs)) ∧ ks.length = ds.length ∧ RDs k G ds vs := by
  rcases n with n | ⟨a, o, rfl, h, ct⟩
  · cases n with | dic h l r => exact ⟨_, _, rfl, e _ _ h, l, r⟩
  · cases ct with | dic l r => exact ⟨_, _, rfl, h, l, r⟩
theorem Now.dit {ks : List (List Key)} {ds : List D} {v : V} (e : Ex G H) (n : Now k G H (.dit ks ds) v) : ∃ a vs, v = .ref a ∧ H a = some (.dT (ks.zip vs)) ∧ ks.length = ds.length ∧ RDs k G ds vs := by
  rcases n with n | ⟨a, o, rfl, h, ct⟩
  · cases n with | dit h l r => exact ⟨_, _, rfl, e _ _ h, l, r⟩
  · cases ct with | dit l r => exact ⟨_, _, rfl, h, l, r⟩
theorem Now.obj {c : Nat} {ds : List D} {v : V} (e : Ex G H) (n : Now k G H (.obj c ds) v) : ∃ a C dx nm vs, v = .ref a ∧ k.cl c = some (C, nm) ∧ H a = some (.ins C dx (nm.zip vs)) ∧ RDs k G ds vs := by
  rcases n with n | ⟨a, o, rfl, h, ct⟩
  · cases n with | obj q h r => exact ⟨_, _, _, _, _, rfl, q, e _ _ h, r⟩
  · cases ct with | obj q r => exact ⟨_, _, _, _, _, rfl, q, h, r⟩
theorem Now.int {i : Int} {v : V} (n : Now k G H (.int i) v) : v = .int i := by
  rcases n with n | ⟨a, o, rfl, h, ct⟩
  · cases n; rfl
  · cases ct
theorem Now.bl {i : Bool} {v : V} (n : Now k G H (.bl i) v) : v = .bl i := by
  rcases n with n | ⟨a, o, rfl, h, ct⟩
  · cases n; rfl
  · cases ct
theorem Now.str {i : Str} {v : V} (n : Now k G H (.str i) v) : v = .str i := by
  rcases n with n | ⟨a, o, rfl, h, ct⟩
  · cases n; rfl
  · cases ct
theorem Now.non {v : V} (n : Now k G H .non v) : v = .non := by
  rcases n with n | ⟨a, o, rfl, h, ct⟩
  · cases n; rfl
  · cases ct
theorem Now.ty {x : String} {v : V} (n : Now k G H (.ty x) v) : v = .ty x := by
  rcases n with n | ⟨a, o, rfl, h, ct⟩
  · cases n; rfl
  · cases ct
end
/-- what an expression gives: stable, as it stands, or new behind the heap H -/
def Res (k : Kn) (H : Hp) (G' H' : Hp) (d : D) (v : V) : Kd → Prop
  | .st => RD k G' d v
  | .bo => Now k G' H' d v
  | .fr => ∃ a o, v = .ref a ∧ G' a = none ∧ H a = none ∧ H' a = some o ∧ Cont k G' d o
section
variable {k : Kn} {H0 H G' H' G2 H2 : Hp} {d : D} {v : V} {kd : Kd}
theorem Res.mono (h : Res k H G' H' d v kd) (e : Ex H0 H) : Res k H0 G' H' d v kd := by
  cases kd with
  | st => exact h
  | bo => exact h
  | fr => obtain ⟨a, o, e', hg, h0, r⟩ := h; exact ⟨a, o, e', hg, e.free h0, r⟩
theorem Res.now (h : Res k H G' H' d v kd) : Now k G' H' d v := by
  cases kd with
  | st => exact .inl h
  | bo => exact h
  | fr => obtain ⟨a, o, e, _, _, h, ct⟩ := h; exact .inr ⟨a, o, e, h, ct⟩
end
def Args (k : Kn) (G H : Hp) (ds : List D) (vs : List V) : Bool → Prop
  | true => Nows k G H ds vs
  | false => RDs k G ds vs
theorem Args.nows {k : Kn} {G H : Hp} {ds : List D} {vs : List V} {b : Bool} (h : Args k G H ds vs b) : Nows k G H ds vs := by
  cases b with
  | true => exact h
  | false => exact Nows.of h
/-- how an exception lies -/
def XR (c : Cf) (G : Hp) (x : Exc) (cls : Value) (da : Option Addr) (H : Hp) : Prop :=
  ∃ C nm, c.k.cl x.c = some (C, nm) ∧ cls = .ref C ∧ ((nm = [] ∧ x.fs = [] ∧ da = none) ∨ ∃ d vs, da = some d ∧ H d = some (.xd (nm.zip vs)) ∧ RDs c.k G x.fs vs ∧ nm.length = vs.length)
def PX (c : Cf) (σ : St) (x : Exc) : Prop := ∀ cls da G' H', Step c.G0 c.H0 G' H' → XR c G' x cls da H' → c.W cls da σ H'
/-- wherever the slots stand -/
def PXs (c : Cf) (x : Exc) : Prop := ∀ σ, PX c σ x
abbrev liftX (E : XK) : WX := fun cls da _ H => E cls da H
def PostE (c : Cf) (k : Kd) (G : Hp) (S : Env) (σ : St) (H : Hp) (Q : VK) : R D → Prop
  | .ok d => ∀ v G' H', Step G H G' H' → Res c.k H G' H' d v k → Q v H'
  | .exc x => PX c σ x
  | .fail => False
def RdE (c : Cf) (k : Kd) (f : FE) : TE := fun σ H Q => ∃ G S, Rel c G S σ H ∧ PostE c k G S σ H Q (f S)
def PostT (c : Cf) (G : Hp) (S : Env) (σ : St) (H : Hp) (Q : Bool → Hp → Prop) : R Bool → Prop
  | .ok b => ∀ G' H', Step G H G' H' → Q b H'
  | .exc x => PX c σ x
  | .fail => False
def RdT (c : Cf) (f : FT) : TT := fun σ H Q => ∃ G S, Rel c G S σ H ∧ PostT c G S σ H Q (f S)
/-- arguments: stable ones, or such as stand now -/
def PostA (c : Cf) (b : Bool) (G : Hp) (S : Env) (σ : St) (H : Hp) (Q : List V → Hp → Prop) : R (List D) → Prop
  | .ok ds => ∀ vs G' H', Step G H G' H' → Args c.k G' H' ds vs b → Q vs H'
  | .exc x => PX c σ x
  | .fail => False
def RdA (c : Cf) (b : Bool) (f : FA) : TA := fun σ H Q => ∃ G S, Rel c G S σ H ∧ PostA c b G S σ H Q (f S)
/-- what a statement leaves alone; i: slot i is stored, i + 1000: its own object is changed -/
structure Frm (as : List Nat) (S : Env) (σ : St) (H : Hp) (S' : Env) (σ' : St) (H' : Hp) : Prop where
  len : σ'.length = σ.length
  sg : ∀ (i : Nat), i ∉ as → σ'[i]? = σ[i]?
  sl : ∀ (i : Nat), i ∉ as → i + 1000 ∉ as → S'[i]? = S[i]?
  ow : ∀ (i : Nat) (a : Addr), i ∉ as → i + 1000 ∉ as → OwnAt S σ i a → H' a = H a
theorem Frm.refl (as : List Nat) (S : Env) (σ : St) (H : Hp) : Frm as S σ H S σ H := ⟨rfl, fun _ _ => rfl, fun _ _ _ => rfl, fun _ _ _ _ _ => rfl⟩
theorem Frm.trans {as bs : List Nat} {S S1 S2 : Env} {σ σ1 σ2 : St} {H H1 H2 : Hp} (a : Frm as S σ H S1 σ1 H1) (b : Frm bs S1 σ1 H1 S2 σ2 H2) : Frm (as ++ bs) S σ H S2 σ2 H2 where
  len := b.len.trans a.len
  sg := fun i h => by
    simp only [List.mem_append, not_or] at h
    exact (b.sg i h.2).trans (a.sg i h.1)
  sl := fun i h h' => by
    simp only [List.mem_append, not_or] at h h'
    exact (b.sl i h.2 h'.2).trans (a.sl i h.1 h'.1)
  ow := fun i x h h' o => by
    simp only [List.mem_append, not_or] at h h'
    have o' : OwnAt S1 σ1 i x := ⟨by obtain ⟨d, e⟩ := o.1; exact ⟨d, (a.sl i h.1 h'.1).trans e⟩, (a.sg i h.1).trans o.2⟩
    exact (b.ow i x h.2 h'.2 o').trans (a.ow i x h.1 h'.1 o)
theorem Frm.mono {as bs : List Nat} {S S1 : Env} {σ σ1 : St} {H H1 : Hp} (a : Frm as S σ H S1 σ1 H1) (h : ∀ i, i ∈ as → i ∈ bs) : Frm bs S σ H S1 σ1 H1 :=
  ⟨a.len, fun i q => a.sg i fun z => q (h i z), fun i q q' => a.sl i (fun z => q (h i z)) fun z => q' (h _ z), fun i x q q' => a.ow i x (fun z => q (h i z)) fun z => q' (h _ z)⟩
theorem Frm.step {c : Cf} {as : List Nat} {S : Env} {σ : St} {G H G' H' : Hp} (r : Rel c G S σ H) (s : Step G H G' H') : Frm as S σ H S σ H' :=
  ⟨rfl, fun _ _ => rfl, fun _ _ _ => rfl, fun i a _ _ o => by
    obtain ⟨_, _, u, _, h, _⟩ := r.own o
    rw [h, s.h a u h]⟩
theorem Frm.mut {c : Cf} {G H : Hp} {S : Env} {σ : St} (r : Rel c G S σ H) {i : Nat} {a : Addr} {x : Option Sl} {o' : HO} (ow : OwnAt S σ i a) : Frm [i + 1000] S σ H (S.set i x) σ (upd H a o') :=
  ⟨rfl, fun _ _ => rfl, fun j _ h => List.getElem?_set_ne (fun z => h (by simp [z])), fun j b _ h oj => upd_ne (fun z => h (by
    have : i = j := r.nd i j b (by rw [z]; exact ow) oj
    simp [this]))⟩
def RV (c : Cf) (fr : Bool) (G H : Hp) (d : D) (v : V) : Prop :=
  match fr with
  | true => ∃ a o, v = .ref a ∧ G a = none ∧ c.H0 a = none ∧ H a = some o ∧ Cont c.k G d o
  | false => RD c.k G d v
def PostS (c : Cf) (fr : Bool) (as : List Nat) (G : Hp) (S : Env) (σ : St) (H : Hp) (Dn : Ends) : R (Fl × Env) → Prop
  | .ok (.nx, S') => ∀ G' σ' H', Ex G G' → Rel c G' S' σ' H' → Frm as S σ H S' σ' H' → Dn.nx σ' H'
  | .ok (.bk, S') => ∀ G' σ' H', Ex G G' → Rel c G' S' σ' H' → Frm as S σ H S' σ' H' → Dn.bk σ' H'
  | .ok (.ct, S') => ∀ G' σ' H', Ex G G' → Rel c G' S' σ' H' → Frm as S σ H S' σ' H' → Dn.ct σ' H'
  | .ok (.rt d, _) => ∀ v G' H', Step c.G0 c.H0 G' H' → RV c fr G' H' d v → Dn.rt v H'
  | .exc x => PXs c x
  | .fail => False
def RdS (c : Cf) (fr : Bool) (as : List Nat) (f : FS) : TS := fun Dn σ H => ∃ G S, Rel c G S σ H ∧ PostS c fr as G S σ H Dn (f S)
/-- a target -/
def PostG (c : Cf) (as : List Nat) (G : Hp) (S : Env) (σ : St) (H : Hp) (Q : St → Hp → Prop) : R Env → Prop
  | .ok S' => ∀ G' σ' H', Step G H G' H' → Rel c G' S' σ' H' → Frm as S σ H S' σ' H' → Q σ' H'
  | _ => False
def RdG (c : Cf) (as : List Nat) (g : FG) : TG := fun v σ H Q => ∃ G S d, Rel c G S σ H ∧ RD c.k G d v ∧ PostG c as G S σ H Q (g d S)
end M
set_option Elab.async false
set_option linter.all false
set_option maxRecDepth 100000
set_option maxHeartbeats 4000000
namespace M
open PySem L2
/-! ### weakening -/
section
variable {X : Cx}
theorem peI {e : Expr} {t t' : TE} (h : PE X e t) (i : ∀ σ H Q, t' σ H Q → t σ H Q) : PE X e t' := ⟨fun pins s σ H Q I q => h.run pins s σ H Q I (i σ H Q q)⟩
theorem ptI {e : Expr} {t t' : TT} (h : PT X e t) (i : ∀ σ H Q, t' σ H Q → t σ H Q) : PT X e t' := ⟨fun pins s σ H Q I q => h.run pins s σ H Q I (i σ H Q q)⟩
theorem pwI {e : Expr} {t t' : TT} (h : PW X e t) (i : ∀ σ H Q, t' σ H Q → t σ H Q) : PW X e t' := ⟨fun wh pins s σ H Q I q => h.run wh pins s σ H Q I (i σ H Q q)⟩
theorem paI {e : List Expr} {t t' : TA} (h : PA X e t) (i : ∀ σ H Q, t' σ H Q → t σ H Q) : PA X e t' := ⟨fun pos pins s σ H Q I q => h.run pos pins s σ H Q I (i σ H Q q)⟩
theorem psI {e : Stmt} {t t' : TS} (h : PS X e t) (i : ∀ D σ H, t' D σ H → t D σ H) : PS X e t' := ⟨fun pins s σ H D I q => h.run pins s σ H D I (i D σ H q)⟩
theorem pssI {e : List Stmt} {t t' : TS} (h : PSs X e t) (i : ∀ D σ H, t' D σ H → t D σ H) : PSs X e t' := ⟨fun pins s σ H D I q => h.run pins s σ H D I (i D σ H q)⟩
theorem pgI {e : Expr} {t t' : TG} (h : PG X e t) (i : ∀ v σ H Q, t' v σ H Q → t v σ H Q) : PG X e t' := ⟨fun pins s σ H v u Q I r q => h.run pins s σ H v u Q I r (i v σ H Q q)⟩
theorem pgsI {e : List Expr} {t t' : TGs} (h : PGs X e t) (i : ∀ v σ H Q, t' v σ H Q → t v σ H Q) : PGs X e t' := ⟨fun pins s σ H v u Q I r q => h.run pins s σ H v u Q I r (i v σ H Q q)⟩
theorem piI {tg e : Expr} {t t' : TI} (h : PI X tg e t) (i : ∀ σ H Q, t' σ H Q → t σ H Q) : PI X tg e t' := ⟨fun pins s σ H R I q => h.run pins s σ H R I (i σ H R q)⟩
theorem poI {e : Option Expr} {t t' : TO} (h : PO X e t) (i : ∀ σ H Q, t' σ H Q → t σ H Q) : PO X e t' := ⟨fun pins s σ H Q I q => h.run pins s σ H Q I (i σ H Q q)⟩
theorem ptsI {e : List Expr} {t t' : TT} (h : PTs X e t) (i : ∀ σ H Q, t' σ H Q → t σ H Q) : PTs X e t' := ⟨fun pins s σ H Q I q => h.run pins s σ H Q I (i σ H Q q)⟩
end
/-! ### expressions -/
section
variable {X : Cx} {c : Cf}
/-- the first part of an expression -/
theorem rdE_go {kd : Kd} {f : FE} {G H : Hp} {S : Env} {σ : St} {Q : VK} {β : Type} {g : D → R β} {Post : R β → Prop} (r : Rel c G S σ H) (p : Post (f S >>= g))
    (hx : ∀ x, Post (.exc x) → PX c σ x) (hf : Post .fail → False) (k : ∀ d v G' H', Step G H G' H' → Res c.k H G' H' d v kd → Post (g d) → Q v H') : RdE c kd f σ H Q := by
  refine ⟨G, S, r, ?_⟩
  cases e : f S with
  | ok d => rw [e] at p; exact fun v G' H' s h => k d v G' H' s h p
  | exc x => rw [e] at p; exact hx x p
  | fail => rw [e] at p; exact hf p
theorem rdT_go {f : FT} {G H : Hp} {S : Env} {σ : St} {Q : Bool → Hp → Prop} {β : Type} {g : Bool → R β} {Post : R β → Prop} (r : Rel c G S σ H) (p : Post (f S >>= g))
    (hx : ∀ x, Post (.exc x) → PX c σ x) (hf : Post .fail → False) (k : ∀ d G' H', Step G H G' H' → Post (g d) → Q d H') : RdT c f σ H Q := by
  refine ⟨G, S, r, ?_⟩
  cases e : f S with
  | ok d => rw [e] at p; exact fun G' H' s => k d G' H' s p
  | exc x => rw [e] at p; exact hx x p
  | fail => rw [e] at p; exact hf p
theorem rdA_go {b : Bool} {f : FA} {G H : Hp} {S : Env} {σ : St} {Q : List V → Hp → Prop} {β : Type} {g : List D → R β} {Post : R β → Prop} (r : Rel c G S σ H) (p : Post (f S >>= g))
    (hx : ∀ x, Post (.exc x) → PX c σ x) (hf : Post .fail → False) (k : ∀ ds vs G' H', Step G H G' H' → Args c.k G' H' ds vs b → Post (g ds) → Q vs H') : RdA c b f σ H Q := by
  refine ⟨G, S, r, ?_⟩
  cases e : f S with
  | ok d => rw [e] at p; exact fun v G' H' s h => k d v G' H' s h p
  | exc x => rw [e] at p; exact hx x p
  | fail => rw [e] at p; exact hf p
abbrev PE' (X : Cx) (c : Cf) (kd : Kd) (e : Expr) (f : FE) : Prop := PE X e (RdE c kd f)
abbrev PT' (X : Cx) (c : Cf) (e : Expr) (f : FT) : Prop := PT X e (RdT c f)
abbrev PA' (X : Cx) (c : Cf) (b : Bool) (es : List Expr) (f : FA) : Prop := PA X es (RdA c b f)
/-- a constant -/
theorem cst_of {e : Expr} {d : D} {v : V} (h : PE X e (tC v)) (r : ∀ G, RD c.k G d v) : PE' X c .st e (fun _ => .ok d) :=
  peI h fun σ H Q ⟨G, S, rel, p⟩ => p v G H (Step.refl rel.st.gh) (r G)
def eI (i : Int) : FE := fun _ => .ok (.int i)
def eS (x : Str) : FE := fun _ => .ok (.str x)
def eB (b : Bool) : FE := fun _ => .ok (.bl b)
def eN : FE := fun _ => .ok .non
theorem d_int {i j pos} : PE' X c .st (.Constant (.int i) j pos) (eI i) := cst_of pe_int fun _ => .int i
theorem d_str {i j pos} : PE' X c .st (.Constant (.str i) j pos) (eS i) := cst_of pe_str fun _ => .str i
theorem d_bl {i j pos} : PE' X c .st (.Constant (.bool i) j pos) (eB i) := cst_of pe_bl fun _ => .bl i
theorem d_non {j pos} : PE' X c .st (.Constant .none j pos) eN := cst_of pe_non fun _ => .non
/-- a name: its stable value; its value as it stands -/
def eV (i : Nat) : FE := fun S => match S[i]? with
  | some (some ⟨false, d⟩) => .ok d
  | _ => .fail
def eW (i : Nat) : FE := fun S => match S[i]? with
  | some (some ⟨_, d⟩) => .ok d
  | _ => .fail
theorem d_v (i : Nat) {x : Str} {pos : Pos} (hN : X.N[i]? = some x := by rfl) (hv : Vis X.env.scope x := by first | exact Or.inl rfl | exact Or.inr (Or.inl rfl) | exact Or.inr (Or.inr rfl)) (hd : (x == ("__debug__" : Str)) = false := by decide)
    (hcd : (x == ("__classdict__" : Str)) = false := by decide) : PE' X c .st (.Name x pos) (eV i) :=
  peI (pe_var hN hv hd hcd) fun σ H Q ⟨G, S, r, p⟩ => by
    unfold eV at p
    split at p
    · rename_i d e
      obtain ⟨v, e1, q⟩ := r.fz i d e
      exact ⟨v, e1, p v G H (Step.refl r.st.gh) q⟩
    · exact p.elim
theorem d_w (i : Nat) {x : Str} {pos : Pos} (hN : X.N[i]? = some x := by rfl) (hv : Vis X.env.scope x := by first | exact Or.inl rfl | exact Or.inr (Or.inl rfl) | exact Or.inr (Or.inr rfl)) (hd : (x == ("__debug__" : Str)) = false := by decide)
    (hcd : (x == ("__classdict__" : Str)) = false := by decide) : PE' X c .bo (.Name x pos) (eW i) :=
  peI (pe_var hN hv hd hcd) fun σ H Q ⟨G, S, r, p⟩ => by
    unfold eW at p
    split at p
    · rename_i b d e
      cases b with
      | false =>
        obtain ⟨v, e1, q⟩ := r.fz i d e
        exact ⟨v, e1, p v G H (Step.refl r.st.gh) (.inl q)⟩
      | true =>
        obtain ⟨a, o, e1, hg, h0, ho, ct⟩ := r.ow i d e
        exact ⟨_, e1, p _ G H (Step.refl r.st.gh) (.inr ⟨a, o, rfl, ho, ct⟩)⟩
    · exact p.elim
/-- a new value, taken as a stable one -/
theorem d_z {e : Expr} {f : FE} (h : PE' X c .fr e f) : PE' X c .st e f :=
  peI h fun σ H Q ⟨G, S, r, p⟩ => ⟨G, S, r, by
    cases e1 : f S with
    | ok d =>
      rw [e1] at p
      rintro v G' H' s ⟨a, o, rfl, hg, hn, ha, ct⟩
      exact p _ (upd G' a o) H' (s.frz ha hn hg) ((ct.mono (Ex.new hg)).rd upd_same)
    | exc x => rw [e1] at p; exact p
    | fail => rw [e1] at p; exact p⟩
/-- .. as it stands -/
theorem d_n {kd : Kd} {e : Expr} {f : FE} (h : PE' X c kd e f) : PE' X c .bo e f :=
  peI h fun σ H Q ⟨G, S, r, p⟩ => ⟨G, S, r, by
    cases e1 : f S with
    | ok d => rw [e1] at p; exact fun v G' H' s q => p v G' H' s q.now
    | exc x => rw [e1] at p; exact p
    | fail => rw [e1] at p; exact p⟩
/-! ### operations by values -/
/-- an operation on two values -/
def Op2 (X : Cx) (k : Kn) (f : Value → Value → Sem Value) (kd : Kd) (g : D → D → R D) : Prop :=
  ∃ r : R2, OpR X f r ∧ ∀ G H x y u v d, Ex G H → Now k G H x u → Now k G H y v → g x y = .ok d → ∀ Q : VK, (∀ w G' H', Step G H G' H' → Res k H G' H' d w kd → Q w H') → r u v H Q
/-- without exceptions -/
def NoX {α : Type} (r : R α) : Prop := ∀ x, r ≠ .exc x
variable {kd k1 k2 k3 : Kd} {a b : Expr} {f g h : FE} {pos : Pos}
def e2 (o : D → D → R D) (f g : FE) : FE := fun S => do
  let x ← f S
  let y ← g S
  (o x y).nox
/-- the meeting of two parts and an operation -/
theorem e2_go {o : D → D → R D} {σ : St} {H : Hp} {Q : VK} {r : R2} (hr : ∀ G H x y u v d, Ex G H → Now c.k G H x u → Now c.k G H y v → o x y = .ok d → ∀ Q : VK, (∀ w G' H', Step G H G' H' → Res c.k H G' H' d w kd → Q w H') → r u v H Q)
    (q : RdE c kd (e2 o f g) σ H Q) : RdE c k1 f σ H fun x H1 => RdE c k2 g σ H1 fun y H2 => r x y H2 Q := by
  obtain ⟨G, S, rel, p⟩ := q
  refine rdE_go (g := fun x => do let y ← g S; (o x y).nox) (Post := PostE c kd G S σ H Q) rel p (fun _ z => z) (fun z => z) fun d1 v1 G1 H1 s1 q1 p1 => ?_
  refine rdE_go (g := fun y => (o d1 y).nox) (Post := PostE c kd G S σ H Q) (rel.grow s1) p1 (fun _ z => z) (fun z => z) fun d2 v2 G2 H2 s2 q2 p2 => ?_
  cases e : o d1 d2 with
  | ok d =>
    rw [e] at p2
    exact hr G2 H2 d1 d2 v1 v2 d s2.gh (q1.now.grow s2) q2.now e Q fun w G3 H3 s3 q3 => p2 w G3 H3 ((s1.trans s2).trans s3) (q3.mono (s1.h.trans s2.h))
  | exc x => rw [e] at p2; exact p2.elim
  | fail => rw [e] at p2; exact p2.elim
theorem d_op {op : Operator} {o : D → D → R D} (ho : Op2 X c.k (binaryOp op) kd o) (ha : PE' X c k1 a f) (hb : PE' X c k2 b g) : PE' X c kd (.BinOp a op b pos) (e2 o f g) := by
  obtain ⟨r, h1, h2⟩ := ho
  exact peI (pe_op h1 ha hb) fun σ H Q q => e2_go h2 q
theorem d_cmp {op : CmpOp} {o : D → D → R D} (ho : Op2 X c.k (compareOp op) kd o) (ha : PE' X c k1 a f) (hb : PE' X c k2 b g) (hm : behindInMarks op b = false := by rfl) : PE' X c kd (.Compare a [op] [b] pos) (e2 o f g) := by
  obtain ⟨r, h1, h2⟩ := ho
  exact peI (pe_cmpR h1 ha hb hm) fun σ H Q q => e2_go h2 q
def Ix2 (X : Cx) (k : Kn) (g : D → D → R D) : Prop :=
  ∃ r : R2, IxR X r ∧ ∀ G H x y u v d, Ex G H → Now k G H x u → Now k G H y v → g x y = .ok d → ∀ Q : VK, (∀ w G' H', Step G H G' H' → Res k H G' H' d w .st → Q w H') → r u v H Q
theorem d_ix {o : D → D → R D} (ho : Ix2 X c.k o) (ha : PE' X c k1 a f) (hb : PE' X c k2 b g) (hi : PlainIx b := by exact fun _ _ => rfl) : PE' X c .st (.Subscript a b pos) (e2 o f g) := by
  obtain ⟨r, h1, h2⟩ := ho
  exact peI (pe_ix h1 ha hb hi) fun σ H Q q => e2_go h2 q
/-- an operation on one value -/
def e1 (o : D → R D) (f : FE) : FE := fun S => do
  let x ← f S
  (o x).nox
theorem e1_go {o : D → R D} {σ : St} {H : Hp} {Q : VK} {r : V → Hp → VK → Prop} (hr : ∀ G H x u d, Ex G H → Now c.k G H x u → o x = .ok d → ∀ Q : VK, (∀ w G' H', Step G H G' H' → Res c.k H G' H' d w kd → Q w H') → r u H Q)
    (q : RdE c kd (e1 o f) σ H Q) : RdE c k1 f σ H fun x H1 => r x H1 Q := by
  obtain ⟨G, S, rel, p⟩ := q
  refine rdE_go (g := fun x => (o x).nox) (Post := PostE c kd G S σ H Q) rel p (fun _ z => z) (fun z => z) fun d1 v1 G1 H1 s1 q1 p1 => ?_
  cases e : o d1 with
  | ok d =>
    rw [e] at p1
    exact hr G1 H1 d1 v1 d s1.gh q1.now e Q fun w G3 H3 s3 q3 => p1 w G3 H3 (s1.trans s3) (q3.mono s1.h)
  | exc x => rw [e] at p1; exact p1.elim
  | fail => rw [e] at p1; exact p1.elim
def Un1 (X : Cx) (k : Kn) (f : Value → Sem Value) (g : D → R D) : Prop :=
  ∃ r : V → Hp → VK → Prop, UnR X f r ∧ ∀ G H x u d, Ex G H → Now k G H x u → g x = .ok d → ∀ Q : VK, (∀ w G' H', Step G H G' H' → Res k H G' H' d w .st → Q w H') → r u H Q
theorem d_un {op : UnaryOp} {o : D → R D} (ho : Un1 X c.k (unaryOp op) o) (ha : PE' X c k1 a f) : PE' X c .st (.UnaryOp op a pos) (e1 o f) := by
  obtain ⟨r, h1, h2⟩ := ho
  exact peI (pe_un h1 ha) fun σ H Q q => e1_go h2 q
/-! ### arguments -/
def aN : FA := fun _ => .ok []
def aC (f : FE) (g : FA) : FA := fun S => do
  let x ← f S
  let xs ← g S
  .ok (x :: xs)
theorem d_an {b : Bool} : PA' X c b [] aN := paI pa_nil fun σ H Q ⟨G, S, r, p⟩ => p [] G H (Step.refl r.st.gh) (by cases b <;> exact .nil)
theorem d_ac {e : Expr} {es : List Expr} {ga : FA} (ha : PE' X c .st e f) (hr : PA' X c false es ga) (hs : starEach (e :: es) X.env = (false, eval e X.env) :: starEach es X.env := by rfl) : PA' X c false (e :: es) (aC f ga) :=
  paI (pa_cons ha hr hs) fun σ H Q ⟨G, S, rel, p⟩ => by
    refine rdE_go (g := fun x => do let xs ← ga S; .ok (x :: xs)) (Post := PostA c false G S σ H Q) rel p (fun _ z => z) (fun z => z) fun d1 v1 G1 H1 s1 q1 p1 => ?_
    refine rdA_go (g := fun xs => .ok (d1 :: xs)) (Post := PostA c false G S σ H Q) (rel.grow s1) p1 (fun _ z => z) (fun z => z) fun d2 v2 G2 H2 s2 q2 p2 => ?_
    exact p2 _ G2 H2 (s1.trans s2) (.cons (RD.mono s2.g q1) q2)
theorem d_ab {e : Expr} {es : List Expr} {ga : FA} (ha : PE' X c k1 e f) (hr : PA' X c true es ga) (hs : starEach (e :: es) X.env = (false, eval e X.env) :: starEach es X.env := by rfl) : PA' X c true (e :: es) (aC f ga) :=
  paI (pa_cons ha hr hs) fun σ H Q ⟨G, S, rel, p⟩ => by
    refine rdE_go (g := fun x => do let xs ← ga S; .ok (x :: xs)) (Post := PostA c true G S σ H Q) rel p (fun _ z => z) (fun z => z) fun d1 v1 G1 H1 s1 q1 p1 => ?_
    refine rdA_go (g := fun xs => .ok (d1 :: xs)) (Post := PostA c true G S σ H Q) (rel.grow s1) p1 (fun _ z => z) (fun z => z) fun d2 v2 G2 H2 s2 q2 p2 => ?_
    exact p2 _ G2 H2 (s1.trans s2) (.cons (q1.now.grow s2) q2)
/-- a tuple, a list displayed -/
def mkT (xs : List D) : R D := if xs.length ≤ sizeLine then .ok (.tup xs) else .fail
def mkL (xs : List D) : R D := if xs.length ≤ sizeLine then .ok (.lst xs) else .fail
def eT (g : FA) : FE := fun S => g S >>= mkT
def eL (g : FA) : FE := fun S => g S >>= mkL
theorem d_tup {es : List Expr} {ga : FA} {x1} (h : PA' X c false es ga) : PE' X c .st (.Tuple es x1 pos) (eT ga) :=
  peI (pe_tup h) fun σ H Q ⟨G, S, rel, p⟩ => by
    refine rdA_go (g := mkT) (Post := PostE c .st G S σ H Q) rel p (fun _ z => z) (fun z => z) fun ds vs G1 H1 s1 q1 p1 => ?_
    have q1 : RDs c.k G1 ds vs := q1
    by_cases hl : ds.length ≤ sizeLine
    · unfold mkT at p1; rw [if_pos hl] at p1
      exact ⟨by rw [← q1.length]; exact hl, fun p hp => p1 _ _ _ (s1.trans (Step.new s1.gh hp)) (.tup (SqU.of upd_same) (q1.mono (Ex.new (s1.gh.free hp))))⟩
    · unfold mkT at p1; rw [if_neg hl] at p1; exact p1.elim
theorem d_lst {es : List Expr} {ga : FA} (h : PA' X c false es ga) : PE' X c .fr (.List es pos) (eL ga) :=
  peI (pe_lst h) fun σ H Q ⟨G, S, rel, p⟩ => by
    refine rdA_go (g := mkL) (Post := PostE c .fr G S σ H Q) rel p (fun _ z => z) (fun z => z) fun ds vs G1 H1 s1 q1 p1 => ?_
    have q1 : RDs c.k G1 ds vs := q1
    by_cases hl : ds.length ≤ sizeLine
    · unfold mkL at p1; rw [if_pos hl] at p1
      exact ⟨by rw [← q1.length]; exact hl, fun p hp => p1 _ _ _ (s1.trans (Step.new' s1.gh hp)) ⟨p, _, rfl, s1.gh.free hp, s1.h.free hp, upd_same, .lst q1⟩⟩
    · unfold mkL at p1; rw [if_neg hl] at p1; exact p1.elim
/-- a built-in's call by values -/
def ClR (X : Cx) (k : Kn) (f : Value) (kd : Kd) (g : List D → R D) : Prop :=
  ∃ r : List V → Hp → VK → Prop, CallR X f r ∧ ∀ G H ds vs d, Ex G H → Nows k G H ds vs → g ds = .ok d → ∀ Q : VK, (∀ w G' H', Step G H G' H' → Res k H G' H' d w kd → Q w H') → r vs H Q
def eC (o : List D → R D) (g : FA) : FE := fun S => do
  let xs ← g S
  (o xs).nox
theorem eC_go {ba : Bool} {ga : FA} {o : List D → R D} {σ : St} {H : Hp} {Q : VK} {r : List V → Hp → VK → Prop} (hr : ∀ G H ds vs d, Ex G H → Nows c.k G H ds vs → o ds = .ok d → ∀ Q : VK, (∀ w G' H', Step G H G' H' → Res c.k H G' H' d w kd → Q w H') → r vs H Q)
    (q : RdE c kd (eC o ga) σ H Q) : RdA c ba ga σ H fun x H1 => r x H1 Q := by
  obtain ⟨G, S, rel, p⟩ := q
  refine rdA_go (g := fun x => (o x).nox) (Post := PostE c kd G S σ H Q) rel p (fun _ z => z) (fun z => z) fun d1 v1 G1 H1 s1 q1 p1 => ?_
  cases e : o d1 with
  | ok d =>
    rw [e] at p1
    exact hr G1 H1 d1 v1 d s1.gh q1.nows e Q fun w G3 H3 s3 q3 => p1 w G3 H3 (s1.trans s3) (q3.mono s1.h)
  | exc x => rw [e] at p1; exact p1.elim
  | fail => rw [e] at p1; exact p1.elim
theorem d_bltn {ba : Bool} {x : Str} {p : Pos} {e : Expr} {es : List Expr} {ga : FA} {id : String} {o : List D → R D} (ho : ClR X c.k (.builtin id) kd o) (hm : X.mg x = none) (ha : PA' X c ba (e :: es) ga) (hv : bootBuiltins x = some (.builtin id) := by decide +kernel) (hg : Gl X x := by rfl)
    (hn : x ≠ "__name__" := by decide) (hdb : (x == ("__debug__" : Str)) = false := by decide)
    (hs : starEach (e :: es) X.env = (false, eval e X.env) :: starEach es X.env := by rfl) (hs2 : ((backTo pos (starEach es X.env)).any fun x => x.1) = false := by rfl) :
    PE' X c kd (.Call (.Name x p) (e :: es) [] pos) (eC o ga) := by
  obtain ⟨r, h1, h2⟩ := ho
  exact peI (pe_callB h1 hg hm hv ha hn hdb hs hs2) fun σ H Q q => eC_go h2 q
theorem d_btyp {ba : Bool} {x : Str} {p : Pos} {e : Expr} {es : List Expr} {ga : FA} {id : String} {o : List D → R D} (ho : ClR X c.k (.type id) kd o) (hm : X.mg x = none) (ha : PA' X c ba (e :: es) ga) (hv : bootBuiltins x = some (.type id) := by decide +kernel) (hg : Gl X x := by rfl)
    (hn : x ≠ "__name__" := by decide) (hdb : (x == ("__debug__" : Str)) = false := by decide)
    (hs : starEach (e :: es) X.env = (false, eval e X.env) :: starEach es X.env := by rfl) (hs2 : ((backTo pos (starEach es X.env)).any fun x => x.1) = false := by rfl) :
    PE' X c kd (.Call (.Name x p) (e :: es) [] pos) (eC o ga) := by
  obtain ⟨r, h1, h2⟩ := ho
  exact peI (pe_callTy h1 hg hm hv ha hn hdb hs hs2) fun σ H Q q => eC_go h2 q
end
end M
set_option Elab.async false
set_option linter.all false
set_option maxRecDepth 100000
set_option maxHeartbeats 4000000
namespace M
open PySem L2
/-! ### equality of data -/
mutual
def D.toP : D → PyData
  | .bl b => .bool b
  | .int i => .int i
  | .str x => .str x
  | .tup xs => .tuple (D.toPs xs)
  | .lst xs => .list (D.toPs xs)
  | _ => .none
def D.toPs : List D → List PyData
  | [] => []
  | x :: xs => x.toP :: D.toPs xs
end
mutual
def deq : D → D → Bool
  | .non, .non => true
  | .bl a, .bl b => a == b
  | .bl a, .int j => (if a then 1 else 0) == j
  | .int i, .bl b => i == (if b then 1 else 0)
  | .int i, .int j => i == j
  | .str x, .str y => x == y
  | .lst xs, .lst ys => deqs xs ys
  | .tup xs, .tup ys => deqs xs ys
  | _, _ => false
def deqs : List D → List D → Bool
  | [], [] => true
  | x :: xs, y :: ys => deq x y && deqs xs ys
  | _, _ => false
end
mutual
/-- data that are compared: nested at most n deep -/
def dok : Nat → D → Bool
  | _, .non => true
  | _, .bl _ => true
  | _, .int _ => true
  | _, .str x => PyData.strOk x
  | n + 1, .tup xs => doks n xs
  | n + 1, .lst xs => doks n xs
  | _, _ => false
def doks : Nat → List D → Bool
  | _, [] => true
  | n, x :: xs => dok n x && doks n xs
end
mutual
theorem dok_lay : ∀ (n : Nat) (d : D), dok n d = true → PyData.canLay0 d.toP = true ∧ PyData.depth d.toP ≤ n
  | n, .non, _ => by simp [D.toP, PyData.canLay0, PyData.depth]
  | n, .bl _, _ => by simp [D.toP, PyData.canLay0, PyData.depth]
  | n, .int _, _ => by simp [D.toP, PyData.canLay0, PyData.depth]
  | n, .str x, h => by
    cases n <;> (simp only [dok] at h; simp [D.toP, PyData.canLay0, PyData.depth, h])
  | n + 1, .tup xs, h => by
    simp only [dok] at h
    have := doks_lay n xs h
    simp only [D.toP, PyData.canLay0, PyData.depth]
    exact ⟨this.1, by omega⟩
  | n + 1, .lst xs, h => by
    simp only [dok] at h
    have := doks_lay n xs h
    simp only [D.toP, PyData.canLay0, PyData.depth]
    exact ⟨this.1, by omega⟩
  | 0, .tup xs, h => by simp [dok] at h
  | 0, .lst xs, h => by simp [dok] at h
  | n, .ty _, h => by cases n <;> simp [dok] at h
  | n, .dic _ _, h => by cases n <;> simp [dok] at h
  | n, .dit _ _, h => by cases n <;> simp [dok] at h
  | n, .obj _ _, h => by cases n <;> simp [dok] at h
  | n, .scr _, h => by cases n <;> simp [dok] at h
  | n, .cls _, h => by cases n <;> simp [dok] at h
theorem doks_lay : ∀ (n : Nat) (ds : List D), doks n ds = true → PyData.canLayAll0 (D.toPs ds) = true ∧ PyData.depthAll (D.toPs ds) ≤ n
  | n, [], _ => by simp [D.toPs, PyData.canLayAll0, PyData.depthAll]
  | n, x :: xs, h => by
    simp only [doks, Bool.and_eq_true] at h
    have a := dok_lay n x h.1
    have b := doks_lay n xs h.2
    simp only [D.toPs, PyData.canLayAll0, PyData.depthAll, Bool.and_eq_true]
    exact ⟨⟨a.1, b.1⟩, by omega⟩
end
mutual
theorem deq_eqv : ∀ (n m : Nat) (x y : D), dok n x = true → dok m y = true → PyData.eqv x.toP y.toP = deq x y
  | n, m, .non, y, _, h => by cases y <;> first | (simp [D.toP, PyData.eqv, deq]; done) | (cases m <;> simp [dok] at h)
  | n, m, .bl _, y, _, h => by cases y <;> first | (simp [D.toP, PyData.eqv, deq]; done) | (cases m <;> simp [dok] at h)
  | n, m, .int _, y, _, h => by cases y <;> first | (simp [D.toP, PyData.eqv, deq]; done) | (cases m <;> simp [dok] at h)
  | n, m, .str _, y, _, h => by cases y <;> first | (simp [D.toP, PyData.eqv, deq]; done) | (cases m <;> simp [dok] at h)
  | n + 1, m, .tup xs, y, h1, h => by
    cases y with
    | tup ys =>
      cases m with
      | zero => simp [dok] at h
      | succ m =>
        simp only [dok] at h h1
        simp only [D.toP, PyData.eqv, deq]
        exact deqs_eqv n m xs ys h1 h
    | _ => first | (simp [D.toP, PyData.eqv, deq]; done) | (cases m <;> simp [dok] at h)
  | n + 1, m, .lst xs, y, h1, h => by
    cases y with
    | lst ys =>
      cases m with
      | zero => simp [dok] at h
      | succ m =>
        simp only [dok] at h h1
        simp only [D.toP, PyData.eqv, deq]
        exact deqs_eqv n m xs ys h1 h
    | _ => first | (simp [D.toP, PyData.eqv, deq]; done) | (cases m <;> simp [dok] at h)
  | 0, _, .tup xs, _, h, _ => by simp [dok] at h
  | 0, _, .lst xs, _, h, _ => by simp [dok] at h
  | n, _, .ty _, _, h, _ => by cases n <;> simp [dok] at h
  | n, _, .dic _ _, _, h, _ => by cases n <;> simp [dok] at h
  | n, _, .dit _ _, _, h, _ => by cases n <;> simp [dok] at h
  | n, _, .obj _ _, _, h, _ => by cases n <;> simp [dok] at h
  | n, _, .scr _, _, h, _ => by cases n <;> simp [dok] at h
  | n, _, .cls _, _, h, _ => by cases n <;> simp [dok] at h
theorem deqs_eqv : ∀ (n m : Nat) (xs ys : List D), doks n xs = true → doks m ys = true → PyData.eqvAll (D.toPs xs) (D.toPs ys) = deqs xs ys
  | n, m, [], [], _, _ => by simp [D.toPs, PyData.eqvAll, deqs]
  | n, m, [], _ :: _, _, _ => by simp [D.toPs, PyData.eqvAll, deqs]
  | n, m, _ :: _, [], _, _ => by simp [D.toPs, PyData.eqvAll, deqs]
  | n, m, x :: xs, y :: ys, h1, h2 => by
    simp only [doks, Bool.and_eq_true] at h1 h2
    simp only [D.toPs, PyData.eqvAll, deqs]
    rw [deq_eqv n m x y h1.1 h2.1, deqs_eqv n m xs ys h1.2 h2.2]
end
mutual
theorem RD.dp {k : Kn} {H : Hp} : ∀ {d : D} {v : V} (n : Nat), RD k H d v → dok n d = true → Dp k.K H v d.toP
  | _, _, _, .non, _ => by simp only [D.toP]; exact .non
  | _, _, _, .bl b, _ => by simp only [D.toP]; exact .bl b
  | _, _, _, .int b, _ => by simp only [D.toP]; exact .int b
  | _, _, _, .str b, _ => by simp only [D.toP]; exact .str b
  | _, _, n, .tup h r, e => by
    cases n with
    | zero => simp [dok] at e
    | succ n => simp only [dok] at e; simp only [D.toP]; exact .tup h.t (RDs.dp n r e)
  | _, _, n, .lst h r, e => by
    cases n with
    | zero => simp [dok] at e
    | succ n => simp only [dok] at e; simp only [D.toP]; exact .lst (SqL.of h) (RDs.dp n r e)
  | _, _, n, .ty _, e => by cases n <;> simp [dok] at e
  | _, _, n, .scr _, e => by cases n <;> simp [dok] at e
  | _, _, n, .cls _, e => by cases n <;> simp [dok] at e
  | _, _, n, .dic _ _ _, e => by cases n <;> simp [dok] at e
  | _, _, n, .dit _ _ _, e => by cases n <;> simp [dok] at e
  | _, _, n, .obj _ _ _, e => by cases n <;> simp [dok] at e
theorem RDs.dp {k : Kn} {H : Hp} : ∀ {ds : List D} {vs : List V} (n : Nat), RDs k H ds vs → doks n ds = true → DpAll k.K H vs (D.toPs ds)
  | _, _, _, .nil, _ => by simp only [D.toPs]; exact .nil
  | _, _, n, .cons a b, e => by
    simp only [doks, Bool.and_eq_true] at e
    simp only [D.toPs]
    exact .cons (RD.dp n a e.1) (RDs.dp n b e.2)
end
theorem dok_shaped {d : D} (h : dok 60 d = true) : SeqAt.shaped d.toP = true := by
  have := dok_lay 60 d h
  unfold SeqAt.shaped
  simp only [this.1, Bool.true_and, decide_eq_true_eq]
  omega
def eqD (a b : D) : R D := if dok 60 a && dok 60 b then .ok (.bl (deq a b)) else .fail
def neD (a b : D) : R D := if dok 60 a && dok 60 b then .ok (.bl (!deq a b)) else .fail
section
variable {X : Cx} {k : Kn}
theorem o_eq (hk : k.K = X.K) (hu : X.A.units + 64 < cLine) : Op2 X k (compareOp .Eq) .st eqD := by
  refine ⟨_, op_eqD hu, ?_⟩
  intro G H x y u v d e nx ny hg Q q
  unfold eqD at hg
  split at hg
  · rename_i h
    simp only [Bool.and_eq_true] at h
    cases hg
    refine ⟨x.toP, y.toP, hk ▸ (nx.rd e).dp 60 h.1, hk ▸ (ny.rd e).dp 60 h.2, dok_shaped h.1, dok_shaped h.2, ?_⟩
    rw [deq_eqv 60 60 x y h.1 h.2]
    exact q _ G H (Step.refl e) (.bl _)
  · cases hg
theorem o_ne (hk : k.K = X.K) (hu : X.A.units + 64 < cLine) : Op2 X k (compareOp .NotEq) .st neD := by
  refine ⟨_, op_neD hu, ?_⟩
  intro G H x y u v d e nx ny hg Q q
  unfold neD at hg
  split at hg
  · rename_i h
    simp only [Bool.and_eq_true] at h
    cases hg
    refine ⟨x.toP, y.toP, hk ▸ (nx.rd e).dp 60 h.1, hk ▸ (ny.rd e).dp 60 h.2, dok_shaped h.1, dok_shaped h.2, ?_⟩
    rw [deq_eqv 60 60 x y h.1 h.2]
    exact q _ G H (Step.refl e) (.bl _)
  · cases hg
/-! ### arithmetic, + -/
def addD : D → D → R D
  | .int i, .int j => .ok (.int (i + j))
  | .str x, .str y => if x.length + y.length ≤ sizeLine then .ok (.str (x ++ y)) else .fail
  | .lst xs, .lst ys => if xs.length + ys.length ≤ sizeLine then .ok (.lst (xs ++ ys)) else .fail
  | .tup xs, .tup ys => if xs.length + ys.length ≤ sizeLine then .ok (.tup (xs ++ ys)) else .fail
  | _, _ => .fail
theorem o_add (hk : k.K = X.K) : Op2 X k (binaryOp .Add) .st addD := by
  refine ⟨_, op_add.or (op_add_str.or (op_cat.or op_catA)), ?_⟩
  intro G H x y u v d e nx ny hg Q q
  unfold addD at hg
  split at hg
  · cases hg; obtain rfl := nx.int; obtain rfl := ny.int
    exact .inl ⟨_, _, rfl, rfl, q _ G H (Step.refl e) (.int _)⟩
  · split at hg
    · rename_i hl
      cases hg; obtain rfl := nx.str; obtain rfl := ny.str
      exact .inr (.inl ⟨_, _, rfl, rfl, hl, q _ G H (Step.refl e) (.str _)⟩)
    · cases hg
  · split at hg
    · rename_i hl
      cases hg
      obtain ⟨a, vs, rfl, ha, ra⟩ := nx.lst e
      obtain ⟨b, us, rfl, hb, rb⟩ := ny.lst e
      exact .inr (.inr (.inl ⟨a, b, vs, us, rfl, rfl, ha, hb, by rw [← ra.length, ← rb.length]; exact hl, fun p hp => q _ _ _ (Step.new e hp) (.lst upd_same ((ra.append rb).mono (Ex.new (e.free hp))))⟩))
    · cases hg
  · split at hg
    · rename_i hl
      cases hg
      obtain ⟨a, vs, rfl, ha, ra⟩ := nx.tup
      obtain ⟨b, us, rfl, hb, rb⟩ := ny.tup
      refine .inr (.inr (.inr ⟨a, b, vs, us, rfl, rfl, hk ▸ e.sqT ha.t, hk ▸ e.sqT hb.t, by rw [← ra.length, ← rb.length]; exact hl, fun z => ?_, fun z1 z2 => ?_, fun _ _ p hp => q _ _ _ (Step.new e hp) (.tup (SqU.of upd_same) ((ra.append rb).mono (Ex.new (e.free hp))))⟩))
      · subst z; cases ra; exact q _ _ _ (Step.refl e) (.tup hb rb)
      · subst z2; cases rb; rw [List.append_nil] at q; exact q _ _ _ (Step.refl e) (.tup ha ra)
    · cases hg
  · cases hg
/-- a list made by +, new -/
def addL : D → D → R D
  | .lst xs, .lst ys => if xs.length + ys.length ≤ sizeLine then .ok (.lst (xs ++ ys)) else .fail
  | _, _ => .fail
theorem o_addL : Op2 X k (binaryOp .Add) .fr addL := by
  refine ⟨_, op_cat, ?_⟩
  intro G H x y u v d e nx ny hg Q q
  unfold addL at hg
  split at hg
  · split at hg
    · rename_i hl
      cases hg
      obtain ⟨a, vs, rfl, ha, ra⟩ := nx.lst e
      obtain ⟨b, us, rfl, hb, rb⟩ := ny.lst e
      exact ⟨a, b, vs, us, rfl, rfl, ha, hb, by rw [← ra.length, ← rb.length]; exact hl, fun p hp => q _ _ _ (Step.new' e hp) ⟨p, _, rfl, e.free hp, hp, upd_same, .lst (ra.append rb)⟩⟩
    · cases hg
  · cases hg
/-- an operation on two ints -/
theorem o_int {f : Value → Value → Sem Value} {C : Int → Int → Prop} [∀ i j, Decidable (C i j)] {gv : Int → Int → V} {gd : Int → Int → D} (h : OpR X f (rI C gv)) (r : ∀ i j G, RD k G (gd i j) (gv i j)) :
    Op2 X k f .st (fun x y => match x, y with | .int i, .int j => if C i j then .ok (gd i j) else .fail | _, _ => .fail) := by
  refine ⟨_, h, ?_⟩
  intro G H x y u v d e nx ny hg Q q
  dsimp only at hg
  split at hg
  · split at hg
    · rename_i hc
      cases hg; obtain rfl := nx.int; obtain rfl := ny.int
      exact ⟨_, _, rfl, rfl, hc, q _ G H (Step.refl e) (r _ _ _)⟩
    · cases hg
  · cases hg
theorem o_int0 {f : Value → Value → Sem Value} {gv : Int → Int → V} {gd : Int → Int → D} (h : OpR X f (rI0 gv)) (r : ∀ i j G, RD k G (gd i j) (gv i j)) :
    Op2 X k f .st (fun x y => match x, y with | .int i, .int j => .ok (gd i j) | _, _ => .fail) := by
  refine ⟨_, h, ?_⟩
  intro G H x y u v d e nx ny hg Q q
  dsimp only at hg
  split at hg
  · cases hg; obtain rfl := nx.int; obtain rfl := ny.int
    exact ⟨_, _, rfl, rfl, q _ G H (Step.refl e) (r _ _ _)⟩
  · cases hg
def subD : D → D → R D := fun x y => match x, y with | .int i, .int j => .ok (.int (i - j)) | _, _ => .fail
theorem o_sub : Op2 X k (binaryOp .Sub) .st subD := o_int0 op_sub fun _ _ _ => .int _
instance (i j : Int) : Decidable (CMul i j) := by unfold CMul; exact inferInstance
instance (i j : Int) : Decidable (CMulX i j) := by unfold CMulX; exact inferInstance
instance (i j : Int) : Decidable (CDiv i j) := by unfold CDiv; exact inferInstance
instance (i j : Int) : Decidable (CPow i j) := by unfold CPow; exact inferInstance
def fdivD : D → D → R D := fun x y => match x, y with | .int i, .int j => if CDiv i j then .ok (.int (i / j)) else .fail | _, _ => .fail
theorem o_fdiv : Op2 X k (binaryOp .FloorDiv) .st fdivD := o_int op_fdiv fun _ _ _ => .int _
def modD : D → D → R D := fun x y => match x, y with | .int i, .int j => if 0 < j then .ok (.int (i % j)) else .fail | _, _ => .fail
theorem o_mod : Op2 X k (binaryOp .Mod) .st modD := o_int (C := fun _ j => 0 < j) op_mod fun _ _ _ => .int _
def powD : D → D → R D := fun x y => match x, y with | .int i, .int j => if CPow i j then .ok (.int (i ^ j.toNat)) else .fail | _, _ => .fail
theorem o_pow : Op2 X k (binaryOp .Pow) .st powD := o_int op_pow fun _ _ _ => .int _
/-- * : ints, a list or a tuple so many times -/
def mulD : D → D → R D
  | .int i, .int j => if CMul i j ∨ CMulX i j then .ok (.int (i * j)) else .fail
  | .lst xs, .int j => if -(2 ^ 63) ≤ j ∧ j < 2 ^ 63 ∧ xs.length * j.toNat ≤ sizeLine then .ok (.lst (List.replicate j.toNat xs).flatten) else .fail
  | .tup xs, .int j => if xs ≠ [] ∧ 2 ≤ j ∧ j ≤ 1000 ∧ xs.length ≤ 1000 then .ok (.tup (List.replicate j.toNat xs).flatten) else .fail
  | _, _ => .fail
theorem RDs.rep {G : Hp} {ds : List D} {vs : List V} (r : RDs k G ds vs) : ∀ n : Nat, RDs k G (List.replicate n ds).flatten (List.replicate n vs).flatten
  | 0 => by simpa using .nil
  | n + 1 => by rw [List.replicate_succ, List.replicate_succ, List.flatten_cons, List.flatten_cons]; exact r.append (RDs.rep r n)
theorem o_mul (hk : k.K = X.K) : Op2 X k (binaryOp .Mult) .st mulD := by
  refine ⟨_, (op_mul.or op_mulX).or (op_rep.or op_repT), ?_⟩
  intro G H x y u v d e nx ny hg Q q
  unfold mulD at hg
  split at hg
  · split at hg
    · rename_i hc
      cases hg; obtain rfl := nx.int; obtain rfl := ny.int
      rcases hc with hc | hc
      · exact .inl (.inl ⟨_, _, rfl, rfl, hc, q _ G H (Step.refl e) (.int _)⟩)
      · exact .inl (.inr ⟨_, _, rfl, rfl, hc, q _ G H (Step.refl e) (.int _)⟩)
    · cases hg
  · split at hg
    · rename_i hc
      cases hg; obtain rfl := ny.int
      obtain ⟨a, vs, rfl, ha, ra⟩ := nx.lst e
      exact .inr (.inl ⟨a, _, vs, rfl, rfl, ha, hc.1, hc.2.1, by rw [← ra.length]; exact hc.2.2, fun p hp => q _ _ _ (Step.new e hp) (.lst upd_same ((ra.rep _).mono (Ex.new (e.free hp))))⟩)
    · cases hg
  · split at hg
    · rename_i hc
      cases hg; obtain rfl := ny.int
      obtain ⟨a, vs, rfl, ha, ra⟩ := nx.tup
      exact .inr (.inr ⟨a, _, vs, rfl, rfl, hk ▸ e.sqT ha.t, fun z => hc.1 (by subst z; cases ra; rfl), hc.2.1, hc.2.2.1, by rw [← ra.length]; exact hc.2.2.2, fun p hp => q _ _ _ (Step.new e hp) (.tup (SqU.of upd_same) ((ra.rep _).mono (Ex.new (e.free hp))))⟩)
    · cases hg
  · cases hg
def ltD : D → D → R D := fun x y => match x, y with | .int i, .int j => .ok (.bl (decide (i < j))) | _, _ => .fail
theorem o_lt : Op2 X k (compareOp .Lt) .st ltD := o_int0 op_lt fun _ _ _ => .bl _
def leD : D → D → R D := fun x y => match x, y with | .int i, .int j => .ok (.bl (decide (i ≤ j))) | _, _ => .fail
theorem o_le : Op2 X k (compareOp .LtE) .st leD := o_int0 op_le fun _ _ _ => .bl _
def gtD : D → D → R D := fun x y => match x, y with | .int i, .int j => .ok (.bl (decide (j < i))) | _, _ => .fail
theorem o_gt : Op2 X k (compareOp .Gt) .st gtD := o_int0 op_gt fun _ _ _ => .bl _
def geD : D → D → R D := fun x y => match x, y with | .int i, .int j => .ok (.bl (decide (j ≤ i))) | _, _ => .fail
theorem o_ge : Op2 X k (compareOp .GtE) .st geD := o_int0 op_ge fun _ _ _ => .bl _
def negD : D → R D := fun x => match x with | .int i => .ok (.int (-i)) | _ => .fail
theorem o_neg : Un1 X k (unaryOp .USub) negD := by
  refine ⟨_, un_neg, ?_⟩
  intro G H x u d e nx hg Q q
  unfold negD at hg
  split at hg
  · cases hg; obtain rfl := nx.int
    exact ⟨_, rfl, q _ G H (Step.refl e) (.int _)⟩
  · cases hg
def D.isNon : D → Bool
  | .non => true
  | _ => false
def isD : D → D → R D := fun x y => match y with | .non => .ok (.bl x.isNon) | _ => .fail
theorem Now.isNon {G H : Hp} {x : D} {u : V} (n : Now k G H x u) : decide (u = V.non) = x.isNon := by
  rcases n with n | ⟨a, o, rfl, h, ct⟩
  · cases n <;> simp [D.isNon]
  · cases ct <;> simp [D.isNon]
theorem o_is : Op2 X k (compareOp .Is) .st isD := by
  refine ⟨_, op_isN, ?_⟩
  intro G H x y u v d e nx ny hg Q q
  unfold isD at hg
  split at hg
  · cases hg; obtain rfl := ny.non
    exact ⟨rfl, by rw [nx.isNon]; exact q _ G H (Step.refl e) (.bl _)⟩
  · cases hg
def isntD : D → D → R D := fun x y => match y with | .non => .ok (.bl (!x.isNon)) | _ => .fail
theorem o_isnt : Op2 X k (compareOp .IsNot) .st isntD := by
  refine ⟨_, op_notN, ?_⟩
  intro G H x y u v d e nx ny hg Q q
  unfold isntD at hg
  split at hg
  · cases hg; obtain rfl := ny.non
    exact ⟨rfl, by rw [nx.isNon]; exact q _ G H (Step.refl e) (.bl _)⟩
  · cases hg
/-! ### items -/
theorem RDs.atI {G : Hp} {ds : List D} {vs : List V} {i : Int} {d : D} (r : RDs k G ds vs) (h : L2.atI ds i = some d) : ∃ v, L2.atI vs i = some v ∧ RD k G d v := by
  unfold L2.atI at h ⊢
  rw [← r.length]
  cases e : ixN ds.length i with
  | none => rw [e] at h; cases h
  | some j => rw [e] at h; exact r.get h
def ixD : D → D → R D
  | .lst xs, .int i => match L2.atI xs i with | some d => .ok d | none => .fail
  | .tup xs, .int i => match L2.atI xs i with | some d => .ok d | none => .fail
  | .scr ns, .int i => match L2.atI ns i with | some d => .ok (.int d) | none => .fail
  | .str x, .int i => if x.length ≤ sizeLine then match L2.atI x.cps.toList i with | some c => .ok (.str ⟨#[c]⟩) | none => .fail else .fail
  | _, _ => .fail
theorem IxR.or {r r' : R2} (h : IxR X r) (h' : IxR X r') : IxR X (fun x y H Q => r x y H Q ∨ r' x y H Q) := fun v sl pins s σ H x y u w Q I rx ry q hs => by
  rcases q with q | q
  · exact h v sl pins s σ H x y u w Q I rx ry q hs
  · exact h' v sl pins s σ H x y u w Q I rx ry q hs
theorem atI_map {α β : Type} (f : α → β) (xs : List α) (i : Int) : L2.atI (xs.map f) i = (L2.atI xs i).map f := by
  unfold L2.atI
  rw [List.length_map]
  cases ixN xs.length i with
  | none => rfl
  | some j => simp
theorem o_ix (hk : k.K = X.K) : Ix2 X k ixD := by
  refine ⟨_, IxR.or ix_list (IxR.or ix_tup ix_str), ?_⟩
  intro G H x y u v d e nx ny hg Q q
  unfold ixD at hg
  split at hg
  · split at hg
    · rename_i d' hd
      cases hg; obtain rfl := ny.int
      obtain ⟨a, vs, rfl, ha, ra⟩ := nx.lst e
      obtain ⟨w, h1, h2⟩ := ra.atI hd
      exact .inl ⟨a, vs, _, w, rfl, rfl, SqL.of ha, h1, q _ G H (Step.refl e) h2⟩
    · cases hg
  · split at hg
    · rename_i d' hd
      cases hg; obtain rfl := ny.int
      obtain ⟨a, vs, rfl, ha, ra⟩ := nx.tup
      obtain ⟨w, h1, h2⟩ := ra.atI hd
      exact .inr (.inl ⟨a, vs, _, w, rfl, rfl, hk ▸ e.sqT ha.t, h1, q _ G H (Step.refl e) h2⟩)
    · cases hg
  · split at hg
    · rename_i d' hd
      cases hg; obtain rfl := ny.int
      obtain ⟨a, rfl, ha⟩ := nx.scr
      exact .inl ⟨a, _, _, .int d', rfl, rfl, hk ▸ e.sqL ha, by rw [atI_map, hd]; rfl, q _ G H (Step.refl e) (.int _)⟩
    · cases hg
  · split at hg
    · rename_i hl
      split at hg
      · rename_i d' hd
        cases hg; obtain rfl := ny.int; obtain rfl := nx.str
        exact .inr (.inr ⟨_, _, d', rfl, rfl, hl, hd, q _ G H (Step.refl e) (.str _)⟩)
      · cases hg
    · cases hg
  · cases hg
end
end M
set_option Elab.async false
set_option linter.all false
set_option maxRecDepth 100000
set_option maxHeartbeats 4000000
namespace M
open PySem L2
section
variable {X : Cx} {c : Cf} {kd k1 k2 k3 : Kd} {a b e : Expr} {f g h : FE} {pos : Pos}
/-! ### tests -/
def toB : D → R Bool
  | .bl b => .ok b
  | _ => .fail
def tB' (f : FE) : FT := fun S => f S >>= toB
/-- truth -/
def truD : D → R Bool
  | .non => .ok false
  | .bl b => .ok b
  | .int i => .ok (i != 0)
  | .str x => if x.length ≤ sizeLine then .ok (x.length != 0) else .fail
  | .tup xs => .ok (!xs.isEmpty)
  | .lst xs => .ok (!xs.isEmpty)
  | .dic ks _ => .ok (!ks.isEmpty)
  | _ => .fail
def tT' (f : FE) : FT := fun S => f S >>= truD
theorem Now.toB {k : Kn} {G H : Hp} {d : D} {v : V} {b : Bool} (n : Now k G H d v) (h : toB d = .ok b) : v = .bl b := by
  cases d <;> simp only [M.toB] at h <;> first | (cases h; done) | (cases h; exact n.bl)
theorem Nows.isEmpty {k : Kn} {G : Hp} {ds : List D} {vs : List V} (r : RDs k G ds vs) : (!ds.isEmpty) = !vs.isEmpty := by
  cases r <;> rfl
theorem Now.tru {k : Kn} {G H : Hp} {d : D} {v : V} {b : Bool} (e : Ex G H) (n : Now k G H d v) (h : truD d = .ok b) : TruV k.K v H b := by
  unfold truD at h
  split at h
  · cases h; obtain rfl := n.non; rfl
  · cases h; obtain rfl := n.bl; rfl
  · cases h; obtain rfl := n.int; rfl
  · split at h
    · rename_i hl
      cases h; obtain rfl := n.str
      exact ⟨hl, by simp [bne, BEq.beq]⟩
    · cases h
  · cases h; obtain ⟨p, vs, rfl, hp, r⟩ := n.tup
    exact .inr (.inl ⟨vs, e.sqT hp.t, Nows.isEmpty r⟩)
  · cases h; obtain ⟨p, vs, rfl, hp, r⟩ := n.lst e
    exact .inl ⟨vs, SqL.of hp, Nows.isEmpty r⟩
  · cases h; obtain ⟨p, vs, rfl, hp, l, r⟩ := n.dic e
    refine .inr (.inr ⟨_, hp, ?_⟩)
    have l2 := r.length
    rename_i ks ds
    cases ks with
    | nil => rfl
    | cons x xs =>
      cases vs with
      | nil => simp at l2; subst l2; simp at l
      | cons y ys => rfl
  · cases h
theorem d_tt {kd : Kd} (hk : c.k.K = X.K) (ha : PE' X c kd a f) (he : ∀ whole, isTrue a X.env whole = (do let v ← whole; standAt a.pos; holding [v] (truthy v)) := by intro _; rfl) : PT' X c a (tT' f) :=
  ptI (pt_truth ha he) fun σ H Q ⟨G, S, rel, p⟩ => by
    refine rdE_go (g := truD) (Post := PostT c G S σ H Q) rel p (fun _ z => z) (fun z => z) fun d v G' H' s q p1 => ?_
    cases e1 : truD d with
    | ok b => rw [e1] at p1; exact ⟨b, hk ▸ q.now.tru s.gh e1, p1 G' H' s⟩
    | exc x => cases d <;> simp only [truD] at e1 <;> first | (cases e1; done) | (split at e1 <;> cases e1)
    | fail => rw [e1] at p1; exact p1.elim
theorem tB_go {t : TE} {σ : St} {H : Hp} {Q : Bool → Hp → Prop} (ht : ∀ σ H Q, RdE c .st f σ H Q → t σ H Q) (q : RdT c (tB' f) σ H Q) : t σ H fun x H' => ∃ k, x = .bl k ∧ Q k H' := by
  obtain ⟨G, S, rel, p⟩ := q
  refine ht σ H _ (rdE_go (g := toB) (Post := PostT c G S σ H Q) rel p (fun _ z => z) (fun z => z) fun d v G' H' s q p1 => ?_)
  cases e1 : toB d with
  | ok b => rw [e1] at p1; exact ⟨b, q.now.toB e1, p1 G' H' s⟩
  | exc x => cases d <;> simp only [toB] at e1 <;> cases e1
  | fail => rw [e1] at p1; exact p1.elim
theorem d_tc {op : CmpOp} {o : D → D → R D} (ho : Op2 X c.k (compareOp op) .st o) (ha : PE' X c k1 a f) (hb : PE' X c k2 b g) (hm : behindInMarks op b = false := by rfl) : PT' X c (.Compare a [op] [b] pos) (tB' (e2 o f g)) := by
  obtain ⟨r, h1, h2⟩ := ho
  exact ptI (pt_cmpR h1 ha hb hm) fun σ H Q q => tB_go (t := tOp r (RdE c k1 f) (RdE c k2 g)) (fun σ H Q q => e2_go h2 q) q
/-- a op b op c -/
def e3 (o o' : D → D → R D) (f g h : FE) : FE := fun S => do
  let x ← f S
  let y ← g S
  let b ← (o x y).nox
  let b ← toB b
  if b then do
    let z ← h S
    (o' y z).nox
  else .ok (.bl false)
theorem e3_go {o o' : D → D → R D} {r r' : R2} {σ : St} {H : Hp} {Q : VK} (hr : ∀ G H x y u v d, Ex G H → Now c.k G H x u → Now c.k G H y v → o x y = .ok d → ∀ Q : VK, (∀ w G' H', Step G H G' H' → Res c.k H G' H' d w .st → Q w H') → r u v H Q)
    (hr' : ∀ G H x y u v d, Ex G H → Now c.k G H x u → Now c.k G H y v → o' x y = .ok d → ∀ Q : VK, (∀ w G' H', Step G H G' H' → Res c.k H G' H' d w .st → Q w H') → r' u v H Q)
    (q : RdE c .st (e3 o o' f g h) σ H Q) : tChain r r' (RdE c k1 f) (RdE c k2 g) (RdE c k3 h) σ H Q := by
  obtain ⟨G, S, rel, p⟩ := q
  refine rdE_go (g := fun x => do let y ← g S; let b ← (o x y).nox; let b ← toB b; if b then do { let z ← h S; (o' y z).nox } else .ok (.bl false)) (Post := PostE c .st G S σ H Q) rel p (fun _ z => z) (fun z => z) fun d1 v1 G1 H1 s1 q1 p1 => ?_
  refine rdE_go (g := fun y => do let b ← (o d1 y).nox; let b ← toB b; if b then do { let z ← h S; (o' y z).nox } else .ok (.bl false)) (Post := PostE c .st G S σ H Q) (rel.grow s1) p1 (fun _ z => z) (fun z => z) fun d2 v2 G2 H2 s2 q2 p2 => ?_
  cases eo : o d1 d2 with
  | exc x => rw [eo] at p2; exact p2.elim
  | fail => rw [eo] at p2; exact p2.elim
  | ok db =>
    rw [eo] at p2
    refine hr G2 H2 d1 d2 v1 v2 db s2.gh (q1.now.grow s2) q2.now eo _ fun w G3 H3 s3 q3 => ?_
    cases eb : toB db with
    | exc x => cases db <;> simp only [toB] at eb <;> cases eb
    | fail => simp only [R.nox_ok, R.ok_bind, eb, R.fail_bind] at p2; exact p2.elim
    | ok kb =>
      simp only [R.nox_ok, R.ok_bind, eb] at p2
      refine ⟨kb, (Res.now (kd := .st) q3).toB eb, ?_⟩
      cases kb with
      | false =>
        rw [if_neg Bool.false_ne_true] at p2 ⊢
        exact p2 _ G3 H3 ((s1.trans s2).trans s3) (.bl _)
      | true =>
        rw [if_pos rfl] at p2 ⊢
        refine rdE_go (g := fun z => (o' d2 z).nox) (Post := PostE c .st G S σ H Q) (((rel.grow s1).grow s2).grow s3) p2 (fun _ z => z) (fun z => z) fun d4 v4 G4 H4 s4 q4 p4 => ?_
        cases eo' : o' d2 d4 with
        | exc x => rw [eo'] at p4; exact p4.elim
        | fail => rw [eo'] at p4; exact p4.elim
        | ok dr =>
          rw [eo'] at p4
          exact hr' G4 H4 d2 d4 v2 v4 dr s4.gh (q2.now.grow (s3.trans s4)) q4.now eo' Q fun w' G5 H5 s5 q5 => p4 w' G5 H5 ((((s1.trans s2).trans s3).trans s4).trans s5) q5
theorem d_ch {op op' : CmpOp} {cc : Expr} {o o' : D → D → R D} (ho : Op2 X c.k (compareOp op) .st o) (ho' : Op2 X c.k (compareOp op') .st o') (ha : PE' X c k1 a f) (hb : PE' X c k2 b g) (hc : PE' X c k3 cc h)
    (hm : lastMarks [op, op'] [b, cc] = false := by with_unfolding_all rfl) : PE' X c .st (.Compare a [op, op'] [b, cc] pos) (e3 o o' f g h) := by
  obtain ⟨r, h1, h2⟩ := ho
  obtain ⟨r', h1', h2'⟩ := ho'
  exact peI (pe_chain h1 h1' ha hb hc hm) fun σ H Q q => e3_go h2 h2' q
theorem d_tch {op op' : CmpOp} {cc : Expr} {o o' : D → D → R D} (ho : Op2 X c.k (compareOp op) .st o) (ho' : Op2 X c.k (compareOp op') .st o') (ha : PE' X c k1 a f) (hb : PE' X c k2 b g) (hc : PE' X c k3 cc h)
    (hm : lastMarks [op, op'] [b, cc] = false := by with_unfolding_all rfl) : PT' X c (.Compare a [op, op'] [b, cc] pos) (tB' (e3 o o' f g h)) := by
  obtain ⟨r, h1, h2⟩ := ho
  obtain ⟨r', h1', h2'⟩ := ho'
  exact ptI (pt_chain h1 h1' ha hb hc hm) fun σ H Q q => tB_go (t := tChain r r' (RdE c k1 f) (RdE c k2 g) (RdE c k3 h)) (fun σ H Q q => e3_go h2 h2' q) q
/-! ### not, and, or -/
def tNo (t : FT) : FT := fun S => t S >>= fun b => .ok (!b)
def tA (t u : FT) : FT := fun S => t S >>= fun b => if b then u S else .ok false
def tO (t u : FT) : FT := fun S => t S >>= fun b => if b then .ok true else u S
variable {t u : FT}
theorem d_not (ha : PT' X c a t) : PT' X c (.UnaryOp .Not a pos) (tNo t) :=
  ptI (pt_not ha) fun σ H Q ⟨G, S, rel, p⟩ => rdT_go (g := fun b => .ok (!b)) (Post := PostT c G S σ H Q) rel p (fun _ z => z) (fun z => z) fun b G' H' s p1 => p1 G' H' s
abbrev PW' (X : Cx) (c : Cf) (e : Expr) (f : FT) : Prop := PW X e (RdT c f)
theorem PostT.grow {G H G' H' : Hp} {S : Env} {σ : St} {Q : Bool → Hp → Prop} {r : R Bool} (s : Step G H G' H') (p : PostT c G S σ H Q r) : PostT c G' S σ H' Q r := by
  cases r with
  | ok b => exact fun G2 H2 s2 => p G2 H2 (s.trans s2)
  | exc x => exact p
  | fail => exact p
theorem PostE.grow {G H G' H' : Hp} {S : Env} {σ : St} {Q : VK} {r : R D} (s : Step G H G' H') (p : PostE c kd G S σ H Q r) : PostE c kd G' S σ H' Q r := by
  cases r with
  | ok b => exact fun v G2 H2 s2 q => p v G2 H2 (s.trans s2) (q.mono s.h)
  | exc x => exact p
  | fail => exact p
theorem d_and1 (ha : PT' X c a t) : PW' X c (.BoolOp .And [a] pos) t := pw_and1 ha
theorem d_or1 (ha : PT' X c a t) : PW' X c (.BoolOp .Or [a] pos) t := pw_or1 ha
theorem d_and {rest : List Expr} (ha : PT' X c a t) (hb : PW' X c (.BoolOp .And (b :: rest) pos) u) : PW' X c (.BoolOp .And (a :: b :: rest) pos) (tA t u) :=
  pwI (pw_and ha hb) fun σ H Q ⟨G, S, rel, p⟩ => rdT_go (g := fun b => if b then u S else .ok false) (Post := PostT c G S σ H Q) rel p (fun _ z => z) (fun z => z) fun b G' H' s p1 => by
    cases b with
    | true => exact ⟨G', S, rel.grow s, PostT.grow s p1⟩
    | false => exact p1 G' H' s
theorem d_or {rest : List Expr} (ha : PT' X c a t) (hb : PW' X c (.BoolOp .Or (b :: rest) pos) u) : PW' X c (.BoolOp .Or (a :: b :: rest) pos) (tO t u) :=
  pwI (pw_or ha hb) fun σ H Q ⟨G, S, rel, p⟩ => rdT_go (g := fun b => if b then .ok true else u S) (Post := PostT c G S σ H Q) rel p (fun _ z => z) (fun z => z) fun b G' H' s p1 => by
    cases b with
    | true => exact p1 G' H' s
    | false => exact ⟨G', S, rel.grow s, PostT.grow s p1⟩
theorem d_pw (h : PW' X c a t) : PT' X c a t := h.pt
/-- the same as values: bools -/
def eAnd (f g : FE) : FE := fun S => f S >>= toB >>= fun b => if b then g S else .ok (.bl false)
def eOr (f g : FE) : FE := fun S => f S >>= toB >>= fun b => if b then .ok (.bl true) else g S
def eNot (f : FE) : FE := fun S => f S >>= toB >>= fun b => .ok (.bl (!b))
def eIf (t : FT) (f g : FE) : FE := fun S => t S >>= fun b => if b then f S else g S
theorem bind_toB {β : Type} (r : R D) (k : Bool → R β) : (r >>= toB >>= k) = r >>= fun d => toB d >>= k := by cases r <;> rfl
theorem d_vone {op} (h : PE' X c .st a f) : PE' X c .st (.BoolOp op [a] pos) f := pe_one h
theorem d_vand {rest : List Expr} (ha : PE' X c .st a f) (hb : PE' X c .st (.BoolOp .And (b :: rest) pos) g) : PE' X c .st (.BoolOp .And (a :: b :: rest) pos) (eAnd f g) :=
  peI (pe_and ha hb) fun σ H Q ⟨G, S, rel, p⟩ => by
    unfold eAnd at p
    rw [bind_toB] at p
    refine rdE_go (Post := PostE c .st G S σ H Q) rel p (fun _ z => z) (fun z => z) fun d v G' H' s q p1 => ?_
    cases d with
    | bl k =>
      refine ⟨k, (Res.now (kd := .st) q).bl, ?_⟩
      cases k with
      | true => exact ⟨G', S, rel.grow s, PostE.grow s p1⟩
      | false => exact p1 _ G' H' s (.bl _)
    | _ => exact p1.elim
theorem d_vor {rest : List Expr} (ha : PE' X c .st a f) (hb : PE' X c .st (.BoolOp .Or (b :: rest) pos) g) : PE' X c .st (.BoolOp .Or (a :: b :: rest) pos) (eOr f g) :=
  peI (pe_or ha hb) fun σ H Q ⟨G, S, rel, p⟩ => by
    unfold eOr at p
    rw [bind_toB] at p
    refine rdE_go (Post := PostE c .st G S σ H Q) rel p (fun _ z => z) (fun z => z) fun d v G' H' s q p1 => ?_
    cases d with
    | bl k =>
      refine ⟨k, (Res.now (kd := .st) q).bl, ?_⟩
      cases k with
      | true => exact p1 _ G' H' s (.bl _)
      | false => exact ⟨G', S, rel.grow s, PostE.grow s p1⟩
    | _ => exact p1.elim
theorem d_vnot (ha : PE' X c .st a f) : PE' X c .st (.UnaryOp .Not a pos) (eNot f) :=
  peI (pe_not ha) fun σ H Q ⟨G, S, rel, p⟩ => by
    unfold eNot at p
    rw [bind_toB] at p
    refine rdE_go (Post := PostE c .st G S σ H Q) rel p (fun _ z => z) (fun z => z) fun d v G' H' s q p1 => ?_
    cases d with
    | bl k => exact ⟨k, (Res.now (kd := .st) q).bl, p1 _ G' H' s (.bl _)⟩
    | _ => exact p1.elim
theorem d_ite {cc : Expr} (hc : PT' X c cc t) (ha : PE' X c kd a f) (hb : PE' X c kd b g) : PE' X c kd (.IfExp cc a b pos) (eIf t f g) :=
  peI (pe_ifExp hc ha hb) fun σ H Q ⟨G, S, rel, p⟩ => rdT_go (g := fun b => if b then f S else g S) (Post := PostE c kd G S σ H Q) rel p (fun _ z => z) (fun z => z) fun b G' H' s p1 => by
    cases b with
    | true => exact ⟨G', S, rel.grow s, PostE.grow s p1⟩
    | false => exact ⟨G', S, rel.grow s, PostE.grow s p1⟩
end
end M
set_option Elab.async false
set_option linter.all false
set_option maxRecDepth 100000
set_option maxHeartbeats 4000000
namespace M
open PySem L2
abbrev PS' (X : Cx) (c : Cf) (fr : Bool) (as : List Nat) (st : Stmt) (s : FS) : Prop := PS X st (RdS c fr as s)
abbrev PB' (X : Cx) (c : Cf) (fr : Bool) (as : List Nat) (st : List Stmt) (s : FS) : Prop := PSs X st (RdS c fr as s)
section
variable {X : Cx} {c : Cf} {kd k1 k2 k3 : Kd} {a b e : Expr} {f g h : FE} {t u : FT} {pos : Pos} {fr : Bool} {as bs : List Nat} {s r : FS} {st : Stmt} {sts : List Stmt}
/-! ### transport -/
theorem PostS.mv {G G' H H' : Hp} {S S' : Env} {σ σ' : St} {Dn : Ends} {q : R (Fl × Env)} (hg : Ex G G') (fm : Frm as S σ H S' σ' H') (hs : ∀ i, i ∈ as ++ bs → i ∈ as ∨ i ∈ bs) (p : PostS c fr (as ++ bs) G S σ H Dn q) : PostS c fr bs G' S' σ' H' Dn q := by
  cases q with
  | exc x => exact p
  | fail => exact p
  | ok z =>
    obtain ⟨fl, S2⟩ := z
    cases fl with
    | nx => exact fun G2 σ2 H2 e r2 f2 => p G2 σ2 H2 (hg.trans e) r2 (fm.trans f2)
    | bk => exact fun G2 σ2 H2 e r2 f2 => p G2 σ2 H2 (hg.trans e) r2 (fm.trans f2)
    | ct => exact fun G2 σ2 H2 e r2 f2 => p G2 σ2 H2 (hg.trans e) r2 (fm.trans f2)
    | rt d => exact p
theorem PostS.sub {as' : List Nat} {G H : Hp} {S : Env} {σ : St} {Dn : Ends} {q : R (Fl × Env)} (hs : ∀ i, i ∈ as' → i ∈ as) (p : PostS c fr as G S σ H Dn q) : PostS c fr as' G S σ H Dn q := by
  cases q with
  | exc x => exact p
  | fail => exact p
  | ok z =>
    obtain ⟨fl, S2⟩ := z
    cases fl with
    | nx => exact fun G2 σ2 H2 e r2 f2 => p G2 σ2 H2 e r2 (f2.mono hs)
    | bk => exact fun G2 σ2 H2 e r2 f2 => p G2 σ2 H2 e r2 (f2.mono hs)
    | ct => exact fun G2 σ2 H2 e r2 f2 => p G2 σ2 H2 e r2 (f2.mono hs)
    | rt d => exact p
/-- behind a growing of the heap -/
theorem PostS.gr {G H G' H' : Hp} {S : Env} {σ : St} {Dn : Ends} {q : R (Fl × Env)} (rel : Rel c G S σ H) (sp : Step G H G' H') (p : PostS c fr as G S σ H Dn q) : PostS c fr as G' S σ H' Dn q :=
  PostS.mv (as := []) (bs := as) sp.g (Frm.step rel sp) (fun i h => .inr (by simpa using h)) p
/-! ### small statements -/
def sNil : FS := fun S => .ok (.nx, S)
def sBrk : FS := fun S => .ok (.bk, S)
def sCnt : FS := fun S => .ok (.ct, S)
def sSeq (s r : FS) : FS := fun S => s S >>= fun z => match z.1 with | .nx => r z.2 | _ => .ok z
def sSet (i : Nat) (f : FE) : FS := fun S => f S >>= fun d => .ok (.nx, S.set i (some ⟨false, d⟩))
def sOwn (i : Nat) (f : FE) : FS := fun S => f S >>= fun d => .ok (.nx, S.set i (some ⟨true, d⟩))
def sDrop (f : FE) : FS := fun S => f S >>= fun _ => .ok (.nx, S)
def sRet (f : FE) : FS := fun S => f S >>= fun d => .ok (.rt d, S)
def sRetN : FS := fun S => .ok (.rt .non, S)
/-- a slot's own object handed back -/
def eO (i : Nat) : FE := fun S => match S[i]? with
  | some (some ⟨true, d⟩) => .ok d
  | _ => .fail
def sRetO (i : Nat) : FS := fun S => eO i S >>= fun d => .ok (.rt d, S)
def sIf (t : FT) (s r : FS) : FS := fun S => t S >>= fun b => if b then s S else r S
def sNo : FS := fun _ => .fail
/-- a slot's own object is frozen ahead of a statement -/
def fzS (S : Env) (i : Nat) : Env := match S[i]? with
  | some (some ⟨true, d⟩) => S.set i (some ⟨false, d⟩)
  | _ => S
def sFz (i : Nat) (s : FS) : FS := fun S => s (fzS S i)
theorem b_nil : PB' X c fr [] [] sNil := pssI pss_nil fun Dn σ H ⟨G, S, rel, p⟩ => p G σ H (Ex.refl _) rel (Frm.refl _ _ _ _)
theorem s_pass : PS' X c fr [] (.Pass pos) sNil := psI ps_pass fun Dn σ H ⟨G, S, rel, p⟩ => p G σ H (Ex.refl _) rel (Frm.refl _ _ _ _)
theorem s_brk : PS' X c fr [] (.Break pos) sBrk := psI ps_break fun Dn σ H ⟨G, S, rel, p⟩ => p G σ H (Ex.refl _) rel (Frm.refl _ _ _ _)
theorem s_cnt : PS' X c fr [] (.Continue pos) sCnt := psI ps_continue fun Dn σ H ⟨G, S, rel, p⟩ => p G σ H (Ex.refl _) rel (Frm.refl _ _ _ _)
theorem s_no : PS' X c fr [] st sNo := psI ps_never fun Dn σ H ⟨G, S, rel, p⟩ => p
theorem b_no : PB' X c fr [] sts sNo := pssI pss_never fun Dn σ H ⟨G, S, rel, p⟩ => p
theorem b_cons (h1 : PS' X c fr as st s) (h2 : PB' X c fr bs sts r) : PB' X c fr (as ++ bs) (st :: sts) (sSeq s r) :=
  pssI (pss_cons h1 h2) fun Dn σ H ⟨G, S, rel, p⟩ => ⟨G, S, rel, by
    have p : PostS c fr (as ++ bs) G S σ H Dn (s S >>= fun z => match z.1 with | .nx => r z.2 | _ => .ok z) := p
    cases e1 : s S with
    | exc x => rw [e1] at p; exact p
    | fail => rw [e1] at p; exact p
    | ok z =>
      rw [e1] at p
      obtain ⟨fl, S1⟩ := z
      cases fl with
      | nx => exact fun G1 σ1 H1 ex r1 f1 => ⟨G1, S1, r1, PostS.mv (as := as) (bs := bs) ex f1 (fun i => List.mem_append.mp) p⟩
      | bk => exact PostS.sub (fun i q => List.mem_append_left _ q) p
      | ct => exact PostS.sub (fun i q => List.mem_append_left _ q) p
      | rt d => exact p⟩
theorem b_one (h1 : PS' X c fr as st s) : PB' X c fr as [st] s := pss_one h1
theorem s_fz (i : Nat) (h1 : PS' X c fr as st s) : PS' X c fr (i :: as) st (sFz i s) :=
  psI h1 fun Dn σ H ⟨G, S, rel, p⟩ => by
    have p : PostS c fr (i :: as) G S σ H Dn (s (fzS S i)) := p
    unfold fzS at p
    split at p
    · rename_i d hd
      obtain ⟨G', ex, rel'⟩ := rel.frz hd
      refine ⟨G', _, rel', PostS.mv (as := [i]) (bs := as) ex ⟨rfl, fun _ _ => rfl, fun j hj _ => ?_, fun _ _ _ _ _ => rfl⟩ (fun j q => by simpa using q) p⟩
      rw [List.getElem?_set_ne (fun z => hj (by simp [z]))]
    · exact ⟨G, S, rel, PostS.sub (fun j q => List.mem_cons_of_mem _ q) p⟩
/-! ### targets -/
abbrev PG' (X : Cx) (c : Cf) (as : List Nat) (e : Expr) (g : FG) : Prop := PG X e (RdG c as g)
abbrev FGs := List D → Env → R Env
def RdGs (c : Cf) (as : List Nat) (g : FGs) : TGs := fun vs σ H Q => ∃ G S ds, Rel c G S σ H ∧ RDs c.k G ds vs ∧ PostG c as G S σ H Q (g ds S)
abbrev PGs' (X : Cx) (c : Cf) (as : List Nat) (e : List Expr) (g : FGs) : Prop := PGs X e (RdGs c as g)
def gN (i : Nat) : FG := fun d S => .ok (S.set i (some ⟨false, d⟩))
def gsN : FGs := fun ds S => match ds with | [] => .ok S | _ => .fail
def gsC (g : FG) (r : FGs) : FGs := fun ds S => match ds with | d :: ds => g d S >>= r ds | [] => .fail
def gT (n : Nat) (r : FGs) : FG := fun d S => match d with | .tup ds => if ds.length = n then r ds S else .fail | _ => .fail
theorem Frm.set {S : Env} {σ : St} {H : Hp} (i : Nat) (x : Option Sl) (v : Option V) : Frm [i] S σ H (S.set i x) (σ.set i v) H :=
  ⟨by simp, fun j hj => List.getElem?_set_ne (fun z => hj (by simp [z])), fun j hj _ => List.getElem?_set_ne (fun z => hj (by simp [z])), fun _ _ _ _ _ => rfl⟩
theorem g_n (i : Nat) {x : Str} (hN : X.N.Nodup) (hi : X.N[i]? = some x := by rfl) (hx : Loc X.env.scope x := by first | exact Or.inl rfl | exact Or.inr rfl) (hf : X.fn x = true ∨ X.env.scope.names.lookup x = some .local := by first | exact .inl rfl | exact .inr rfl) : PG' X c [i] (.Name x pos) (gN i) :=
  pgI (pg_name hN hi hx hf) fun v σ H Q ⟨G, S, d, rel, q, p⟩ => p G _ H (Step.refl rel.st.gh) (rel.setS i q) (Frm.set i _ _)
theorem gs_n : PGs' X c [] [] gsN :=
  pgsI pgs_nil fun vs σ H Q ⟨G, S, ds, rel, q, p⟩ => by
    cases q with
    | nil => exact ⟨rfl, p G σ H (Step.refl rel.st.gh) rel (Frm.refl _ _ _ _)⟩
    | cons _ _ => exact p.elim
theorem gs_c {e : Expr} {es : List Expr} {ga : FG} {ra : FGs} (h1 : PG' X c as e ga) (h2 : PGs' X c bs es ra) (hs : (assignEach (e :: es) X.env).map (·.2) = assign e X.env :: (assignEach es X.env).map (·.2) := by rfl) : PGs' X c (as ++ bs) (e :: es) (gsC ga ra) :=
  pgsI (pgs_cons h1 h2 hs) fun vs σ H Q ⟨G, S, ds, rel, q, p⟩ => by
    cases q with
    | nil => exact p.elim
    | @cons d ds v vs q1 q2 =>
      refine ⟨v, vs, rfl, G, S, d, rel, q1, ?_⟩
      have p : PostG c (as ++ bs) G S σ H Q (ga d S >>= ra ds) := p
      cases e1 : ga d S with
      | exc x => rw [e1] at p; exact p.elim
      | fail => rw [e1] at p; exact p.elim
      | ok S1 =>
        rw [e1] at p
        refine fun G1 σ1 H1 ex r1 f1 => ⟨G1, S1, ds, r1, q2.mono ex.g, ?_⟩
        have p : PostG c (as ++ bs) G S σ H Q (ra ds S1) := p
        cases e2 : ra ds S1 with
        | exc x => rw [e2] at p; exact p.elim
        | fail => rw [e2] at p; exact p.elim
        | ok S2 => rw [e2] at p; exact fun G2 σ2 H2 ex2 r2 f2 => p G2 σ2 H2 (ex.trans ex2) r2 (f1.trans f2)
theorem g_t {es : List Expr} {k : Nat} {ra : FGs} {n : Nat} (hk : c.k.K = X.K) (hc : X.calm = true) (h : PGs' X c as es ra) (hn : (assignEach es X.env).length = n := by rfl) (hst : (assignEach es X.env).findIdx? (·.1) = none := by rfl) : PG' X c as (.Tuple es k pos) (gT n ra) :=
  pgI (pg_tup hc h hn hst) fun v σ H Q ⟨G, S, d, rel, q, p⟩ => by
    cases q with
    | @tup ds a vs hs hr =>
      have p : PostG c as G S σ H Q (if ds.length = n then ra ds S else .fail) := p
      by_cases hl : ds.length = n
      · rw [if_pos hl] at p
        exact ⟨a, vs, rfl, hk ▸ rel.st.gh.sqT hs.t, by rw [← hr.length]; exact hl, G, S, ds, rel, hr, p⟩
      · rw [if_neg hl] at p; exact p.elim
    | _ => exact p.elim
/-! ### assignments, expressions, return -/
def sAsg (g : FG) (f : FE) : FS := fun S => f S >>= fun d => (g d S).nox >>= fun S' => .ok (Fl.nx, S')
theorem asg_go {ga : FG} {tg : TG} {Dn : Ends} {σ : St} {H : Hp} (hg : ∀ v σ H Q, RdG c as ga v σ H Q → tg v σ H Q) (q : RdS c fr as (sAsg ga f) Dn σ H) : RdE c .st f σ H fun x H1 => tg x σ H1 Dn.nx := by
  obtain ⟨G, S, rel, p⟩ := q
  refine rdE_go (g := fun d => (ga d S).nox >>= fun S' => .ok (Fl.nx, S')) (Post := PostS c fr as G S σ H Dn) rel p (fun _ z => z _) (fun z => z) fun d v G' H' sp q p1 => ?_
  refine hg v σ H' _ ⟨G', S, d, rel.grow sp, q, ?_⟩
  cases e1 : ga d S with
  | exc x => rw [e1] at p1; exact p1.elim
  | fail => rw [e1] at p1; exact p1.elim
  | ok S1 =>
    rw [e1] at p1
    exact fun G2 σ2 H2 ex r2 f2 => p1 G2 σ2 H2 (sp.g.trans ex.g) r2 ((Frm.step (as := []) rel sp).trans f2)
theorem s_asg {tg : Expr} {ga : FG} (he : PE' X c .st e f) (hg : PG' X c as tg ga) (hs : swapsWithSole [tg] e pos.line X.env = pure false := by rfl) (hw : swappedStores [tg] e X.env = pure none := by rfl) (h1 : (assignEach [tg] X.env).map (·.2) = [assign tg X.env] := by rfl) : PS' X c fr as (.Assign [tg] e pos) (sAsg ga f) :=
  psI (ps_asg he hg hs hw h1) fun Dn σ H q => asg_go (fun _ _ _ _ z => z) q
theorem s_set (i : Nat) {x : Str} {pos' : Pos} (hN : X.N.Nodup) (he : PE' X c .st e f) (hi : X.N[i]? = some x := by rfl) (hx : Loc X.env.scope x := by first | exact Or.inl rfl | exact Or.inr rfl) (hs : swapsWith e (some (.Name x pos')) pos.line X.env = pure false := by rfl)
    (hf : X.fn x = true ∨ X.env.scope.names.lookup x = some .local := by first | exact .inl rfl | exact .inr rfl) : PS' X c fr [i] (.Assign [.Name x pos'] e pos) (sSet i f) :=
  psI (ps_set hN hi hx he hs hf) fun Dn σ H ⟨G, S, rel, p⟩ => by
    refine rdE_go (g := fun d => .ok (Fl.nx, S.set i (some ⟨false, d⟩))) (Post := PostS c fr [i] G S σ H Dn) rel p (fun _ z => z _) (fun z => z) fun d v G' H' sp q p1 => ?_
    exact p1 G' _ H' sp.g ((rel.grow sp).setS i q) ((Frm.step (as := []) rel sp).trans (Frm.set i _ _))
/-- a new object goes to a slot that owns it -/
theorem own_go {i : Nat} {Dn : Ends} {σ : St} {H : Hp} (q : RdS c fr [i] (sOwn i f) Dn σ H) : RdE c .fr f σ H fun x H1 => gName i x σ H1 Dn.nx := by
  obtain ⟨G, S, rel, p⟩ := q
  refine rdE_go (g := fun d => .ok (Fl.nx, S.set i (some ⟨true, d⟩))) (Post := PostS c fr [i] G S σ H Dn) rel p (fun _ z => z _) (fun z => z) fun d v G' H' sp q p1 => ?_
  obtain ⟨a, o, rfl, hg, hn, ha, ct⟩ := q
  refine p1 G' _ H' sp.g ((rel.grow sp).setO i ha hg (rel.st.h.free hn) ct (fun j ow => ?_) (fun _ _ => rfl)) ((Frm.step (as := []) rel sp).trans (Frm.set i _ _))
  obtain ⟨_, _, u, _, q, _⟩ := rel.own ow
  rw [hn] at q; cases q
theorem s_own (i : Nat) {x : Str} {pos' : Pos} (hN : X.N.Nodup) (he : PE' X c .fr e f) (hi : X.N[i]? = some x := by rfl) (hx : Loc X.env.scope x := by first | exact Or.inl rfl | exact Or.inr rfl) (hs : swapsWith e (some (.Name x pos')) pos.line X.env = pure false := by rfl)
    (hf : X.fn x = true ∨ X.env.scope.names.lookup x = some .local := by first | exact .inl rfl | exact .inr rfl) : PS' X c fr [i] (.Assign [.Name x pos'] e pos) (sOwn i f) :=
  psI (ps_set hN hi hx he hs hf) fun Dn σ H q => own_go q
theorem s_drop (he : PE' X c kd e f) (hs : swapsWith e none pos.line X.env = pure false := by rfl) : PS' X c fr [] (.Expr e pos) (sDrop f) :=
  psI (ps_expr he hs) fun Dn σ H ⟨G, S, rel, p⟩ => by
    refine rdE_go (g := fun d => .ok (Fl.nx, S)) (Post := PostS c fr [] G S σ H Dn) rel p (fun _ z => z _) (fun z => z) fun d v G' H' sp q p1 => ?_
    exact p1 G' σ H' sp.g (rel.grow sp) (Frm.step rel sp)
theorem s_ret (he : PE' X c .st e f) : PS' X c false [] (.Return (some e) pos) (sRet f) :=
  psI (ps_ret he) fun Dn σ H ⟨G, S, rel, p⟩ => by
    refine rdE_go (g := fun d => .ok (Fl.rt d, S)) (Post := PostS c false [] G S σ H Dn) rel p (fun _ z => z _) (fun z => z) fun d v G' H' sp q p1 => ?_
    exact p1 v G' H' (rel.st.trans sp) q
theorem s_retF (he : PE' X c .fr e f) : PS' X c true [] (.Return (some e) pos) (sRet f) :=
  psI (ps_ret he) fun Dn σ H ⟨G, S, rel, p⟩ => by
    refine rdE_go (g := fun d => .ok (Fl.rt d, S)) (Post := PostS c true [] G S σ H Dn) rel p (fun _ z => z _) (fun z => z) fun d v G' H' sp q p1 => ?_
    obtain ⟨a, o, rfl, hg, hn, ha, ct⟩ := q
    exact p1 _ G' H' (rel.st.trans sp) ⟨a, o, rfl, hg, rel.st.h.free hn, ha, ct⟩
theorem s_retO (i : Nat) {x : Str} {p' : Pos} (hN : X.N[i]? = some x := by rfl) (hv : Vis X.env.scope x := by first | exact Or.inl rfl | exact Or.inr (Or.inl rfl) | exact Or.inr (Or.inr rfl)) (hd : (x == ("__debug__" : Str)) = false := by decide)
    (hcd : (x == ("__classdict__" : Str)) = false := by decide) : PS' X c true [] (.Return (some (.Name x p')) pos) (sRetO i) :=
  psI (ps_ret (pe_var hN hv hd hcd)) fun Dn σ H ⟨G, S, rel, p⟩ => by
    have p : PostS c true [] G S σ H Dn (eO i S >>= fun d => .ok (.rt d, S)) := p
    unfold eO at p
    split at p
    · rename_i d hd
      obtain ⟨a, o, e1, hg, h0, ho, ct⟩ := rel.ow i d hd
      exact ⟨_, e1, p _ G H rel.st ⟨a, o, rfl, hg, h0, ho, ct⟩⟩
    · exact p.elim
theorem s_retN : PS' X c false [] (.Return none pos) sRetN :=
  psI ps_retN fun Dn σ H ⟨G, S, rel, p⟩ => p .non G H rel.st .non
theorem s_if {cc : Expr} {aa bb : List Stmt} (hc : PT' X c cc t) (ha : PB' X c fr as aa s) (hb : PB' X c fr bs bb r) : PS' X c fr (as ++ bs) (.If cc aa bb pos) (sIf t s r) :=
  psI (ps_if hc ha hb) fun Dn σ H ⟨G, S, rel, p⟩ => rdT_go (g := fun b => if b then s S else r S) (Post := PostS c fr (as ++ bs) G S σ H Dn) rel p (fun _ z => z _) (fun z => z) fun b G' H' sp p1 => by
    cases b with
    | true => exact ⟨G', S, rel.grow sp, PostS.sub (fun i q => List.mem_append_left _ q) (PostS.gr rel sp p1)⟩
    | false => exact ⟨G', S, rel.grow sp, PostS.sub (fun i q => List.mem_append_right _ q) (PostS.gr rel sp p1)⟩
/-! ### while -/
def whileF (t : FT) (s : FS) : Nat → FS
  | 0 => fun _ => .fail
  | n + 1 => fun S => t S >>= fun b => if b then s S >>= fun z => match z.1 with
    | .nx => whileF t s n z.2
    | .ct => whileF t s n z.2
    | .bk => .ok (.nx, z.2)
    | .rt d => .ok (.rt d, z.2) else .ok (.nx, S)
theorem s_while (n : Nat) {cc : Expr} {body : List Stmt} (hp : PassesOwn (model X.prog X.w) X.A X.env X.xe) (hc : PT' X c cc t) (hb : PB' X c fr as body s) : PS' X c fr as (.While cc body [] pos) (whileF t s n) :=
  psI (ps_while hp hc hb) fun Dn σ H ⟨G, S, rel, p⟩ => by
    refine ⟨fun m σ1 H1 => ∃ G1 S1, Rel c G1 S1 σ1 H1 ∧ Ex G G1 ∧ Frm as S σ H S1 σ1 H1 ∧ PostS c fr as G S σ H Dn (whileF t s m S1), ⟨n, G, S, rel, Ex.refl _, Frm.refl _ _ _ _, p⟩, ?_⟩
    rintro m σ1 H1 ⟨G1, S1, r1, ex1, f1, p1⟩
    cases m with
    | zero => exact p1.elim
    | succ m =>
      refine rdT_go (g := fun b => if b then s S1 >>= fun z => match z.1 with
        | .nx => whileF t s m z.2
        | .ct => whileF t s m z.2
        | .bk => .ok (.nx, z.2)
        | .rt d => .ok (.rt d, z.2) else .ok (.nx, S1)) (Post := PostS c fr as G S σ H Dn) r1 p1 (fun _ z => z _) (fun z => z) fun b G2 H2 sp p2 => ?_
      have f2 : Frm as S σ H S1 σ1 H2 := (f1.trans (Frm.step (as := []) r1 sp)).mono (fun i q => by simpa using q)
      cases b with
      | false => exact p2 G2 σ1 H2 (ex1.trans sp.g) (r1.grow sp) f2
      | true =>
        rw [if_pos rfl] at p2 ⊢
        refine ⟨fun σ' H' => ∃ G3 S3, Rel c G3 S3 σ' H' ∧ Ex G G3 ∧ Frm as S σ H S3 σ' H' ∧ PostS c fr as G S σ H Dn (whileF t s m S3), fun σ' H' q => ⟨m, Nat.lt_succ_self m, q⟩, G2, S1, r1.grow sp, ?_⟩
        cases e1 : s S1 with
        | exc x => rw [e1] at p2; exact p2
        | fail => rw [e1] at p2; exact p2
        | ok z =>
          rw [e1] at p2
          obtain ⟨fl, S3⟩ := z
          have fin : ∀ {σ3 : St} {H3 : Hp}, Frm as S1 σ1 H2 S3 σ3 H3 → Frm as S σ H S3 σ3 H3 := fun f3 => (f2.trans f3).mono (fun i q => by simpa using q)
          cases fl with
          | nx => exact fun G3 σ3 H3 e3 r3 f3 => ⟨G3, S3, r3, (ex1.trans sp.g).trans e3, fin f3, p2⟩
          | ct => exact fun G3 σ3 H3 e3 r3 f3 => ⟨G3, S3, r3, (ex1.trans sp.g).trans e3, fin f3, p2⟩
          | bk => exact fun G3 σ3 H3 e3 r3 f3 => p2 G3 σ3 H3 ((ex1.trans sp.g).trans e3) r3 (fin f3)
          | rt d => exact p2
/-! ### what is walked -/
/-- the iterator J gives the items ds, while the slots ki keep what they own -/
def Itm (k : Kn) (ki : List Nat) (G1 : Hp) (S : Env) (σ : St) (H1 : Hp) (J : It) (ds : List D) : Prop :=
  ∀ G H, Ex G1 G → Ex G H → (∀ i, i ∈ ki → ∀ a, OwnAt S σ i a → H a = H1 a) → (∀ i : Nat, ds.length ≤ i → J.stop i H) ∧ ∀ (i : Nat) (d : D), ds[i]? = some d → J.go i H ∧ ∀ x H', J.yld i H x H' → ∃ G', Step G H G' H' ∧ RD k G' d x
abbrev FI := Env → R (List D)
def PostI (c : Cf) (ki : List Nat) (G : Hp) (S : Env) (σ : St) (H : Hp) (Q : It → Hp → Prop) : R (List D) → Prop
  | .ok ds => ∀ J G' H', Step G H G' H' → Itm c.k ki G' S σ H' J ds → Q J H'
  | .exc x => PX c σ x
  | .fail => False
def RdI (c : Cf) (ki : List Nat) (f : FI) : TI := fun σ H Q => ∃ G S, Rel c G S σ H ∧ PostI c ki G S σ H Q (f S)
abbrev PI' (X : Cx) (c : Cf) (ki : List Nat) (tg e : Expr) (f : FI) : Prop := PI X tg e (RdI c ki f)
/-- a for's turns -/
def forF (g : FG) (s : FS) : List D → FS
  | [] => fun S => .ok (.nx, S)
  | d :: ds => fun S => (g d S).nox >>= fun S1 => s S1 >>= fun z => match z.1 with
    | .nx => forF g s ds z.2
    | .ct => forF g s ds z.2
    | .bk => .ok (.nx, z.2)
    | .rt d => .ok (.rt d, z.2)
def sFor (i : FI) (g : FG) (s : FS) : FS := fun S => i S >>= fun ds => forF g s ds S
theorem s_for {tg iter : Expr} {body : List Stmt} {ki gs : List Nat} {fi : FI} {ga : FG} (hp : PassesOwn (model X.prog X.w) X.A X.env X.xe) (hc : X.calm = true) (hi : PI' X c ki tg iter fi) (hg : PG' X c gs tg ga) (hb : PB' X c fr as body s)
    (hki : ∀ i, i ∈ ki → i ∉ gs ++ as ∧ i + 1000 ∉ gs ++ as := by decide) (hs : ∀ x, foldedSetIterable iter X.env x = pure x := by intro _; rfl) : PS' X c fr (gs ++ as) (.For tg iter body [] pos) (sFor fi ga s) :=
  psI (ps_for hp hc hi hg hb hs) fun Dn σ H ⟨G, S, rel, p⟩ => by
    refine ⟨G, S, rel, ?_⟩
    have p : PostS c fr (gs ++ as) G S σ H Dn (fi S >>= fun ds => forF ga s ds S) := p
    cases e0 : fi S with
    | exc x => rw [e0] at p; exact p _
    | fail => rw [e0] at p; exact p
    | ok ds =>
      rw [e0] at p
      have p : PostS c fr (gs ++ as) G S σ H Dn (forF ga s ds S) := p
      intro J G0 H0 sp it
      refine ⟨fun i m σ1 H1 => m = ds.length - i ∧ i ≤ ds.length ∧ ∃ G1 S1, Rel c G1 S1 σ1 H1 ∧ Ex G0 G1 ∧ Frm (gs ++ as) S σ H0 S1 σ1 H1 ∧ PostS c fr (gs ++ as) G S σ H Dn (forF ga s (ds.drop i) S1),
        ⟨_, rfl, Nat.zero_le _, G0, S, rel.grow sp, Ex.refl _, Frm.refl _ _ _ _, by simpa using p⟩, ?_⟩
      rintro i m σ1 H1 ⟨rfl, hle, G1, S1, r1, ex1, f1, p1⟩
      have keep : ∀ j, j ∈ ki → ∀ a, OwnAt S σ j a → H1 a = H0 a := fun j hj a ow => f1.ow j a (hki j hj).1 (hki j hj).2 ow
      have itm := it G1 H1 ex1 r1.st.gh keep
      have fm : Frm (gs ++ as) S σ H S1 σ1 H1 := ((Frm.step (as := []) rel sp).trans f1).mono (fun i q => by simpa using q)
      by_cases hlt : i < ds.length
      · obtain ⟨d, hd⟩ : ∃ d, ds[i]? = some d := ⟨ds[i], List.getElem?_eq_getElem hlt⟩
        have hdrop : ds.drop i = d :: ds.drop (i + 1) := by
          rw [List.drop_eq_getElem_cons hlt]; congr 1; rw [List.getElem?_eq_getElem hlt] at hd; exact Option.some.inj hd
        rw [hdrop] at p1
        obtain ⟨hgo, hy⟩ := itm.2 i d hd
        refine .inr ⟨hgo, fun σ' H' => ∃ G3 S3, Rel c G3 S3 σ' H' ∧ Ex G0 G3 ∧ Frm (gs ++ as) S σ H0 S3 σ' H' ∧ PostS c fr (gs ++ as) G S σ H Dn (forF ga s (ds.drop (i + 1)) S3), fun σ' H' q => ⟨ds.length - (i + 1), by omega, rfl, hlt, q⟩, fun x H2 hx => ?_⟩
        obtain ⟨G2, sp2, hd2⟩ := hy x H2 hx
        refine ⟨G2, S1, d, r1.grow sp2, hd2, ?_⟩
        have p1 : PostS c fr (gs ++ as) G S σ H Dn ((ga d S1).nox >>= fun S1 => s S1 >>= fun z => match z.1 with
          | .nx => forF ga s (ds.drop (i + 1)) z.2
          | .ct => forF ga s (ds.drop (i + 1)) z.2
          | .bk => .ok (.nx, z.2)
          | .rt d => .ok (.rt d, z.2)) := p1
        cases e1 : ga d S1 with
        | exc x => rw [e1] at p1; exact p1.elim
        | fail => rw [e1] at p1; exact p1.elim
        | ok S2 =>
          rw [e1] at p1
          refine fun G3 σ3 H3 e3 r3 f3 => ⟨G3, S2, r3, ?_⟩
          have f03 : Frm (gs ++ as) S σ H0 S2 σ3 H3 := (f1.trans ((Frm.step (as := []) r1 sp2).trans f3)).mono (fun i q => by simp only [List.mem_append, List.not_mem_nil, false_or] at q ⊢; rcases q with q | q; exact q; exact .inl q)
          have p1 : PostS c fr (gs ++ as) G S σ H Dn (s S2 >>= fun z => match z.1 with
            | .nx => forF ga s (ds.drop (i + 1)) z.2
            | .ct => forF ga s (ds.drop (i + 1)) z.2
            | .bk => .ok (.nx, z.2)
            | .rt d => .ok (.rt d, z.2)) := p1
          have g03 : Ex G0 G3 := (ex1.trans sp2.g).trans e3.g
          cases e2 : s S2 with
          | exc x => rw [e2] at p1; exact p1
          | fail => rw [e2] at p1; exact p1
          | ok z =>
            rw [e2] at p1
            obtain ⟨fl, S4⟩ := z
            have fin : ∀ {σ4 : St} {H4 : Hp}, Frm as S2 σ3 H3 S4 σ4 H4 → Frm (gs ++ as) S σ H0 S4 σ4 H4 := fun f4 => (f03.trans f4).mono (fun i q => by simp only [List.mem_append] at q ⊢; rcases q with q | q; exact q; exact .inr q)
            have fin2 : ∀ {σ4 : St} {H4 : Hp}, Frm as S2 σ3 H3 S4 σ4 H4 → Frm (gs ++ as) S σ H S4 σ4 H4 := fun f4 => ((Frm.step (as := []) rel sp).trans (fin f4)).mono (fun i q => by simpa using q)
            cases fl with
            | nx => exact fun G4 σ4 H4 e4 r4 f4 => ⟨G4, S4, r4, g03.trans e4, fin f4, p1⟩
            | ct => exact fun G4 σ4 H4 e4 r4 f4 => ⟨G4, S4, r4, g03.trans e4, fin f4, p1⟩
            | bk => exact fun G4 σ4 H4 e4 r4 f4 => p1 G4 σ4 H4 ((sp.g.trans g03).trans e4) r4 (fin2 f4)
            | rt d => exact p1
      · have hi : i = ds.length := by omega
        subst hi
        rw [List.drop_length] at p1
        exact .inl ⟨itm.1 _ (Nat.le_refl _), p1 G1 σ1 H1 (sp.g.trans ex1) r1 fm⟩
end
end M
set_option Elab.async false
set_option linter.all false
set_option maxRecDepth 100000
set_option maxHeartbeats 4000000
namespace M
open PySem L2
section
variable {X : Cx} {c : Cf} {kd k1 k2 k3 : Kd} {a b e tg : Expr} {f g h : FE} {t u : FT} {pos : Pos} {fr : Bool} {as bs : List Nat} {s r : FS}
/-! ### sequences walked -/
def chrs (x : Str) : List D := x.cps.toList.map fun n => .str ⟨#[n]⟩
def itemsD : D → R (List D)
  | .lst ds => .ok ds
  | .tup ds => .ok ds
  | .scr ns => .ok (ns.map .int)
  | .str x => .ok (chrs x)
  | _ => .fail
theorem itm_list {k : Kn} {ki : List Nat} {G1 H1 : Hp} {S : Env} {σ : St} {K : PySem.W.Frag} {ds : List D} {vs : List V} {p : Addr} (hr : RDs k G1 ds vs) (hs : ∀ G H, Ex G1 G → Ex G H → (∀ i, i ∈ ki → ∀ a, OwnAt S σ i a → H a = H1 a) → SqL K H p vs)
    : Itm k ki G1 S σ H1 (Itl K p) ds := fun G H e1 e2 kp => by
  have q := hs G H e1 e2 kp
  refine ⟨fun i hi => ⟨vs, q, by rw [← hr.length]; exact hi⟩, fun i d hd => ?_⟩
  obtain ⟨v, hv, r⟩ := (hr.mono e1).get hd
  refine ⟨⟨vs, v, q, hv⟩, fun x H' hx => ?_⟩
  obtain ⟨rfl, hy⟩ := hx
  have := hy vs q
  rw [hv] at this; cases this
  exact ⟨G, Step.refl e2, r⟩
theorem itm_tup {k : Kn} {ki : List Nat} {G1 H1 : Hp} {S : Env} {σ : St} {K : PySem.W.Frag} {ds : List D} {vs : List V} {p : Addr} (hr : RDs k G1 ds vs) (hs : SqT K G1 p vs) : Itm k ki G1 S σ H1 (Itt K p) ds := fun G H e1 e2 kp => by
  have q := e2.sqT (e1.sqT hs)
  refine ⟨fun i hi => ⟨vs, q, by rw [← hr.length]; exact hi⟩, fun i d hd => ?_⟩
  obtain ⟨v, hv, r⟩ := (hr.mono e1).get hd
  refine ⟨⟨vs, v, q, hv⟩, fun x H' hx => ?_⟩
  obtain ⟨rfl, hy⟩ := hx
  have := hy vs q
  rw [hv] at this; cases this
  exact ⟨G, Step.refl e2, r⟩
theorem itm_str {k : Kn} {ki : List Nat} {G1 H1 : Hp} {S : Env} {σ : St} (x : Str) : Itm k ki G1 S σ H1 (Its x) (chrs x) := fun G H e1 e2 kp => by
  refine ⟨fun i hi => ?_, fun i d hd => ?_⟩
  · show x.cps.size ≤ i
    simpa [chrs] using hi
  · unfold chrs at hd
    rw [List.getElem?_map] at hd
    cases q : x.cps.toList[i]? with
    | none => rw [q] at hd; cases hd
    | some n =>
      rw [q] at hd; cases hd
      have q' : x.cps[i]? = some n := by simpa using q
      refine ⟨?_, fun y H' hy => ?_⟩
      · have := (Array.getElem?_eq_some_iff.mp q').1
        exact this
      · obtain ⟨e3, n', q2, e4⟩ := hy
        subst e3; subst e4
        rw [q'] at q2; cases q2
        exact ⟨G, Step.refl e2, .str _⟩
/-- a value of any of these kinds -/
theorem i_seq (hk : c.k.K = X.K) (he : PE' X c .st e f) : PI' X c [] tg e (fun S => f S >>= itemsD) := by
  refine ⟨fun pins st σ H Rq I q => ?_⟩
  obtain ⟨G, S, rel, p⟩ := q
  have p : PostI c [] G S σ H Rq (f S >>= itemsD) := p
  cases e1 : f S with
  | exc x => exact (pi_list he).run pins st σ H Rq I ⟨G, S, rel, by rw [e1] at p ⊢; exact p⟩
  | fail => rw [e1] at p; exact p.elim
  | ok d =>
    rw [e1] at p
    cases d with
    | lst ds =>
      refine (pi_list he).run pins st σ H Rq I ⟨G, S, rel, ?_⟩
      rw [e1]
      intro v G' H' sp q
      cases q with
      | lst h r => exact ⟨_, rfl, ⟨_, SqL.of (sp.gh _ _ h)⟩, p _ G' H' sp (itm_list r fun G2 H2 a1 a2 _ => SqL.of (a2 _ _ (a1 _ _ h)))⟩
    | scr ns =>
      refine (pi_list he).run pins st σ H Rq I ⟨G, S, rel, ?_⟩
      rw [e1]
      intro v G' H' sp q
      cases q with
      | scr h => exact ⟨_, rfl, ⟨_, hk ▸ sp.gh.sqL h⟩, p _ G' H' sp (itm_list (RDs.ints ns) fun G2 H2 a1 a2 _ => hk ▸ a2.sqL (a1.sqL h))⟩
    | tup ds =>
      refine (pi_tup he).run pins st σ H Rq I ⟨G, S, rel, ?_⟩
      rw [e1]
      intro v G' H' sp q
      cases q with
      | tup h r => exact ⟨_, rfl, ⟨_, hk ▸ sp.gh.sqT h.t⟩, p _ G' H' sp (itm_tup r (hk ▸ h.t))⟩
    | str x =>
      refine (pi_str he).run pins st σ H Rq I ⟨G, S, rel, ?_⟩
      rw [e1]
      intro v G' H' sp q
      cases q with
      | str => exact ⟨_, rfl, p _ G' H' sp (itm_str x)⟩
    | _ => exact p.elim
/-- a slot's own list -/
theorem i_own (i : Nat) {x : Str} (hN : X.N[i]? = some x := by rfl) (hv : Vis X.env.scope x := by first | exact Or.inl rfl | exact Or.inr (Or.inl rfl) | exact Or.inr (Or.inr rfl)) (hd : (x == ("__debug__" : Str)) = false := by decide)
    (hcd : (x == ("__classdict__" : Str)) = false := by decide) : PI' X c [i] tg (.Name x pos) (fun S => eO i S >>= itemsD) :=
  piI (pi_list (pe_var hN hv hd hcd)) fun σ H Rq ⟨G, S, rel, p⟩ => by
    have p : PostI c [i] G S σ H Rq (eO i S >>= itemsD) := p
    unfold eO at p
    split at p
    · rename_i d hd
      obtain ⟨a, o, e1, hg, h0, ho, ct⟩ := rel.ow i d hd
      cases ct with
      | lst r =>
        refine ⟨_, e1, a, rfl, ⟨_, SqL.of ho⟩, p _ G H (Step.refl rel.st.gh) (itm_list r fun G2 H2 a1 a2 kp => SqL.of ?_)⟩
        rw [kp i (by simp) a ⟨⟨_, hd⟩, e1⟩]; exact ho
      | _ => exact p.elim
    · exact p.elim
/-! ### ranges -/
def rngL (lo : Int) (n : Nat) : List D := (List.range n).map fun (i : Nat) => .int (lo + i)
def rng1 : List D → R (List D)
  | [.int j] => if -(2 ^ 62) ≤ j ∧ j < 2 ^ 62 then .ok (rngL 0 j.toNat) else .fail
  | _ => .fail
def rng2 : List D → R (List D)
  | [.int i, .int j] => if -(2 ^ 62) ≤ i ∧ i < 2 ^ 62 ∧ -(2 ^ 62) ≤ j ∧ j < 2 ^ 62 then .ok (rngL i (j - i).toNat) else .fail
  | _ => .fail
theorem itm_rng {k : Kn} {ki : List Nat} {G1 H1 : Hp} {S : Env} {σ : St} (lo : Int) (n : Nat) : Itm k ki G1 S σ H1 (Itr lo n) (rngL lo n) := fun G H e1 e2 kp => by
  refine ⟨fun i hi => (by simpa [rngL] using hi : n ≤ i), fun i d hd => ?_⟩
  unfold rngL at hd
  rw [List.getElem?_map] at hd
  have hi : i < n := by
    rcases Nat.lt_or_ge i n with z | z
    · exact z
    · rw [List.getElem?_eq_none (by simpa using z)] at hd; cases hd
  rw [List.getElem?_range hi] at hd
  cases hd
  refine ⟨hi, fun x H' hx => ?_⟩
  obtain ⟨rfl, rfl⟩ := hx
  exact ⟨G, Step.refl e2, .int _⟩
theorem i_rng1 {p : Pos} {fa : FA} {ba : Bool} (hm : X.mg "range" = none) (ha : PA' X c ba [a] fa) (hg : Gl X "range" := by rfl) (hs : starEach [a] X.env = [(false, eval a X.env)] := by rfl) : PI' X c [] tg (.Call (.Name "range" p) [a] [] pos) (fun S => fa S >>= rng1) :=
  piI (pi_range1 hg hm ha hs) fun σ H Rq ⟨G, S, rel, p⟩ => by
    refine rdA_go (g := rng1) (Post := PostI c [] G S σ H Rq) rel p (fun _ z => z) (fun z => z) fun ds vs G' H' sp q p1 => ?_
    rcases ds with _ | ⟨d1, _ | ⟨d2, dr⟩⟩
    · exact p1.elim
    · cases d1 with
      | int j =>
        have p1 : PostI c [] G S σ H Rq (if -(2 ^ 62) ≤ j ∧ j < 2 ^ 62 then .ok (rngL 0 j.toNat) else .fail) := p1
        cases q.nows with
        | cons n1 n2 =>
          cases n2
          obtain rfl := n1.int
          by_cases hj : -(2 ^ 62) ≤ j ∧ j < 2 ^ 62
          · rw [if_pos hj] at p1
            exact ⟨j, rfl, hj.1, hj.2, p1 _ G' H' sp (itm_rng 0 _)⟩
          · rw [if_neg hj] at p1; exact p1.elim
      | _ => exact p1.elim
    · cases d1 <;> exact p1.elim
theorem i_rng2 {p : Pos} {fa : FA} {ba : Bool} (hm : X.mg "range" = none) (ha : PA' X c ba [a, b] fa) (hg : Gl X "range" := by rfl) (hs : starEach [a, b] X.env = [(false, eval a X.env), (false, eval b X.env)] := by rfl) (hs2 : starEach [b] X.env = [(false, eval b X.env)] := by rfl) :
    PI' X c [] tg (.Call (.Name "range" p) [a, b] [] pos) (fun S => fa S >>= rng2) :=
  piI (pi_range2 hg hm ha hs hs2) fun σ H Rq ⟨G, S, rel, p⟩ => by
    refine rdA_go (g := rng2) (Post := PostI c [] G S σ H Rq) rel p (fun _ z => z) (fun z => z) fun ds vs G' H' sp q p1 => ?_
    rcases ds with _ | ⟨d1, _ | ⟨d2, _ | ⟨d3, dr⟩⟩⟩
    · exact p1.elim
    · cases d1 <;> exact p1.elim
    · cases d1 with
      | int i =>
        cases d2 with
        | int j =>
          have p1 : PostI c [] G S σ H Rq (if -(2 ^ 62) ≤ i ∧ i < 2 ^ 62 ∧ -(2 ^ 62) ≤ j ∧ j < 2 ^ 62 then .ok (rngL i (j - i).toNat) else .fail) := p1
          cases q.nows with
          | cons n1 n2 =>
            cases n2 with
            | cons n2 n3 =>
              cases n3
              obtain rfl := n1.int
              obtain rfl := n2.int
              by_cases hj : -(2 ^ 62) ≤ i ∧ i < 2 ^ 62 ∧ -(2 ^ 62) ≤ j ∧ j < 2 ^ 62
              · rw [if_pos hj] at p1
                exact ⟨i, j, rfl, hj, p1 _ G' H' sp (itm_rng i _)⟩
              · rw [if_neg hj] at p1; exact p1.elim
        | _ => exact p1.elim
      | _ => exact p1.elim
    · cases d1 <;> first | exact p1.elim | (cases d2 <;> exact p1.elim)
/-! ### comprehensions -/
theorem Rel.cw {c : Cf} {W : WX} {G H : Hp} {S : Env} {σ : St} (r : Rel c G S σ H) : Rel { c with W := W } G S σ H := ⟨r.st, r.len, r.fz, r.ow, r.nd⟩
theorem wipe_in {i : Nat} : ∀ {vs : List Nat} {σ : St}, i ∈ vs → i < σ.length → (L2.wipe σ vs)[i]? = some none
  | v :: vs, σ, hm, hi => by
    unfold L2.wipe
    by_cases h : v = i
    · subst h; rw [List.getElem?_set_self (by rw [wipe_length]; exact hi)]
    · rw [List.getElem?_set_ne h]
      exact wipe_in (by rcases List.mem_cons.mp hm with z | z; exact absurd z.symm h; exact z) hi
theorem wipe_eq {vs : List Nat} {σ σ' : St} (hl : σ'.length = σ.length) (h : ∀ (i : Nat), i ∉ vs → σ'[i]? = (L2.wipe σ vs)[i]?) : L2.wipe σ' vs = L2.wipe σ vs := by
  apply List.ext_getElem?
  intro i
  by_cases hm : i ∈ vs
  · by_cases hi : i < σ.length
    · rw [wipe_in hm hi, wipe_in hm (by rw [hl]; exact hi)]
    · rw [List.getElem?_eq_none (by rw [wipe_length, hl]; omega), List.getElem?_eq_none (by rw [wipe_length]; omega)]
  · rw [wipe_out hm, h i hm]
/-- the block's frame: nothing is raised -/
abbrev Cf.nx (c : Cf) : Cf := { c with W := liftX E0 }
abbrev PTs' (X : Cx) (c : Cf) (ifs : List Expr) (t : FT) : Prop := PTs X ifs (RdT c t)
def tY : FT := fun _ => .ok true
theorem ts_n : PTs' X c [] tY := ptsI pts_nil fun σ H Q ⟨G, S, rel, p⟩ => p G H (Step.refl rel.st.gh)
theorem ts_1 (h : PT' X c a t) : PTs' X c [a] t := pts_one h
def lcF (ga : FG) (t : FT) (fe : FE) (S : Env) : List D → R (List D)
  | [] => .ok []
  | d :: ds => (ga d S).nox >>= fun S1 => (t S1).nox >>= fun b => if b then (fe S1).nox >>= fun y => lcF ga t fe S ds >>= fun ys => .ok (y :: ys) else lcF ga t fe S ds
def lcE (fi : FI) (ga : FG) (t : FT) (fe : FE) (vs : List Nat) : FE := fun S => fi S >>= fun ds => if ds.length ≤ sizeLine then lcF ga t fe (wipeS S vs) ds >>= fun ys => .ok (.lst ys) else .fail
theorem lcF_exc {ga : FG} {t : FT} {fe : FE} {S : Env} {x : Exc} : ∀ ds, lcF ga t fe S ds ≠ .exc x
  | [] => by intro h; cases h
  | d :: ds => by
    intro h
    unfold lcF at h
    cases e1 : ga d S <;> rw [e1] at h <;> first | (cases h; done) | skip
    simp only [R.nox_ok, R.ok_bind] at h
    rename_i S1
    cases e2 : t S1 <;> rw [e2] at h <;> first | (cases h; done) | skip
    simp only [R.nox_ok, R.ok_bind] at h
    rename_i b
    cases b with
    | false => exact lcF_exc ds h
    | true =>
      rw [if_pos rfl] at h
      cases e3 : fe S1 <;> rw [e3] at h <;> first | (cases h; done) | skip
      simp only [R.nox_ok, R.ok_bind] at h
      cases e4 : lcF ga t fe S ds with
      | ok ys => rw [e4] at h; cases h
      | exc y => exact lcF_exc ds e4
      | fail => rw [e4] at h; cases h
theorem lc_go {ki gs vs : List Nat} {fi : FI} {ga : FG} {fe : FE} {σ : St} {H : Hp} {Q : VK} {gi : TG} {tt : TT} {te : TE} (hg : ∀ v σ H Q, RdG c.nx gs ga v σ H Q → gi v σ H Q) (ht : ∀ σ H Q, RdT c.nx t σ H Q → tt σ H Q) (he : ∀ σ H Q, RdE c.nx .st fe σ H Q → te σ H Q)
    (hgs : ∀ i, i ∈ gs → i ∈ vs) (q : RdE c .fr (lcE fi ga t fe vs) σ H Q) : tLc (RdI c ki fi) gi tt te vs σ H Q := by
  obtain ⟨G, S, rel, p⟩ := q
  refine ⟨G, S, rel, ?_⟩
  have p : PostE c .fr G S σ H Q (fi S >>= fun ds => if ds.length ≤ sizeLine then lcF ga t fe (wipeS S vs) ds >>= fun ys => .ok (.lst ys) else .fail) := p
  cases e0 : fi S with
  | exc x => rw [e0] at p; exact p
  | fail => rw [e0] at p; exact p
  | ok ds =>
    rw [e0, R.ok_bind] at p
    by_cases hz : ds.length ≤ sizeLine
    · rw [if_pos hz] at p
      intro J G1 H1 sp it Dl hD
      have relb := ((rel.grow sp).wipe vs).cw (W := liftX E0)
      have hD0 : H Dl = none := sp.h.free hD
      refine ⟨fun i m H2 => m = ds.length - i ∧ i ≤ ds.length ∧ ∃ G2 ac av, Step G1 H1 G2 H2 ∧ G2 Dl = none ∧ H2 Dl = some (.lst av) ∧ RDs c.k G2 ac av ∧ ac.length ≤ i ∧
          PostE c .fr G S σ H Q (lcF ga t fe (wipeS S vs) (ds.drop i) >>= fun ys => .ok (.lst (ac ++ ys))),
        ⟨_, rfl, Nat.zero_le _, G1, [], [], Step.new' sp.gh hD, sp.gh.free hD, upd_same, .nil, Nat.zero_le _, by simpa using p⟩, ?_⟩
      rintro i m H2 ⟨rfl, hle, G2, ac, av, sp2, hGD, hHD, hr, hal, p2⟩
      have rel2 : Rel c.nx G2 (wipeS S vs) (L2.wipe σ vs) H2 := relb.grow sp2
      have itm := it G2 H2 sp2.g sp2.gh fun j hj x ow => by
        obtain ⟨_, _, o, _, ho, _⟩ := (rel.grow sp).own ow
        rw [ho, sp2.h _ _ ho]
      by_cases hlt : i < ds.length
      · obtain ⟨d, hd⟩ : ∃ d, ds[i]? = some d := ⟨ds[i], List.getElem?_eq_getElem hlt⟩
        have hdrop : ds.drop i = d :: ds.drop (i + 1) := by
          rw [List.drop_eq_getElem_cons hlt]; congr 1; rw [List.getElem?_eq_getElem hlt] at hd; exact Option.some.inj hd
        rw [hdrop] at p2
        obtain ⟨hgo, hy⟩ := itm.2 i d hd
        refine .inr ⟨hgo, fun H' => ∃ G3 ac av, Step G1 H1 G3 H' ∧ G3 Dl = none ∧ H' Dl = some (.lst av) ∧ RDs c.k G3 ac av ∧ ac.length ≤ i + 1 ∧
          PostE c .fr G S σ H Q (lcF ga t fe (wipeS S vs) (ds.drop (i + 1)) >>= fun ys => .ok (.lst (ac ++ ys))), fun H' ⟨G3, r3⟩ => ⟨_, by omega, rfl, hlt, G3, r3⟩, fun x H3 hx => ?_⟩
        obtain ⟨G3, sp3, hd3⟩ := hy x H3 hx
        refine hg x _ H3 _ ⟨G3, wipeS S vs, d, rel2.grow sp3, hd3, ?_⟩
        unfold lcF at p2
        cases e1 : ga d (wipeS S vs) with
        | exc x => rw [e1] at p2; exact p2.elim
        | fail => rw [e1] at p2; exact p2.elim
        | ok S1 =>
          rw [e1, R.nox_ok, R.ok_bind] at p2
          intro G4 σ4 H4 sp4 rel4 f4
          refine ⟨wipe_eq (by rw [f4.len, wipe_length]) fun j hj => f4.sg j fun z => hj (hgs j z), ht σ4 H4 _ ⟨G4, S1, rel4, ?_⟩⟩
          cases e2 : t S1 with
          | exc x => rw [e2] at p2; exact p2.elim
          | fail => rw [e2] at p2; exact p2.elim
          | ok b =>
            rw [e2, R.nox_ok, R.ok_bind] at p2
            intro G5 H5 sp5
            have spA : Step G2 H2 G5 H5 := (sp3.trans sp4).trans sp5
            have nD : ∀ {G6 H6 : Hp}, Step G2 H2 G6 H6 → G6 Dl = none ∧ H6 Dl = some (.lst av) := fun {G6 H6} z => by
              refine ⟨?_, z.h _ _ hHD⟩
              cases q : G6 Dl with
              | none => rfl
              | some o =>
                rcases z.gr _ _ q with w | w
                · rw [hGD] at w; cases w
                · rw [hHD] at w; cases w
            cases b with
            | false =>
              rw [if_neg Bool.false_ne_true] at p2 ⊢
              exact ⟨G5, ac, av, sp2.trans spA, (nD spA).1, (nD spA).2, hr.mono spA.g, by omega, p2⟩
            | true =>
              rw [if_pos rfl] at p2 ⊢
              refine he σ4 H5 _ ⟨G5, S1, rel4.grow sp5, ?_⟩
              cases e3 : fe S1 with
              | exc x => rw [e3] at p2; exact p2.elim
              | fail => rw [e3] at p2; exact p2.elim
              | ok y =>
                rw [e3, R.nox_ok, R.ok_bind] at p2
                intro v G6 H6 sp6 hv
                have spB := spA.trans sp6
                refine ⟨av, (nD spB).2, by rw [← hr.length]; omega, ?_⟩
                have spC : Step G1 H1 G6 (upd H6 Dl (.lst (av ++ [v]))) := by
                  have z := sp2.trans spB
                  exact ⟨z.g, z.h.upd hD, z.gh.upd (nD spB).1, z.gr⟩
                refine ⟨G6, ac ++ [y], av ++ [v], spC, (nD spB).1, upd_same, (hr.mono spB.g).append (.cons hv .nil), by rw [List.length_append]; simp; omega, ?_⟩
                cases e4 : lcF ga t fe (wipeS S vs) (ds.drop (i + 1)) with
                | exc x => exact absurd e4 (lcF_exc _)
                | fail => rw [e4] at p2; exact p2.elim
                | ok ys => rw [e4] at p2; simpa using p2
      · have hi : i = ds.length := by omega
        subst hi
        rw [List.drop_length] at p2
        refine .inl ⟨itm.1 _ (Nat.le_refl _), ?_⟩
        have p2 : PostE c .fr G S σ H Q (.ok (.lst (ac ++ []))) := p2
        rw [List.append_nil] at p2
        exact p2 _ G2 H2 (sp.trans sp2) ⟨Dl, _, rfl, hGD, hD0, hHD, .lst hr⟩
    · rw [if_neg hz] at p; exact p.elim
/-- [elt for target in iter if ..] -/
theorem d_lc {elt iter : Expr} {ifs : List Expr} {scope : Scope} (own : List (Str × Nat)) {ki gs : List Nat} {fi : FI} {ga : FG} {fe : FE} (hc : X.calm = true) (hN : X.N.Nodup) (hi : PI' X c ki tg iter fi) (ok : BlkOk X.N X.env.scope scope own)
    (hg : ∀ (s : Shared) (H : Hp) (C : Addr) (cl : List (Str × Addr)) (fp : List Addr), PG' (X.blk s H scope (compEnvC scope cl C X.env) fp) c.nx gs tg ga) (ht : ∀ (s : Shared) (H : Hp) (C : Addr) (cl : List (Str × Addr)) (fp : List Addr), PTs' (X.blk s H scope (compEnvC scope cl C X.env) fp) c.nx ifs t)
    (he : ∀ (s : Shared) (H : Hp) (C : Addr) (cl : List (Str × Addr)) (fp : List Addr), PE' (X.blk s H scope (compEnvC scope cl C X.env) fp) c.nx .st elt fe) (hgs : ∀ i, i ∈ gs → i ∈ own.map (·.2) := by decide) (hs : ∀ x, foldedSetIterable iter X.env x = pure x := by intro _; rfl) :
    PE' X c .fr (.ListComp elt [⟨tg, iter, ifs, 0⟩] scope pos) (lcE fi ga t fe (own.map (·.2))) :=
  peI (pe_lc hc hN hi ok hg ht he hs) fun σ H Q q => lc_go (fun _ _ _ _ z => z) (fun _ _ _ z => z) (fun _ _ _ z => z) hgs q
/-- name = [..]: the slot owns it -/
theorem s_lc (i : Nat) {y : Str} {py spos : Pos} {elt iter : Expr} {ifs : List Expr} {scope : Scope} (own : List (Str × Nat)) {ki gs : List Nat} {fi : FI} {ga : FG} {fe : FE} (hc : X.calm = true) (hN : X.N.Nodup) (hi : PI' X c ki tg iter fi) (ok : BlkOk X.N X.env.scope scope own)
    (hg : ∀ (s : Shared) (H : Hp) (C : Addr) (cl : List (Str × Addr)) (fp : List Addr), PG' (X.blk s H scope (compEnvC scope cl C X.env) fp) c.nx gs tg ga) (ht : ∀ (s : Shared) (H : Hp) (C : Addr) (cl : List (Str × Addr)) (fp : List Addr), PTs' (X.blk s H scope (compEnvC scope cl C X.env) fp) c.nx ifs t)
    (he : ∀ (s : Shared) (H : Hp) (C : Addr) (cl : List (Str × Addr)) (fp : List Addr), PE' (X.blk s H scope (compEnvC scope cl C X.env) fp) c.nx .st elt fe) (hy : X.N[i]? = some y := by rfl) (hyl : X.env.scope.names.lookup y = some .local := by rfl)
    (hsw : swapsWith (.ListComp elt [⟨tg, iter, ifs, 0⟩] scope pos) (some (.Name y py)) spos.line X.env = pure true := by exact sw_true rfl rfl rfl (by decide +kernel)) (hgs : ∀ i, i ∈ gs → i ∈ own.map (·.2) := by decide) (hs : ∀ x, foldedSetIterable iter X.env x = pure x := by intro _; rfl) :
    PS' X c fr [i] (.Assign [.Name y py] (.ListComp elt [⟨tg, iter, ifs, 0⟩] scope pos) spos) (sOwn i (lcE fi ga t fe (own.map (·.2)))) :=
  psI (ps_setLc hc hN hy hyl hsw hi ok hg ht he hs) fun Dn σ H q => lc_go (fun _ _ _ _ z => z) (fun _ _ _ z => z) (fun _ _ _ z => z) hgs (own_go q)
end
end M
set_option Elab.async false
set_option linter.all false
set_option maxRecDepth 100000
set_option maxHeartbeats 4000000
namespace M
open PySem L2
/-! ### what a def promises -/
abbrev kdOf (fr : Bool) : Kd := if fr then .fr else .st
def PostF (k : Kn) (fr : Bool) (G0 H : Hp) (Q : VK) (E : XK) : R D → Prop
  | .ok d => ∀ v G' H', Step G0 H G' H' → Res k H G' H' d v (kdOf fr) → Q v H'
  | .exc x => PXs ⟨k, H, G0, liftX E⟩ x
  | .fail => False
def SpF (k : Kn) (fr : Bool) (n : Nat) (den : List D → R D) : Sp := fun vs H Q E => vs.length = n ∧ ∃ G0 ds, Ex G0 H ∧ RDs k G0 ds vs ∧ PostF k fr G0 H Q E (den ds)
def startS (n : Nat) (ds : List D) : Env := ds.map (fun d => some ⟨false, d⟩) ++ List.replicate (n - ds.length) none
/-- a body's end as the def's answer -/
def endF (fr : Bool) : R (Fl × Env) → R D
  | .ok (.rt d, _) => .ok d
  | .ok (.nx, _) => if fr then .fail else .ok .non
  | .ok _ => .fail
  | .exc x => .exc x
  | .fail => .fail
def runF (fr : Bool) (n : Nat) (s : FS) (ds : List D) : R D := endF fr (s (startS n ds))
theorem rel_start {c : Cf} {N : List Str} {ds : List D} {vs : List V} (e : Ex c.G0 c.H0) (r : RDs c.k c.G0 ds vs) : Rel c c.G0 (startS N.length ds) (L2.start N vs) c.H0 := by
  have own : ∀ (i : Nat) (d : D), (startS N.length ds)[i]? ≠ some (some ⟨true, d⟩) := fun i d q => by
    unfold startS at q
    rw [List.getElem?_append] at q
    split at q
    · rw [List.getElem?_map] at q
      cases h : ds[i]? <;> rw [h] at q <;> cases q
    · rw [List.getElem?_replicate] at q
      split at q <;> cases q
  refine ⟨Step.refl e, by simp [startS, L2.start, r.length], fun i d q => ?_, fun i d q => absurd q (own i d), fun i j a o => ?_⟩
  · unfold startS at q
    rw [List.getElem?_append] at q
    split at q
    · rename_i hlt
      rw [List.getElem?_map] at q
      cases h : ds[i]? with
      | none => rw [h] at q; cases q
      | some d' =>
        rw [h] at q; cases q
        obtain ⟨v, h1, h2⟩ := r.get h
        refine ⟨v, ?_, h2⟩
        unfold L2.start
        rw [List.getElem?_append_left (by rw [List.length_map]; exact (List.getElem?_eq_some_iff.mp h1).1), List.getElem?_map, h1]; rfl
    · rw [List.getElem?_replicate] at q
      split at q <;> cases q
  · obtain ⟨⟨d, q⟩, _⟩ := o
    exact absurd q (own i d)
theorem body_ok {k : Kn} {fr : Bool} {as : List Nat} {N : List Str} {X : Cx} {body : List Stmt} {s : FS} {H : Hp} {vs : List V} {Q : VK} {E : XK} {n : Nat} (hb : ∀ G0, PB' X ⟨k, H, G0, liftX E⟩ fr as body s) (q : SpF k fr n (runF fr N.length s) vs H Q E) :
    ∃ t, PSs X body t ∧ t { nx := fun _ H' => Q .non H', rt := Q } (L2.start N vs) H := by
  obtain ⟨hl, G0, ds, e, r, p⟩ := q
  refine ⟨_, hb G0, G0, _, rel_start (c := ⟨k, H, G0, liftX E⟩) e r, ?_⟩
  unfold runF at p
  cases e1 : s (startS N.length ds) with
  | exc x => rw [e1] at p; exact p
  | fail => rw [e1] at p; exact p.elim
  | ok z =>
    rw [e1] at p
    obtain ⟨fl, S1⟩ := z
    cases fl with
    | nx =>
      cases fr with
      | true => exact p.elim
      | false => exact fun G' σ' H' _ rel _ => p .non G' H' rel.st .non
    | bk => exact p.elim
    | ct => exact p.elim
    | rt d =>
      intro v G' H' st rv
      refine p v G' H' st ?_
      cases fr with
      | true => exact rv
      | false => exact rv
section
variable {P : Program} {w : World} {K : PySem.W.Frag} {mg : Str → Option Value} {base : Heap}
/-- a def that lets nothing out -/
theorem fn_ok {k : Kn} {fr : Bool} {as : List Nat} {x qual : Str} {params : Arguments} {body : List Stmt} {scope : Scope} {dvs : List V} {kws : List (Str × V)} {f : Addr} {fd : FuncData} {N ps : List Str} {lv : Nat} {s : FS} (F : FunD K x qual params body scope dvs kws f fd) (S : FnScope N ps scope)
    (hb : ∀ (cdv : Value) (A : Around) (outer : List PySem.Env) (sh : Shared) (H G0 : Hp), Room lv (A.deeper (PyProof.Rows.envOfC qual scope sh.heap.objs.size f cdv)) → PB' (cxOf CX0 P w K mg base N qual scope f cdv A outer sh H E0).nox ⟨k, H, G0, liftX E0⟩ fr as body s) :
    FnOk P w K mg base CX0 (lv + 1) f fd ps (SpF k fr ps.length (fun ds => (runF fr N.length s ds).nox)) := by
  refine F.ok S (fun vs H Q E q => q.1) fun cdv A outer sh H vs Q E hr q => ?_
  have q' : SpF k fr ps.length (runF fr N.length s) vs H Q E0 := by
    obtain ⟨hl, G0, ds, e, r, p⟩ := q
    refine ⟨hl, G0, ds, e, r, ?_⟩
    dsimp only at p
    cases e1 : runF fr N.length s ds with
    | ok d => rw [e1] at p; exact p
    | exc x => rw [e1] at p; exact p.elim
    | fail => rw [e1] at p; exact p.elim
  obtain ⟨t, h1, h2⟩ := body_ok (X := (cxOf CX0 P w K mg base N qual scope f cdv A outer sh H E0).nox) (fun G0 => hb cdv A outer sh H G0 hr) q'
  exact ⟨t, h1.nox, h2⟩
end
/-- a def that is called: it lets nothing out -/
structure Fn0 (X : Cx) (k : Kn) (x : Str) (n : Nat) (fr : Bool) (den : List D → R D) : Prop where
  ex : ∃ (f : Addr) (fd : FuncData) (lv : Nat) (ps : List Str), ps.length = n ∧ FnOk X.prog X.w X.K X.mg X.base CX0 lv f fd ps (SpF k fr n den) ∧ Room lv X.A ∧ X.mg x = some (.ref f) ∧ PySem.W.keepIn X.K (.ref f) = true ∧ Binds X.K fd ps []
section
variable {X : Cx} {c : Cf} {kd k1 k2 k3 : Kd} {a b e : Expr} {pos : Pos} {fr : Bool} {den : List D → R D}
/-- the call's end among the caller's things -/
theorem call_go {n : Nat} {fa : FA} {σ : St} {H : Hp} {Q : VK} (hl : ∀ S ds, fa S = .ok ds → ds.length = n) (q : RdE c (kdOf fr) (eC den fa) σ H Q) : RdA c false fa σ H fun vs H1 => SpF c.k fr n den (vs ++ []) H1 Q E0 := by
  obtain ⟨G, S, rel, p⟩ := q
  have p : PostE c (kdOf fr) G S σ H Q (fa S >>= fun ds => (den ds).nox) := p
  refine ⟨G, S, rel, ?_⟩
  cases e0 : fa S with
  | exc x => rw [e0] at p; exact p
  | fail => rw [e0] at p; exact p
  | ok ds =>
    rw [e0] at p
    intro vs G1 H1 s1 q1
    have q1 : RDs c.k G1 ds vs := q1
    rw [List.append_nil]
    refine ⟨by rw [← q1.length]; exact hl S ds e0, G1, ds, s1.gh, q1, ?_⟩
    have p : PostE c (kdOf fr) G S σ H Q (den ds).nox := p
    cases e1 : den ds with
    | ok d => rw [e1] at p; exact fun v G' H' s2 r2 => p v G' H' (s1.trans s2) (r2.mono s1.h)
    | exc x => rw [e1] at p; exact p.elim
    | fail => rw [e1] at p; exact p.elim
/-- what an argument list's length is -/
def Len (n : Nat) (fa : FA) : Prop := ∀ S ds, fa S = .ok ds → ds.length = n
theorem len_n : Len 0 aN := fun S ds h => by cases h; rfl
theorem len_c {n : Nat} {f : FE} {fa : FA} (h : Len n fa) : Len (n + 1) (aC f fa) := fun S ds q => by
  unfold aC at q
  cases e1 : f S with
  | exc x => rw [e1] at q; cases q
  | fail => rw [e1] at q; cases q
  | ok d =>
    rw [e1] at q
    have q : (fa S >>= fun xs => R.ok (d :: xs)) = .ok ds := q
    cases e2 : fa S with
    | exc x => rw [e2] at q; cases q
    | fail => rw [e2] at q; cases q
    | ok xs => rw [e2] at q; cases q; simp [h S xs e2]
theorem d_call {x : Str} {n : Nat} {p : Pos} {es : List Expr} {fa : FA} (F : Fn0 X c.k x n fr den) (ha : PA' X c false (e :: es) fa) (hl : Len n fa) (hg : Gl X x := by rfl) (hdb : (x == ("__debug__" : Str)) = false := by decide)
    (hs : starEach (e :: es) X.env = (false, eval e X.env) :: starEach es X.env := by rfl) (hs2 : ((backTo pos (starEach es X.env)).any fun x => x.1) = false := by rfl) : PE' X c (kdOf fr) (.Call (.Name x p) (e :: es) [] pos) (eC den fa) := by
  obtain ⟨f, fd, lv, ps, hn, ok, hr, hm, hk, hb⟩ := F.ex
  exact peI (pe_call ok hr hg hm hk hb .nil pass0 ha hdb hs hs2) fun σ H Q q => call_go hl q
/-! ### arguments that a slot owns: the callee's answer holds nothing of its kind -/
mutual
/-- no list, no dict within -/
def D.noMut : D → Bool
  | .lst _ => false
  | .dic _ _ => false
  | .dit _ _ => false
  | .tup xs => D.noMuts xs
  | .obj _ _ => false
  | .scr _ => false
  | _ => true
def D.noMuts : List D → Bool
  | [] => true
  | x :: xs => x.noMut && D.noMuts xs
end
/-- what the slots own stands apart from G -/
noncomputable def cut (S : Env) (σ : St) (H : Hp) : Hp := fun b => open Classical in if ∃ i, OwnAt S σ i b then none else H b
theorem cut_own {S : Env} {σ : St} {H : Hp} {i : Nat} {a : Addr} (h : OwnAt S σ i a) : cut S σ H a = none := by unfold cut; rw [if_pos ⟨i, h⟩]
theorem cut_of {S : Env} {σ : St} {H : Hp} {b : Addr} {o : HO} (h : cut S σ H b = some o) : H b = some o ∧ ∀ i, ¬ OwnAt S σ i b := by
  unfold cut at h
  split at h
  · cases h
  · rename_i hn; exact ⟨h, fun i q => hn ⟨i, q⟩⟩
theorem cut_get {S : Env} {σ : St} {H : Hp} {b : Addr} (h : ∀ i, ¬ OwnAt S σ i b) : cut S σ H b = H b := by
  unfold cut; rw [if_neg (fun ⟨i, q⟩ => h i q)]
theorem Cont.notup {k : Kn} {G : Hp} {d : D} {o : HO} (c : Cont k G d o) : (∀ vs, o ≠ .tup vs) ∧ (∀ q vs, o ≠ .frz q vs) := by
  cases c <;> exact ⟨fun _ z => (by cases z), fun _ _ z => (by cases z)⟩
mutual
theorem RD.cut {c : Cf} {G H H' : Hp} {S : Env} {σ : St} (rel : Rel c G S σ H) (e : Ex H H') : ∀ {d : D} {v : V}, RD c.k H' d v → d.noMut = true → RD c.k (M.cut S σ H') d v
  | _, _, .non, _ => .non
  | _, _, .bl b, _ => .bl b
  | _, _, .int b, _ => .int b
  | _, _, .str b, _ => .str b
  | _, _, .ty b, _ => .ty b
  | _, _, .cls b, _ => .cls b
  | _, _, .tup h r, q => by
    simp only [D.noMut] at q
    refine .tup ?_ (RDs.cut rel e r q)
    rcases h with h | h
    · refine .inl ?_
      rw [cut_get]; exact h
      intro i ow
      obtain ⟨_, _, o, d, ho, _, ct⟩ := rel.own ow
      have := e _ _ ho
      rw [h] at this; cases this
      exact ct.notup.1 _ rfl
    · exact .inr h
  | _, _, .scr _, q => by simp [D.noMut] at q
  | _, _, .lst _ _, q => by simp [D.noMut] at q
  | _, _, .dic _ _ _, q => by simp [D.noMut] at q
  | _, _, .dit _ _ _, q => by simp [D.noMut] at q
  | _, _, .obj _ _ _, q => by simp [D.noMut] at q
theorem RDs.cut {c : Cf} {G H H' : Hp} {S : Env} {σ : St} (rel : Rel c G S σ H) (e : Ex H H') : ∀ {ds : List D} {vs : List V}, RDs c.k H' ds vs → D.noMuts ds = true → RDs c.k (M.cut S σ H') ds vs
  | _, _, .nil, _ => .nil
  | _, _, .cons a b, q => by
    simp only [D.noMuts, Bool.and_eq_true] at q
    exact .cons (RD.cut rel e a q.1) (RDs.cut rel e b q.2)
end
end
end M
set_option Elab.async false
set_option linter.all false
set_option maxRecDepth 100000
set_option maxHeartbeats 4000000
namespace M
open PySem L2
section
variable {X : Cx} {k : Kn}
theorem CallR.or {f : Value} {r r' : List V → Hp → VK → Prop} (h : CallR X f r) (h' : CallR X f r') : CallR X f (fun xs H Q => r xs H Q ∨ r' xs H Q) := fun pins s σ H xs us Q I rx q => by
  rcases q with q | q
  · exact h pins s σ H xs us Q I rx q
  · exact h' pins s σ H xs us Q I rx q
/-- a built-in of one argument -/
theorem cl1 {f : Value} {kd : Kd} {g : D → R D} {r : List V → Hp → VK → Prop} (h : CallR X f r) (q : ∀ G H x v d, Ex G H → Now k G H x v → g x = .ok d → ∀ Q : VK, (∀ w G' H', Step G H G' H' → Res k H G' H' d w kd → Q w H') → r [v] H Q) :
    ClR X k f kd (fun xs => match xs with | [x] => g x | _ => .fail) := by
  refine ⟨r, h, ?_⟩
  intro G H ds vs d e ns hg Q p
  cases ns with
  | nil => cases hg
  | cons n1 n2 =>
    cases n2 with
    | nil => exact q G H _ _ d e n1 hg Q p
    | cons _ _ => cases hg
theorem cl2 {f : Value} {kd : Kd} {g : D → D → R D} {r : List V → Hp → VK → Prop} (h : CallR X f r) (q : ∀ G H x v y u d, Ex G H → Now k G H x v → Now k G H y u → g x y = .ok d → ∀ Q : VK, (∀ w G' H', Step G H G' H' → Res k H G' H' d w kd → Q w H') → r [v, u] H Q) :
    ClR X k f kd (fun xs => match xs with | [x, y] => g x y | _ => .fail) := by
  refine ⟨r, h, ?_⟩
  intro G H ds vs d e ns hg Q p
  cases ns with
  | nil => cases hg
  | cons n1 n2 =>
    cases n2 with
    | nil => cases hg
    | cons n2 n3 =>
      cases n3 with
      | nil => exact q G H _ _ _ _ d e n1 n2 hg Q p
      | cons _ _ => cases hg
def f1 (g : D → R D) : List D → R D := fun xs => match xs with | [x] => g x | _ => .fail
def f2 (g : D → D → R D) : List D → R D := fun xs => match xs with | [x, y] => g x y | _ => .fail
/-! ### len, abs, int, min, max, sum, any, all -/
def lenD : D → R D
  | .str x => if x.length ≤ sizeLine then .ok (.int x.length) else .fail
  | .lst xs => .ok (.int xs.length)
  | .tup xs => .ok (.int xs.length)
  | .scr ns => .ok (.int ns.length)
  | .dic ks _ => .ok (.int ks.length)
  | _ => .fail
theorem c_len (hk : k.K = X.K) : ClR X k (.builtin "len") .st (f1 lenD) := cl1 (call_len.or call_lenD) fun G H x v d e n hg Q p => by
  unfold lenD at hg
  split at hg
  · split at hg
    · rename_i hl
      cases hg; obtain rfl := n.str
      exact .inl ⟨_, _, rfl, ⟨hl, rfl⟩, p _ G H (Step.refl e) (.int _)⟩
    · cases hg
  · cases hg; obtain ⟨a, vs, rfl, ha, r⟩ := n.lst e
    exact .inl ⟨_, _, rfl, .inl ⟨vs, SqL.of ha, rfl⟩, by rw [← r.length]; exact p _ G H (Step.refl e) (.int _)⟩
  · cases hg; obtain ⟨a, vs, rfl, ha, r⟩ := n.tup
    exact .inl ⟨_, _, rfl, .inr ⟨vs, hk ▸ e.sqT ha.t, rfl⟩, by rw [← r.length]; exact p _ G H (Step.refl e) (.int _)⟩
  · cases hg; obtain ⟨a, rfl, ha⟩ := n.scr
    exact .inl ⟨_, _, rfl, .inl ⟨_, hk ▸ e.sqL ha, rfl⟩, by rw [List.length_map]; exact p _ G H (Step.refl e) (.int _)⟩
  · cases hg; obtain ⟨a, vs, rfl, ha, l, r⟩ := n.dic e
    refine .inr ⟨a, _, rfl, ha, ?_⟩
    rw [List.length_zip, ← r.length, ← l, Nat.min_self]; exact p _ G H (Step.refl e) (.int _)
  · cases hg
def absD : D → R D
  | .int i => .ok (.int (if i < 0 then -i else i))
  | _ => .fail
theorem c_abs : ClR X k (.builtin "abs") .st (f1 absD) := cl1 call_abs fun G H x v d e n hg Q p => by
  cases x <;> simp only [absD] at hg <;> first | (cases hg; done) | skip
  cases hg; obtain rfl := n.int
  exact ⟨_, rfl, p _ G H (Step.refl e) (.int _)⟩
def intD : D → R D
  | .int i => .ok (.int i)
  | .bl b => .ok (.int (if b then 1 else 0))
  | _ => .fail
theorem c_int : ClR X k (.type "int") .st (f1 intD) := cl1 call_int1 fun G H x v d e n hg Q p => by
  cases x <;> simp only [intD] at hg <;> first | (cases hg; done) | skip
  · cases hg; obtain rfl := n.bl
    exact .inr ⟨_, rfl, p _ G H (Step.refl e) (.int _)⟩
  · cases hg; obtain rfl := n.int
    exact .inl ⟨_, rfl, p _ G H (Step.refl e) (.int _)⟩
def strD : D → R D
  | .int i => if i.natAbs.log2 < 1920 then .ok (.str (toString i)) else .fail
  | _ => .fail
theorem c_str : ClR X k (.type "str") .st (f1 strD) := cl1 call_str_int fun G H x v d e n hg Q p => by
  cases x <;> simp only [strD] at hg <;> first | (cases hg; done) | skip
  split at hg
  · rename_i hl
    cases hg; obtain rfl := n.int
    exact ⟨_, rfl, hl, p _ G H (Step.refl e) (.str _)⟩
  · cases hg
def max2D : D → D → R D
  | .int i, .int j => .ok (.int (if j > i then j else i))
  | _, _ => .fail
theorem c_max2 (hc : X.calm = true) : ClR X k (.builtin "max") .st (f2 max2D) := cl2 (call_max2 hc) fun G H x v y u d e n m hg Q p => by
  unfold max2D at hg
  split at hg
  · cases hg; obtain rfl := n.int; obtain rfl := m.int
    exact ⟨_, _, rfl, p _ G H (Step.refl e) (.int _)⟩
  · cases hg
def min2D : D → D → R D
  | .int i, .int j => .ok (.int (if j < i then j else i))
  | _, _ => .fail
theorem c_min2 (hc : X.calm = true) : ClR X k (.builtin "min") .st (f2 min2D) := cl2 (call_min2 hc) fun G H x v y u d e n m hg Q p => by
  unfold min2D at hg
  split at hg
  · cases hg; obtain rfl := n.int; obtain rfl := m.int
    exact ⟨_, _, rfl, p _ G H (Step.refl e) (.int _)⟩
  · cases hg
/-- a list of ints, of bools, of texts -/
def asI : List D → Option (List Int)
  | [] => some []
  | .int i :: r => (asI r).map (i :: ·)
  | _ => none
def asB : List D → Option (List Bool)
  | [] => some []
  | .bl i :: r => (asB r).map (i :: ·)
  | _ => none
def asS : List D → Option (List Str)
  | [] => some []
  | .str i :: r => (asS r).map (i :: ·)
  | _ => none
theorem asI_of {G : Hp} : ∀ {ds : List D} {vs : List V} {ns : List Int}, RDs k G ds vs → asI ds = some ns → vs = ns.map V.int
  | _, _, ns, .nil, h => by cases h; rfl
  | _, _, ns, .cons a b, h => by
    cases a with
    | int i =>
      simp only [asI, Option.map_eq_some_iff] at h
      obtain ⟨r, h1, rfl⟩ := h
      rw [asI_of b h1]; rfl
    | _ => simp [asI] at h
theorem asB_of {G : Hp} : ∀ {ds : List D} {vs : List V} {ns : List Bool}, RDs k G ds vs → asB ds = some ns → vs = ns.map V.bl
  | _, _, ns, .nil, h => by cases h; rfl
  | _, _, ns, .cons a b, h => by
    cases a with
    | bl i =>
      simp only [asB, Option.map_eq_some_iff] at h
      obtain ⟨r, h1, rfl⟩ := h
      rw [asB_of b h1]; rfl
    | _ => simp [asB] at h
theorem asS_of {G : Hp} : ∀ {ds : List D} {vs : List V} {ns : List Str}, RDs k G ds vs → asS ds = some ns → vs = ns.map V.str
  | _, _, ns, .nil, h => by cases h; rfl
  | _, _, ns, .cons a b, h => by
    cases a with
    | str i =>
      simp only [asS, Option.map_eq_some_iff] at h
      obtain ⟨r, h1, rfl⟩ := h
      rw [asS_of b h1]; rfl
    | _ => simp [asS] at h
@[simp] theorem asI_map (ns : List Int) : asI (ns.map D.int) = some ns := by
  induction ns with
  | nil => rfl
  | cons n ns ih => simp [asI, ih]
@[simp] theorem asB_map (ns : List Bool) : asB (ns.map D.bl) = some ns := by
  induction ns with
  | nil => rfl
  | cons n ns ih => simp [asB, ih]
@[simp] theorem asS_map (ns : List Str) : asS (ns.map D.str) = some ns := by
  induction ns with
  | nil => rfl
  | cons n ns ih => simp [asS, ih]
def sumD : D → R D
  | .lst ds => match asI ds with | some ns => .ok (.int ns.sum) | none => .fail
  | _ => .fail
theorem c_sum (hc : X.calm = true) : ClR X k (.builtin "sum") .st (f1 sumD) := cl1 (cr_sum hc) fun G H x v d e n hg Q p => by
  cases x <;> simp only [sumD] at hg <;> first | (cases hg; done) | skip
  split at hg
  · rename_i ns hn
    cases hg; obtain ⟨a, vs, rfl, ha, r⟩ := n.lst e
    have := asI_of r hn; subst this
    exact ⟨a, ns, rfl, SqL.of ha, p _ G H (Step.refl e) (.int _)⟩
  · cases hg
def anyD : D → R D
  | .lst ds => match asB ds with | some ns => .ok (.bl (ns.any id)) | none => .fail
  | _ => .fail
theorem c_any (hc : X.calm = true) : ClR X k (.builtin "any") .st (f1 anyD) := cl1 (cr_any hc) fun G H x v d e n hg Q p => by
  cases x <;> simp only [anyD] at hg <;> first | (cases hg; done) | skip
  split at hg
  · rename_i ns hn
    cases hg; obtain ⟨a, vs, rfl, ha, r⟩ := n.lst e
    have := asB_of r hn; subst this
    exact ⟨a, ns, rfl, SqL.of ha, p _ G H (Step.refl e) (.bl _)⟩
  · cases hg
def allD : D → R D
  | .lst ds => match asB ds with | some ns => .ok (.bl (ns.all id)) | none => .fail
  | _ => .fail
theorem c_all (hc : X.calm = true) : ClR X k (.builtin "all") .st (f1 allD) := cl1 (cr_all hc) fun G H x v d e n hg Q p => by
  cases x <;> simp only [allD] at hg <;> first | (cases hg; done) | skip
  split at hg
  · rename_i ns hn
    cases hg; obtain ⟨a, vs, rfl, ha, r⟩ := n.lst e
    have := asB_of r hn; subst this
    exact ⟨a, ns, rfl, SqL.of ha, p _ G H (Step.refl e) (.bl _)⟩
  · cases hg
/-- the greatest, the least of a list of ints -/
def maxL : List Int → Int
  | [] => 0
  | x :: r => r.foldl (fun a b => if b > a then b else a) x
def minL : List Int → Int
  | [] => 0
  | x :: r => r.foldl (fun a b => if b < a then b else a) x
theorem maxL_fold : ∀ (r : List Int) (x : Int), (∀ y, y ∈ x :: r → y ≤ r.foldl (fun a b => if b > a then b else a) x) ∧ r.foldl (fun a b => if b > a then b else a) x ∈ x :: r
  | [], x => by simp
  | y :: r, x => by
    simp only [List.foldl_cons]
    by_cases h : y > x
    · rw [if_pos h]
      obtain ⟨h1, h2⟩ := maxL_fold r y
      refine ⟨fun z hz => ?_, List.mem_cons_of_mem _ h2⟩
      rcases List.mem_cons.mp hz with rfl | hz
      · have := h1 y (by simp); omega
      · exact h1 z hz
    · rw [if_neg h]
      obtain ⟨h1, h2⟩ := maxL_fold r x
      refine ⟨fun z hz => ?_, ?_⟩
      · rcases List.mem_cons.mp hz with rfl | hz
        · exact h1 z (by simp)
        · rcases List.mem_cons.mp hz with rfl | hz
          · have := h1 x (by simp); omega
          · exact h1 z (by simp [hz])
      · rcases List.mem_cons.mp h2 with z | z
        · rw [z]; simp
        · exact List.mem_cons_of_mem _ (List.mem_cons_of_mem _ z)
theorem minL_fold : ∀ (r : List Int) (x : Int), (∀ y, y ∈ x :: r → r.foldl (fun a b => if b < a then b else a) x ≤ y) ∧ r.foldl (fun a b => if b < a then b else a) x ∈ x :: r
  | [], x => by simp
  | y :: r, x => by
    simp only [List.foldl_cons]
    by_cases h : y < x
    · rw [if_pos h]
      obtain ⟨h1, h2⟩ := minL_fold r y
      refine ⟨fun z hz => ?_, List.mem_cons_of_mem _ h2⟩
      rcases List.mem_cons.mp hz with rfl | hz
      · have := h1 y (by simp); omega
      · exact h1 z hz
    · rw [if_neg h]
      obtain ⟨h1, h2⟩ := minL_fold r x
      refine ⟨fun z hz => ?_, ?_⟩
      · rcases List.mem_cons.mp hz with rfl | hz
        · exact h1 z (by simp)
        · rcases List.mem_cons.mp hz with rfl | hz
          · have := h1 x (by simp); omega
          · exact h1 z (by simp [hz])
      · rcases List.mem_cons.mp h2 with z | z
        · rw [z]; simp
        · exact List.mem_cons_of_mem _ (List.mem_cons_of_mem _ z)
def maxD : D → R D
  | .lst ds => match asI ds with | some (n :: ns) => .ok (.int (maxL (n :: ns))) | _ => .fail
  | _ => .fail
theorem c_max (hc : X.calm = true) : ClR X k (.builtin "max") .st (f1 maxD) := cl1 (cr_max hc) fun G H x v d e n hg Q p => by
  cases x <;> simp only [maxD] at hg <;> first | (cases hg; done) | skip
  split at hg
  · rename_i n0 ns hn
    cases hg; obtain ⟨a, vs, rfl, ha, r⟩ := n.lst e
    have := asI_of r hn; subst this
    refine ⟨a, n0 :: ns, rfl, SqL.of ha, by simp, fun m hm hle => ?_⟩
    have q := maxL_fold ns n0
    have : m = maxL (n0 :: ns) := Int.le_antisymm (q.1 m hm) (hle _ q.2)
    rw [this]; exact p _ G H (Step.refl e) (.int _)
  · cases hg
def minD : D → R D
  | .lst ds => match asI ds with | some (n :: ns) => .ok (.int (minL (n :: ns))) | _ => .fail
  | _ => .fail
theorem c_min (hc : X.calm = true) : ClR X k (.builtin "min") .st (f1 minD) := cl1 (cr_min hc) fun G H x v d e n hg Q p => by
  cases x <;> simp only [minD] at hg <;> first | (cases hg; done) | skip
  split at hg
  · rename_i n0 ns hn
    cases hg; obtain ⟨a, vs, rfl, ha, r⟩ := n.lst e
    have := asI_of r hn; subst this
    refine ⟨a, n0 :: ns, rfl, SqL.of ha, by simp, fun m hm hle => ?_⟩
    have q := minL_fold ns n0
    have : m = minL (n0 :: ns) := Int.le_antisymm (hle _ q.2) (q.1 m hm)
    rw [this]; exact p _ G H (Step.refl e) (.int _)
  · cases hg
/-! ### tuple(..), list(..) -/
def tupD : D → R D
  | .lst ds => .ok (.tup ds)
  | .tup ds => .ok (.tup ds)
  | _ => .fail
theorem c_tup (hk : k.K = X.K) : ClR X k (.type "tuple") .st (f1 tupD) := cl1 call_tuple_of fun G H x v d e n hg Q p => by
  cases x <;> simp only [tupD] at hg <;> first | (cases hg; done) | skip
  · cases hg; obtain ⟨a, vs, rfl, ha, r⟩ := n.tup
    exact ⟨a, vs, rfl, .inr ⟨hk ▸ e.sqT ha.t, p _ G H (Step.refl e) (.tup ha r)⟩⟩
  · cases hg; obtain ⟨a, vs, rfl, ha, r⟩ := n.lst e
    exact ⟨a, vs, rfl, .inl ⟨SqL.of ha, fun l hl => p _ _ _ (Step.new e hl) (.tup (SqU.of upd_same) (r.mono (Ex.new (e.free hl))))⟩⟩
def lstD : D → R D
  | .lst ds => .ok (.lst ds)
  | .tup ds => .ok (.lst ds)
  | _ => .fail
theorem c_lst (hk : k.K = X.K) : ClR X k (.type "list") .fr (f1 lstD) := cl1 call_list_of fun G H x v d e n hg Q p => by
  cases x <;> simp only [lstD] at hg <;> first | (cases hg; done) | skip
  · cases hg; obtain ⟨a, vs, rfl, ha, r⟩ := n.tup
    exact ⟨a, vs, rfl, .inr (hk ▸ e.sqT ha.t), fun l hl => p _ _ _ (Step.new' e hl) ⟨l, _, rfl, e.free hl, hl, upd_same, .lst r⟩⟩
  · cases hg; obtain ⟨a, vs, rfl, ha, r⟩ := n.lst e
    exact ⟨a, vs, rfl, .inl (SqL.of ha), fun l hl => p _ _ _ (Step.new' e hl) ⟨l, _, rfl, e.free hl, hl, upd_same, .lst r⟩⟩
/-! ### in -/
def flatD : D → Bool
  | .non => true
  | .bl _ => true
  | .int _ => true
  | .str _ => true
  | _ => false
theorem RD.flat {G : Hp} {d : D} {v : V} (r : RD k G d v) (h : flatD d = true) : flatV v = true := by
  cases r <;> first | rfl | (simp [flatD] at h; done)
theorem RDs.flat {G : Hp} : ∀ {ds : List D} {vs : List V}, RDs k G ds vs → ds.all flatD = true → vs.all flatV = true
  | _, _, .nil, _ => rfl
  | _, _, .cons a b, h => by
    simp only [List.all_cons, Bool.and_eq_true] at h ⊢
    exact ⟨a.flat h.1, RDs.flat b h.2⟩
theorem RD.eqV {G : Hp} {d d' : D} {v v' : V} (r : RD k G d v) (r' : RD k G d' v') (h : flatD d = true) (h' : flatD d' = true) : L2.eqV v v' = deq d d' := by
  cases r <;> first | (simp [flatD] at h; done) | skip
  all_goals (cases r' <;> first | (simp [flatD] at h'; done) | (simp [L2.eqV, deq]; done))
theorem RDs.inV {G : Hp} {x : D} {u : V} (r : RD k G x u) (hx : flatD x = true) : ∀ {ds : List D} {vs : List V}, RDs k G ds vs → ds.all flatD = true → L2.inV u vs = ds.any fun z => deq z x
  | _, _, .nil, _ => rfl
  | _, _, .cons a b, h => by
    simp only [List.all_cons, Bool.and_eq_true] at h
    have ih := RDs.inV r hx b h.2
    simp only [L2.inV, List.any_cons] at ih ⊢
    rw [ih, a.eqV r h.1 hx]
theorem toPs_any (n : Nat) (x : D) (hx : dok n x = true) : ∀ {ds : List D} {m : Nat}, doks m ds = true → ((D.toPs ds).any fun z => PyData.eqv z x.toP) = ds.any fun z => deq z x
  | [], _, _ => by simp [D.toPs]
  | d :: ds, m, h => by
    simp only [doks, Bool.and_eq_true] at h
    simp only [D.toPs, List.any_cons]
    rw [toPs_any n x hx h.2, deq_eqv m n d x h.1 hx]
/-- is x, one sign, in the text -/
def signD : D → Str → Option Bool
  | .str a, z => match a.cps.toList with
    | [c] => some (decide (c ∈ z.cps.toList))
    | _ => none
  | _, _ => none
theorem signD_of {x : D} {z : Str} {b : Bool} (h : signD x z = some b) : ∃ c, x = .str ⟨#[c]⟩ ∧ b = decide (c ∈ z.cps.toList) := by
  cases x with
  | str a =>
    simp only [signD] at h
    split at h
    · rename_i c hc
      cases h
      obtain ⟨⟨l⟩⟩ := a
      cases hc
      exact ⟨c, rfl, rfl⟩
    · cases h
  | _ => simp [signD] at h
/-- is x among the items; flat ones, or (in a list) any data -/
def inD' (x : D) : D → Option Bool
  | .lst ds => if flatD x && ds.all flatD then some (ds.any fun z => deq z x) else if dok 60 x && doks 59 ds then some (ds.any fun z => deq z x) else none
  | .tup ds => if flatD x && ds.all flatD then some (ds.any fun z => deq z x) else none
  | .str z => signD x z
  | _ => none
def inD (x y : D) : R D := match inD' x y with | some b => .ok (.bl b) | none => .fail
def notInD (x y : D) : R D := match inD' x y with | some b => .ok (.bl (!b)) | none => .fail
def rSign (neg : Bool) : R2 := fun x y H Q => ∃ (c : Nat) (z : Str), x = .str ⟨#[c]⟩ ∧ y = .str z ∧ Q (.bl (if neg = true then !decide (c ∈ z.cps.toList) else decide (c ∈ z.cps.toList))) H
theorem in_go {neg : Bool} (hk : k.K = X.K) {G H : Hp} {x y : D} {u v : V} {b : Bool} {Q : VK} (e : Ex G H) (nx : Now k G H x u) (ny : Now k G H y v) (hg : inD' x y = some b) (q : Q (.bl (if neg = true then !b else b)) H) :
    (rIn X.K neg u v H Q ∨ ∃ d ds, Dp X.K H u d ∧ Dp X.K H v (.list ds) ∧ SeqAt.shaped d = true ∧ SeqAt.shaped (.list ds) = true ∧ Q (.bl (if neg = true then !(ds.any fun z => PyData.eqv z d) else ds.any fun z => PyData.eqv z d)) H) ∨ rSign neg u v H Q := by
  cases y with
  | str z =>
    simp only [inD'] at hg
    obtain ⟨c, rfl, rfl⟩ := signD_of hg
    obtain rfl := nx.str
    obtain rfl := ny.str
    exact .inr ⟨c, z, rfl, rfl, q⟩
  | lst ds =>
    simp only [inD'] at hg
    obtain ⟨a, vs, rfl, ha, r⟩ := ny.lst e
    split at hg
    · rename_i hf
      simp only [Bool.and_eq_true] at hf
      cases hg
      have rx := nx.rd e
      have r' := r.mono e
      exact .inl <| .inl ⟨a, vs, rfl, .inl (SqL.of ha), rx.flat hf.1, r'.flat hf.2, by rw [RDs.inV rx hf.1 r' hf.2]; exact q⟩
    · split at hg
      · rename_i hf
        simp only [Bool.and_eq_true] at hf
        cases hg
        have hl : dok 60 (.lst ds) = true := by simp only [dok]; exact hf.2
        have ds' : SeqAt.shaped (.list (D.toPs ds)) = true := by
          have := dok_shaped hl
          simpa only [D.toP] using this
        exact .inl <| .inr ⟨x.toP, D.toPs ds, hk ▸ (nx.rd e).dp 60 hf.1, hk ▸ .lst (SqL.of ha) ((r.mono e).dp 59 hf.2), dok_shaped hf.1, ds', by rw [toPs_any 60 x hf.1 hf.2]; exact q⟩
      · cases hg
  | tup ds =>
    simp only [inD'] at hg
    obtain ⟨a, vs, rfl, ha, r⟩ := ny.tup
    split at hg
    · rename_i hf
      simp only [Bool.and_eq_true] at hf
      cases hg
      have rx := nx.rd e
      have r' := r.mono e
      exact .inl <| .inl ⟨a, vs, rfl, .inr (hk ▸ e.sqT ha.t), rx.flat hf.1, r'.flat hf.2, by rw [RDs.inV rx hf.1 r' hf.2]; exact q⟩
    · cases hg
  | _ => simp [inD'] at hg
theorem o_in (hk : k.K = X.K) (hu : X.A.units + 65 < cLine) : Op2 X k (compareOp .In) .st inD := by
  refine ⟨_, (op_in_seq.or (op_inD hu)).or op_in_sign, ?_⟩
  intro G H x y u v d e nx ny hg Q q
  unfold inD at hg
  split at hg
  · rename_i b hb
    cases hg
    exact in_go (neg := false) hk e nx ny hb (q _ G H (Step.refl e) (.bl _))
  · cases hg
theorem o_notin (hk : k.K = X.K) (hu : X.A.units + 65 < cLine) : Op2 X k (compareOp .NotIn) .st notInD := by
  refine ⟨_, (op_notIn_seq.or (op_notInD hu)).or op_notIn_sign, ?_⟩
  intro G H x y u v d e nx ny hg Q q
  unfold notInD at hg
  split at hg
  · rename_i b hb
    cases hg
    exact in_go (neg := true) hk e nx ny hb (q _ G H (Step.refl e) (.bl _))
  · cases hg
end
end M
set_option Elab.async false
set_option linter.all false
set_option maxRecDepth 100000
set_option maxHeartbeats 4000000
namespace M
open PySem L2
section
variable {X : Cx} {c : Cf} {kd k1 k2 k3 : Kd} {a b e : Expr} {f g h : FE} {pos apos cpos p' : Pos} {fr : Bool} {x : Str}
/-! ### x.append(e), x.extend(e), y = x.pop(), x[i] = e -/
def ownL (i : Nat) (S : Env) : R (List D) := match S[i]? with
  | some (some ⟨true, .lst ds⟩) => .ok ds
  | _ => .fail
theorem ownL_of {i : Nat} {S : Env} {ds : List D} (h : ownL i S = .ok ds) : S[i]? = some (some ⟨true, .lst ds⟩) := by
  unfold ownL at h
  split at h
  · cases h; assumption
  · cases h
theorem ownL_exc {i : Nat} {S : Env} {x : Exc} : ownL i S ≠ .exc x := by unfold ownL; split <;> intro h <;> cases h
def sApp (i : Nat) (f : FE) : FS := fun S => ownL i S >>= fun ds => f S >>= fun d => if ds.length < sizeLine then .ok (.nx, S.set i (some ⟨true, .lst (ds ++ [d])⟩)) else .fail
theorem s_app (i : Nat) (he : PE' X c .st e f) (hN : X.N[i]? = some x := by rfl) (hv : Vis X.env.scope x := by first | exact Or.inl rfl | exact Or.inr (Or.inl rfl) | exact Or.inr (Or.inr rfl)) (hd : (x == ("__debug__" : Str)) = false := by decide)
    (hcd : (x == ("__classdict__" : Str)) = false := by decide) (h2 : (apos.endLine == cpos.line) = true := by rfl) (h3 : starEach [e] X.env = [(false, eval e X.env)] := by rfl) (hs : swapsWith (.Call (.Attribute (.Name x p') "append" apos) [e] [] cpos) none pos.line X.env = pure false := by rfl) :
    PS' X c fr [i + 1000] (.Expr (.Call (.Attribute (.Name x p') "append" apos) [e] [] cpos) pos) (sApp i f) :=
  psI (ps_expr (pe_bm PySem.F.plainAttrs_list PySem.F.slot_list_append PySem.F.type_list_append mt_append (pe_var hN hv hd hcd) (pa_cons he pa_nil h3) rfl (by rw [h3]; rfl) h2 h3 rfl) hs) fun Dn σ H ⟨G, S, rel, p⟩ => by
    have p : PostS c fr [i + 1000] G S σ H Dn (ownL i S >>= fun ds => f S >>= fun d => if ds.length < sizeLine then .ok (.nx, S.set i (some ⟨true, .lst (ds ++ [d])⟩)) else .fail) := p
    cases e0 : ownL i S with
    | exc x => exact absurd e0 ownL_exc
    | fail => rw [e0] at p; exact p.elim
    | ok ds =>
      rw [e0, R.ok_bind] at p
      have hS := ownL_of e0
      obtain ⟨l, o, es, hg, h0, ho, ct⟩ := rel.ow i _ hS
      cases ct with
      | @lst ds' vs r =>
        refine ⟨_, es, .inl ⟨rfl, vs, SqL.of ho⟩, ?_⟩
        refine rdE_go (g := fun d => if ds.length < sizeLine then .ok (Fl.nx, S.set i (some ⟨true, .lst (ds ++ [d])⟩)) else .fail) (Post := PostS c fr [i + 1000] G S σ H Dn) rel p (fun _ z => z _) (fun z => z) fun d v G' H' sp q p1 => ?_
        by_cases hl : ds.length < sizeLine
        · rw [if_pos hl] at p1
          have rel' := rel.grow sp
          have ow : OwnAt S σ i l := ⟨⟨_, hS⟩, es⟩
          refine ⟨l, vs, v, rfl, rfl, sp.h _ _ ho, by rw [← r.length]; exact hl, p1 G' σ _ sp.g (rel'.mut ow (.lst ((r.mono sp.g).append (.cons q .nil)))) ((Frm.step (as := []) rel sp).trans (Frm.mut rel' ow))⟩
        · rw [if_neg hl] at p1; exact p1.elim
def sExt (i : Nat) (f : FE) : FS := fun S => ownL i S >>= fun ds => f S >>= fun d => match d with
  | .lst es => if ds.length + es.length ≤ sizeLine then .ok (.nx, S.set i (some ⟨true, .lst (ds ++ es)⟩)) else .fail
  | _ => .fail
theorem s_ext (i : Nat) (he : PE' X c k1 e f) (hN : X.N[i]? = some x := by rfl) (hv : Vis X.env.scope x := by first | exact Or.inl rfl | exact Or.inr (Or.inl rfl) | exact Or.inr (Or.inr rfl)) (hd : (x == ("__debug__" : Str)) = false := by decide)
    (hcd : (x == ("__classdict__" : Str)) = false := by decide) (h2 : (apos.endLine == cpos.line) = true := by rfl) (h3 : starEach [e] X.env = [(false, eval e X.env)] := by rfl) (hs : swapsWith (.Call (.Attribute (.Name x p') "extend" apos) [e] [] cpos) none pos.line X.env = pure false := by rfl) :
    PS' X c fr [i + 1000] (.Expr (.Call (.Attribute (.Name x p') "extend" apos) [e] [] cpos) pos) (sExt i f) :=
  psI (ps_expr (pe_bm PySem.F.plainAttrs_list PySem.F.slot_list_extend PySem.F.type_list_extend mt_extend (pe_var hN hv hd hcd) (pa_cons he pa_nil h3) rfl (by rw [h3]; rfl) h2 h3 rfl) hs) fun Dn σ H ⟨G, S, rel, p⟩ => by
    have p : PostS c fr [i + 1000] G S σ H Dn (ownL i S >>= fun ds => f S >>= fun d => match d with
      | .lst es => if ds.length + es.length ≤ sizeLine then .ok (.nx, S.set i (some ⟨true, .lst (ds ++ es)⟩)) else .fail
      | _ => .fail) := p
    cases e0 : ownL i S with
    | exc x => exact absurd e0 ownL_exc
    | fail => rw [e0] at p; exact p.elim
    | ok ds =>
      rw [e0, R.ok_bind] at p
      have hS := ownL_of e0
      obtain ⟨l, o, es, hg, h0, ho, ct⟩ := rel.ow i _ hS
      cases ct with
      | @lst ds' vs r =>
        refine ⟨_, es, .inl ⟨rfl, vs, SqL.of ho⟩, ?_⟩
        refine rdE_go (Post := PostS c fr [i + 1000] G S σ H Dn) rel p (fun _ z => z _) (fun z => z) fun d v G' H' sp q p1 => ?_
        cases d with
        | lst es' =>
          have p1 : PostS c fr [i + 1000] G S σ H Dn (if ds.length + es'.length ≤ sizeLine then .ok (.nx, S.set i (some ⟨true, .lst (ds ++ es')⟩)) else .fail) := p1
          by_cases hl : ds.length + es'.length ≤ sizeLine
          · rw [if_pos hl] at p1
            have rel' := rel.grow sp
            have ow : OwnAt S σ i l := ⟨⟨_, hS⟩, es⟩
            obtain ⟨m, ws, rfl, hm, rm⟩ := q.now.lst sp.gh
            refine ⟨l, m, vs, ws, rfl, rfl, sp.h _ _ ho, hm, by rw [← r.length, ← rm.length]; exact hl, p1 G' σ _ sp.g (rel'.mut ow (.lst ((r.mono sp.g).append rm))) ((Frm.step (as := []) rel sp).trans (Frm.mut rel' ow))⟩
          · rw [if_neg hl] at p1; exact p1.elim
        | _ => exact p1.elim
/-- y = x.pop() -/
def sPop (j i : Nat) : FS := fun S => ownL i S >>= fun ds => match ds[ds.length - 1]? with
  | some d => .ok (.nx, (S.set i (some ⟨true, .lst ds.dropLast⟩)).set j (some ⟨false, d⟩))
  | none => .fail
theorem RDs.dropLast {k : Kn} {G : Hp} {ds : List D} {vs : List V} (r : RDs k G ds vs) : RDs k G ds.dropLast vs.dropLast := by
  rw [List.dropLast_eq_take, List.dropLast_eq_take, r.length]; exact r.take _
theorem s_pop (j i : Nat) {y : Str} {py : Pos} (hNd : X.N.Nodup) (hj : X.N[j]? = some y := by rfl) (hx : Loc X.env.scope y := by first | exact Or.inl rfl | exact Or.inr rfl) (hf : X.fn y = true ∨ X.env.scope.names.lookup y = some .local := by first | exact .inl rfl | exact .inr rfl)
    (hN : X.N[i]? = some x := by rfl) (hv : Vis X.env.scope x := by first | exact Or.inl rfl | exact Or.inr (Or.inl rfl) | exact Or.inr (Or.inr rfl)) (hd : (x == ("__debug__" : Str)) = false := by decide)
    (hcd : (x == ("__classdict__" : Str)) = false := by decide) (h2 : (apos.endLine == cpos.line) = true := by rfl) (hs : swapsWith (.Call (.Attribute (.Name x p') "pop" apos) [] [] cpos) (some (.Name y py)) pos.line X.env = pure false := by rfl) :
    PS' X c fr [i + 1000, j] (.Assign [.Name y py] (.Call (.Attribute (.Name x p') "pop" apos) [] [] cpos) pos) (sPop j i) :=
  psI (ps_set hNd hj hx (pe_bm0 PySem.F.plainAttrs_list PySem.F.slot_list_pop PySem.F.type_list_pop mt_pop (pe_var hN hv hd hcd) rfl h2) hs hf) fun Dn σ H ⟨G, S, rel, p⟩ => by
    have p : PostS c fr [i + 1000, j] G S σ H Dn (ownL i S >>= fun ds => match ds[ds.length - 1]? with
      | some d => .ok (.nx, (S.set i (some ⟨true, .lst ds.dropLast⟩)).set j (some ⟨false, d⟩))
      | none => .fail) := p
    cases e0 : ownL i S with
    | exc x => exact absurd e0 ownL_exc
    | fail => rw [e0] at p; exact p.elim
    | ok ds =>
      rw [e0, R.ok_bind] at p
      have hS := ownL_of e0
      obtain ⟨l, o, es, hg, h0, ho, ct⟩ := rel.ow i _ hS
      cases ct with
      | @lst ds' vs r =>
        cases e1 : ds[ds.length - 1]? with
        | none => rw [e1] at p; exact p.elim
        | some d =>
          rw [e1] at p
          obtain ⟨v, hv1, hv2⟩ := r.get e1
          have ow : OwnAt S σ i l := ⟨⟨_, hS⟩, es⟩
          refine ⟨_, es, .inl ⟨rfl, vs, SqL.of ho⟩, l, vs, v, rfl, rfl, ho, by rw [← r.length]; exact hv1, ?_⟩
          have rel' := rel.mut ow (.lst r.dropLast)
          exact p G _ _ (Ex.refl _) (rel'.setS j hv2) ((Frm.mut rel ow).trans (Frm.set j _ _))
/-- x[i] = e -/
def sSub (i : Nat) (fj f : FE) : FS := fun S => ownL i S >>= fun ds => f S >>= fun d => fj S >>= fun j => match j with
  | .int n => match ixN ds.length n with
    | some m => .ok (.nx, S.set i (some ⟨true, .lst (ds.set m d)⟩))
    | none => .fail
  | _ => .fail
theorem s_sub (i : Nat) {ix : Expr} {fj : FE} {px ps : Pos} (he : PE' X c .st e f) (hj : PE' X c k1 ix fj) (hN : X.N[i]? = some x := by rfl) (hv : Vis X.env.scope x := by first | exact Or.inl rfl | exact Or.inr (Or.inl rfl) | exact Or.inr (Or.inr rfl)) (hd : (x == ("__debug__" : Str)) = false := by decide)
    (hcd : (x == ("__classdict__" : Str)) = false := by decide) (hsub : ∀ (v : Value), assign (.Subscript (.Name x px) ix ps) X.env v = (do let ov ← holding [v] (eval (.Name x px) X.env); let iv ← holding [v, ov] (eval ix X.env); standAt ps; holding [v, ov, iv] (setItem ov iv v); release [v, ov, iv] []) := by intro _; rfl)
    (hs : swapsWithSole [.Subscript (.Name x px) ix ps] e pos.line X.env = pure false := by rfl) (hw : swappedStores [.Subscript (.Name x px) ix ps] e X.env = pure none := by rfl) (h1 : (assignEach [.Subscript (.Name x px) ix ps] X.env).map (·.2) = [assign (.Subscript (.Name x px) ix ps) X.env] := by rfl) :
    PS' X c fr [i + 1000] (.Assign [.Subscript (.Name x px) ix ps] e pos) (sSub i fj f) :=
  psI (ps_asg he (pg_sub (pe_var hN hv hd hcd) hj set_list hsub) hs hw h1) fun Dn σ H ⟨G, S, rel, p⟩ => by
    have p : PostS c fr [i + 1000] G S σ H Dn (ownL i S >>= fun ds => f S >>= fun d => fj S >>= fun j => match j with
      | .int n => match ixN ds.length n with
        | some m => .ok (.nx, S.set i (some ⟨true, .lst (ds.set m d)⟩))
        | none => .fail
      | _ => .fail) := p
    cases e0 : ownL i S with
    | exc x => exact absurd e0 ownL_exc
    | fail => rw [e0] at p; exact p.elim
    | ok ds =>
      rw [e0, R.ok_bind] at p
      have hS := ownL_of e0
      obtain ⟨l, o, es, hg, h0, ho, ct⟩ := rel.ow i _ hS
      have ow : OwnAt S σ i l := ⟨⟨_, hS⟩, es⟩
      cases ct with
      | @lst ds' vs r =>
        refine rdE_go (Post := PostS c fr [i + 1000] G S σ H Dn) rel p (fun _ z => z _) (fun z => z) fun d v G1 H1 s1 q1 p1 => ?_
        refine ⟨_, es, ?_⟩
        refine rdE_go (Post := PostS c fr [i + 1000] G S σ H Dn) (rel.grow s1) p1 (fun _ z => z _) (fun z => z) fun j u G2 H2 s2 q2 p2 => ?_
        cases j with
        | int n =>
          obtain rfl := q2.now.int
          have p2 : PostS c fr [i + 1000] G S σ H Dn (match ixN ds.length n with
            | some m => .ok (.nx, S.set i (some ⟨true, .lst (ds.set m d)⟩))
            | none => .fail) := p2
          cases em : ixN ds.length n with
          | none => rw [em] at p2; exact p2.elim
          | some m =>
            rw [em] at p2
            have sp := s1.trans s2
            have rel' := rel.grow sp
            refine ⟨l, vs, n, m, rfl, rfl, sp.h _ _ ho, by rw [← r.length]; exact em, p2 G2 σ _ sp.g (rel'.mut ow (.lst ((r.mono sp.g).set m (RD.mono s2.g q1)))) ((Frm.step (as := []) rel sp).trans (Frm.mut rel' ow))⟩
        | _ => exact p2.elim
end
end M
set_option Elab.async false
set_option linter.all false
set_option maxRecDepth 100000
set_option maxHeartbeats 4000000
namespace M
open PySem L2
/-! ### fields by number -/
theorem zip_lookup : ∀ {nm : List Str} {vs : List V} {j : Nat} {f : Str} {v : V}, nm.Nodup → nm[j]? = some f → vs[j]? = some v → (nm.zip vs).lookup f = some v
  | [], _, j, _, _, _, h, _ => by simp at h
  | _ :: _, [], j, _, _, _, _, h => by simp at h
  | n :: nm, u :: vs, 0, f, v, _, h1, h2 => by
    simp at h1 h2; subst h1; subst h2; simp [List.lookup]
  | n :: nm, u :: vs, j + 1, f, v, hn, h1, h2 => by
    simp only [List.getElem?_cons_succ] at h1 h2
    have hne : f ≠ n := fun z => (List.nodup_cons.mp hn).1 (by rw [← z]; exact List.mem_of_getElem? h1)
    rw [List.zip_cons_cons, List.lookup_cons, beq_eq_false_iff_ne.mpr hne]
    exact zip_lookup (List.nodup_cons.mp hn).2 h1 h2
theorem zip_put : ∀ {nm : List Str} {vs : List V} {f : Str} {v : V}, nm.Nodup → nm[vs.length]? = some f → putF f v (nm.zip vs) = nm.zip (vs ++ [v])
  | [], vs, _, _, _, h => by simp at h
  | n :: nm, [], f, v, _, h => by
    simp at h; subst h
    simp [putF]
  | n :: nm, u :: vs, f, v, hn, h => by
    simp only [List.length_cons, List.getElem?_cons_succ] at h
    have hne : ¬ n = f := fun z => (List.nodup_cons.mp hn).1 (by rw [z]; exact List.mem_of_getElem? h)
    rw [List.zip_cons_cons, List.cons_append, List.zip_cons_cons, ← zip_put (List.nodup_cons.mp hn).2 h]
    simp only [putF]
    rw [if_neg hne]
/-- what is known of a class: its number, fields -/
structure ClsI (K : PySem.W.Frag) (k : Kn) (c : Nat) (nm : List Str) : Prop where
  ex : ∃ C, k.cl c = some (C, nm) ∧ Cls K C ∧ ∀ f, f ∈ nm → NoAttr K C f
  nd : nm.Nodup
  few : nm.length < 1000
section
variable {X : Cx} {c : Cf} {kd k1 k2 k3 : Kd} {a b e o : Expr} {f g h : FE} {pos apos cpos p' : Pos} {fr : Bool} {x : Str} {nm : List Str} {ci : Nat}
def fldD (ci j : Nat) : D → R D
  | .obj c ds => if c = ci then match ds[j]? with | some d => .ok d | none => .fail else .fail
  | _ => .fail
theorem d_fld (ci j : Nat) {fn : Str} (C : ClsI X.K c.k ci nm) (hj : nm[j]? = some fn) (he : PE' X c k1 o f) (hb : attributeBase o fn X.env (eval o X.env) = eval o X.env := by rfl) : PE' X c .st (.Attribute o fn pos) (e1 (fldD ci j) f) :=
  peI (pe_fld he hb) fun σ H Q q => e1_go (r := fun x H1 Q => ∃ a C dx fs v, x = .ref a ∧ H1 a = some (.ins C dx fs) ∧ Cls X.K C ∧ NoAttr X.K C fn ∧ fs.lookup fn = some v ∧ Q v H1) (fun G H d u r ex n hg Q p => by
    cases d with
    | obj c' ds =>
      simp only [fldD] at hg
      split at hg
      · rename_i hc
        subst hc
        split at hg
        · rename_i d' hd
          cases hg
          obtain ⟨ad, CA, dx, nm', vs, rfl, hcl, ha, hr⟩ := n.obj ex
          obtain ⟨CA', hcl', cl, na⟩ := C.ex
          rw [hcl] at hcl'; cases hcl'
          obtain ⟨v, hv, rv⟩ := hr.get hd
          exact ⟨ad, CA, dx, _, v, rfl, ha, cl, na _ (List.mem_of_getElem? hj), zip_lookup C.nd hj hv, p v G H (Step.refl ex) rv⟩
        · cases hg
      · cases hg
    | _ => simp [fldD] at hg) q
/-- self.f = e, the slot i owns the object; the field is the next one -/
def ownO (ci i : Nat) (S : Env) : R (List D) := match S[i]? with
  | some (some ⟨true, .obj c ds⟩) => if c = ci then .ok ds else .fail
  | _ => .fail
theorem ownO_of {ci i : Nat} {S : Env} {ds : List D} (h : ownO ci i S = .ok ds) : S[i]? = some (some ⟨true, .obj ci ds⟩) := by
  unfold ownO at h
  split at h
  · split at h
    · rename_i hc; subst hc; cases h; assumption
    · cases h
  · cases h
theorem ownO_exc {ci i : Nat} {S : Env} {x : Exc} : ownO ci i S ≠ .exc x := by unfold ownO; split; split <;> intro h <;> cases h; intro h; cases h
def sFldN (ci i j : Nat) (f : FE) : FS := fun S => ownO ci i S >>= fun ds => f S >>= fun d => if ds.length = j then .ok (.nx, S.set i (some ⟨true, .obj ci (ds ++ [d])⟩)) else .fail
theorem s_fld (ci i j : Nat) {fn : Str} {px : Pos} (C : ClsI X.K c.k ci nm) (hj : nm[j]? = some fn) (he : PE' X c .st e f) (hN : X.N[i]? = some x := by rfl) (hv : Vis X.env.scope x := by first | exact Or.inl rfl | exact Or.inr (Or.inl rfl) | exact Or.inr (Or.inr rfl)) (hd : (x == ("__debug__" : Str)) = false := by decide)
    (hcd : (x == ("__classdict__" : Str)) = false := by decide) (hs : swapsWith e (some (.Attribute (.Name x px) fn p')) pos.line X.env = pure false := by rfl) : PS' X c fr [i + 1000] (.Assign [.Attribute (.Name x px) fn p'] e pos) (sFldN ci i j f) :=
  psI (ps_fld (pe_var hN hv hd hcd) he hs) fun Dn σ H ⟨G, S, rel, p⟩ => by
    have p : PostS c fr [i + 1000] G S σ H Dn (ownO ci i S >>= fun ds => f S >>= fun d => if ds.length = j then .ok (.nx, S.set i (some ⟨true, .obj ci (ds ++ [d])⟩)) else .fail) := p
    cases e0 : ownO ci i S with
    | exc x => exact absurd e0 ownO_exc
    | fail => rw [e0] at p; exact p.elim
    | ok ds =>
      rw [e0, R.ok_bind] at p
      have hS := ownO_of e0
      obtain ⟨l, ob, es, hg, h0, ho, ct⟩ := rel.ow i _ hS
      have ow : OwnAt S σ i l := ⟨⟨_, hS⟩, es⟩
      cases ct with
      | @obj _ _ CA dx nm' vs hcl hr =>
        obtain ⟨CA', hcl', cl, na⟩ := C.ex
        rw [hcl] at hcl'; cases hcl'
        refine rdE_go (g := fun d => if ds.length = j then .ok (Fl.nx, S.set i (some ⟨true, .obj ci (ds ++ [d])⟩)) else .fail) (Post := PostS c fr [i + 1000] G S σ H Dn) rel p (fun _ z => z _) (fun z => z) fun d v G1 H1 s1 q1 p1 => ?_
        by_cases hl : ds.length = j
        · rw [if_pos hl] at p1
          have rel' := rel.grow s1
          have hl2 : vs.length = j := by rw [← hr.length]; exact hl
          refine ⟨_, es, l, CA, dx, _, rfl, s1.h _ _ ho, cl, na _ (List.mem_of_getElem? hj), ?_, ?_⟩
          · rw [List.length_zip]; exact Nat.lt_of_le_of_lt (Nat.min_le_left _ _) C.few
          · rw [zip_put C.nd (by rw [hl2]; exact hj)]
            exact p1 G1 σ _ s1.g (rel'.mut ow (.obj hcl ((hr.mono s1.g).append (.cons q1 .nil)))) ((Frm.step (as := []) rel s1).trans (Frm.mut rel' ow))
        · rw [if_neg hl] at p1; exact p1.elim
end
/-! ### __init__ -/
noncomputable def less (H : Hp) (x : Addr) : Hp := fun b => open Classical in if b = x then none else H b
/-- the promise of an __init__: the new object's fields -/
def PostN (k : Kn) (x : Addr) (G0 H : Hp) (Q : VK) (E : XK) : R D → Prop
  | .ok d => ∀ G' H' o, Ex G0 G' → (∀ b u, b ≠ x → H b = some u → H' b = some u) → Ex G' H' → G' x = none → (∀ b u, G' b = some u → G0 b = some u ∨ H b = none) → H' x = some o → Cont k G' d o → Q .non H'
  | .exc e => PXs ⟨k, less H x, G0, liftX E⟩ e
  | .fail => False
def SpN (k : Kn) (ci n : Nat) (den : List D → R D) : Sp := fun vs H Q E => vs.length = n ∧ ∃ x rest G0 ds C dx nm, vs = .ref x :: rest ∧ k.cl ci = some (C, nm) ∧ H x = some (.ins C dx []) ∧ G0 x = none ∧ Ex G0 H ∧ RDs k G0 ds rest ∧ PostN k x G0 H Q E (den ds)
def startN (n ci : Nat) (ds : List D) : Env := some ⟨true, .obj ci []⟩ :: (ds.map (fun d => some ⟨false, d⟩) ++ List.replicate (n - (ds.length + 1)) none)
def endN : R (Fl × Env) → R D
  | .ok (.nx, S) => match (S[(0 : Nat)]? : Option (Option Sl)) with
    | some (some ⟨true, d⟩) => .ok d
    | _ => .fail
  | .ok _ => .fail
  | .exc x => .exc x
  | .fail => .fail
def runN (n ci : Nat) (s : FS) (ds : List D) : R D := endN (s (startN n ci ds))
theorem less_self {H : Hp} {x : Addr} : less H x x = none := by unfold less; rw [if_pos rfl]
theorem less_ne {H : Hp} {x b : Addr} (h : b ≠ x) : less H x b = H b := by unfold less; rw [if_neg h]
theorem less_ex {H : Hp} {x : Addr} : Ex (less H x) H := fun b o h => by
  by_cases hb : b = x
  · subst hb; rw [less_self] at h; cases h
  · rw [less_ne hb] at h; exact h
theorem rel_startN {k : Kn} {E : XK} {H G0 : Hp} {N : List Str} {x C dx : Addr} {nm : List Str} {ci : Nat} {ds : List D} {rest : List V} (hcl : k.cl ci = some (C, nm)) (hx : H x = some (.ins C dx [])) (hg : G0 x = none) (e : Ex G0 H) (r : RDs k G0 ds rest) :
    Rel ⟨k, less H x, G0, liftX E⟩ G0 (startN N.length ci ds) (L2.start N (.ref x :: rest)) H := by
  have own : ∀ (i : Nat) (d : D), (startN N.length ci ds)[i]? = some (some ⟨true, d⟩) → i = 0 ∧ d = .obj ci [] := fun i d q => by
    unfold startN at q
    cases i with
    | zero => simp at q; exact ⟨rfl, q.symm⟩
    | succ i =>
      rw [List.getElem?_cons_succ, List.getElem?_append] at q
      split at q
      · rw [List.getElem?_map] at q
        cases h : ds[i]? <;> rw [h] at q <;> cases q
      · rw [List.getElem?_replicate] at q
        split at q <;> cases q
  have e0 : Ex G0 (less H x) := fun b o h => by rw [less_ne (ne_of_none h hg)]; exact e b o h
  refine ⟨⟨Ex.refl _, less_ex, e, fun _ _ h => .inl h⟩, by simp [startN, L2.start, r.length], fun i d q => ?_, fun i d q => ?_, fun i j a o1 o2 => ?_⟩
  · unfold startN at q
    cases i with
    | zero => simp at q
    | succ i =>
      rw [List.getElem?_cons_succ, List.getElem?_append] at q
      split at q
      · rw [List.getElem?_map] at q
        cases h : ds[i]? with
        | none => rw [h] at q; cases q
        | some d' =>
          rw [h] at q; cases q
          obtain ⟨v, h1, h2⟩ := r.get h
          refine ⟨v, ?_, h2⟩
          unfold L2.start
          rw [List.map_cons, List.cons_append, List.getElem?_cons_succ, List.getElem?_append_left (by rw [List.length_map]; exact (List.getElem?_eq_some_iff.mp h1).1), List.getElem?_map, h1]; rfl
      · rw [List.getElem?_replicate] at q
        split at q <;> cases q
  · obtain ⟨rfl, rfl⟩ := own i d q
    refine ⟨x, _, by simp [L2.start], hg, less_self, hx, ?_⟩
    have z : Cont k G0 (.obj ci []) (.ins C dx (nm.zip [])) := .obj hcl .nil
    rw [List.zip_nil_right] at z; exact z
  · obtain ⟨⟨d1, q1⟩, _⟩ := o1
    obtain ⟨⟨d2, q2⟩, _⟩ := o2
    rw [(own i d1 q1).1, (own j d2 q2).1]
theorem body_init {k : Kn} {as : List Nat} {N : List Str} {X : Cx} {body : List Stmt} {s : FS} {H : Hp} {vs : List V} {Q : VK} {E : XK} {n ci : Nat} (h0 : 0 ∉ as) (hb : ∀ H0 G0, PB' X ⟨k, H0, G0, liftX E⟩ false as body s) (q : SpN k ci n (runN N.length ci s) vs H Q E) :
    ∃ t, PSs X body t ∧ t { nx := fun _ H' => Q .non H', rt := Q } (L2.start N vs) H := by
  obtain ⟨hl, x, rest, G0, ds, C, dx, nm, rfl, hcl, hx, hg, e, r, p⟩ := q
  refine ⟨_, hb (less H x) G0, G0, _, rel_startN hcl hx hg e r, ?_⟩
  unfold runN at p
  cases e1 : s (startN N.length ci ds) with
  | exc y =>
    rw [e1] at p
    exact p
  | fail => rw [e1] at p; exact p.elim
  | ok z =>
    rw [e1] at p
    obtain ⟨fl, S1⟩ := z
    cases fl with
    | nx =>
      intro G' σ' H' ex rel fm
      have p : PostN k x G0 H Q E (match (S1[(0 : Nat)]? : Option (Option Sl)) with
        | some (some ⟨true, d⟩) => .ok d
        | _ => .fail) := p
      split at p
      · rename_i d hd
        obtain ⟨a, o, es, hg', h0', ho, ct⟩ := rel.ow 0 d hd
        have : σ'[0]? = some (some (.ref x)) := by rw [fm.sg 0 h0]; simp [L2.start]
        rw [this] at es; cases es
        refine p G' H' o ex (fun b u hb q => rel.st.h b u (by show less H x b = some u; rw [less_ne hb]; exact q)) rel.st.gh hg' (fun b u q => ?_) ho ct
        rcases rel.st.gr b u q with z | z
        · exact .inl z
        · by_cases hb : b = x
          · subst hb; rw [hg'] at q; cases q
          · exact .inr (by rw [← less_ne (H := H) hb]; exact z)
      · exact p.elim
    | bk => exact p.elim
    | ct => exact p.elim
    | rt d => exact p.elim
section
variable {P : Program} {w : World} {K : PySem.W.Frag} {mg : Str → Option Value} {base : Heap}
theorem init_ok {k : Kn} {as : List Nat} {x qual : Str} {params : Arguments} {body : List Stmt} {scope : Scope} {dvs : List V} {kws : List (Str × V)} {f : Addr} {fd : FuncData} {N ps : List Str} {lv ci : Nat} {s : FS} (F : FunD K x qual params body scope dvs kws f fd) (S : FnScope N ps scope) (h0 : 0 ∉ as)
    (hb : ∀ (cdv : Value) (A : Around) (outer : List PySem.Env) (sh : Shared) (H H0 G0 : Hp), Room lv (A.deeper (PyProof.Rows.envOfC qual scope sh.heap.objs.size f cdv)) → PB' (cxOf CX0 P w K mg base N qual scope f cdv A outer sh H E0).nox ⟨k, H0, G0, liftX E0⟩ false as body s) :
    FnOk P w K mg base CX0 (lv + 1) f fd ps (SpN k ci ps.length (fun ds => (runN N.length ci s ds).nox)) := by
  refine F.ok S (fun vs H Q E q => q.1) fun cdv A outer sh H vs Q E hr q => ?_
  have q' : SpN k ci ps.length (runN N.length ci s) vs H Q E0 := by
    obtain ⟨hl, x, rest, G0, ds, C, dx, nm, e1, hcl, hx, hg, e, r, p⟩ := q
    refine ⟨hl, x, rest, G0, ds, C, dx, nm, e1, hcl, hx, hg, e, r, ?_⟩
    dsimp only at p
    cases e1 : runN N.length ci s ds with
    | ok d => rw [e1] at p; exact p
    | exc x => rw [e1] at p; exact p.elim
    | fail => rw [e1] at p; exact p.elim
  obtain ⟨t, h1, h2⟩ := body_init (X := (cxOf CX0 P w K mg base N qual scope f cdv A outer sh H E0).nox) h0 (fun H0 G0 => hb cdv A outer sh H H0 G0 hr) q'
  exact ⟨t, h1.nox, h2⟩
end
/-- a class that is called -/
structure Mk0 (X : Cx) (k : Kn) (x : Str) (ci n : Nat) (den : List D → R D) : Prop where
  ex : ∃ (C f : Addr) (fd : FuncData) (lv : Nat) (ps : List Str) (nm : List Str), ps.length = n ∧ k.cl ci = some (C, nm) ∧ Mk X.K C f ∧ FnOk X.prog X.w X.K X.mg X.base CX0 lv f fd ps (SpN k ci n den) ∧ Room (lv + 1) X.A ∧ X.mg x = some (.ref C) ∧ Binds X.K fd ps []
section
variable {X : Cx} {c : Cf} {kd k1 k2 k3 : Kd} {a b e : Expr} {pos : Pos} {den : List D → R D} {ci : Nat}
theorem make_go {C : Addr} {nm : List Str} {n : Nat} {fa : FA} {σ : St} {H : Hp} {Q : VK} (hcl : c.k.cl ci = some (C, nm)) (hl : Len n fa) (q : RdE c .fr (eC den fa) σ H Q) :
    RdA c false fa σ H fun vs H1 => ∀ x dx, H1 x = none → H1 dx = none → dx ≠ x → SpN c.k ci (n + 1) den (.ref x :: (vs ++ [])) (upd (upd H1 dx (.own x)) x (.ins C dx [])) (fun v H2 => v = .non ∧ Q (.ref x) H2) E0 := by
  obtain ⟨G, S, rel, p⟩ := q
  have p : PostE c .fr G S σ H Q (fa S >>= fun ds => (den ds).nox) := p
  refine ⟨G, S, rel, ?_⟩
  cases e0 : fa S with
  | exc x => rw [e0] at p; exact p
  | fail => rw [e0] at p; exact p
  | ok ds =>
    rw [e0] at p
    intro vs G1 H1 s1 q1 x dx hx hdx hne
    have q1 : RDs c.k G1 ds vs := q1
    rw [List.append_nil]
    have hgx : G1 x = none := s1.gh.free hx
    have ex1 : Ex H1 (upd (upd H1 dx (.own x)) x (.ins C dx [])) := (Ex.new hdx).upd hx
    refine ⟨by simp [← q1.length, hl S ds e0], x, vs, G1, ds, C, dx, nm, rfl, hcl, upd_same, hgx, s1.gh.trans ex1, q1, ?_⟩
    have p : PostE c .fr G S σ H Q (den ds).nox := p
    cases e1 : den ds with
    | ok d =>
      rw [e1] at p
      intro G' H' o ex hk gh hgx' gr ho ct
      refine ⟨rfl, p _ G' H' (s1.trans ⟨ex, fun b u q => hk b u (ne_of_none q hx) (ex1 b u q), gh, fun b u q => ?_⟩) ⟨x, o, rfl, hgx', s1.h.free hx, ho, ct⟩⟩
      rcases gr b u q with z | z
      · exact .inl z
      · exact .inr (ex1.free z)
    | exc x => rw [e1] at p; exact p.elim
    | fail => rw [e1] at p; exact p.elim
theorem d_make {x : Str} {n : Nat} {p : Pos} {es : List Expr} {fa : FA} (F : Mk0 X c.k x ci (n + 1) den) (ha : PA' X c false (e :: es) fa) (hl : Len n fa) (hg : Gl X x := by rfl) (hdb : (x == ("__debug__" : Str)) = false := by decide)
    (hs : starEach (e :: es) X.env = (false, eval e X.env) :: starEach es X.env := by rfl) (hs2 : ((backTo pos (starEach es X.env)).any fun x => x.1) = false := by rfl) : PE' X c .fr (.Call (.Name x p) (e :: es) [] pos) (eC den fa) := by
  obtain ⟨C, f, fd, lv, ps, nm, hn, hcl, M, ok, hr, hm, hb⟩ := F.ex
  exact peI (pe_make M ok hr hg hm hb .nil pass0 ha hdb hs hs2) fun σ H Q q => make_go hcl hl q
end
end M
set_option Elab.async false
set_option linter.all false
set_option maxRecDepth 100000
set_option maxHeartbeats 4000000
namespace M
open PySem L2
section
variable {X : Cx} {k : Kn} {c : Cf} {kd k1 k2 k3 : Kd} {a b e o : Expr} {f g h : FE} {pos apos cpos p' : Pos} {fr : Bool}
/-! ### sorted(list) of data -/
theorem DpAll.zip {K : PySem.W.Frag} {H : Hp} : ∀ {xs : List V} {ds : List PyData}, DpAll K H xs ds → ∀ {us : List Value}, Vals xs us → PySem.W.EachIs (fun (u : Value) (b : V × PyData) => RelV b.1 u ∧ Dp K H b.1 b.2) us (xs.zip ds)
  | _, _, .nil, _, .nil => .nil
  | _, _, .cons a b, _, .cons r t => .cons ⟨r, a⟩ (DpAll.zip b t)
theorem EachIs.imp {α β : Type} {R R' : α → β → Prop} (h : ∀ a b, R a b → R' a b) : ∀ {as : List α} {bs : List β}, PySem.W.EachIs R as bs → PySem.W.EachIs R' as bs
  | _, _, .nil => .nil
  | _, _, .cons a b => .cons (h _ _ a) (EachIs.imp h b)
theorem each_vals : ∀ {us : List Value} {bs : List (V × PyData)}, PySem.W.EachIs (fun u b => RelV b.1 u) us bs → Vals (bs.map (·.1)) us
  | _, _, .nil => .nil
  | _, _, .cons a b => .cons a (each_vals b)
theorem DpAll.length {K : PySem.W.Frag} {H : Hp} : ∀ {xs : List V} {ds : List PyData}, DpAll K H xs ds → xs.length = ds.length
  | _, _, .nil => rfl
  | _, _, .cons _ b => by simp [DpAll.length b]
/-- the sort's own answer, by values and data -/
def rSrt (X : Cx) : List V → Hp → VK → Prop := fun vs H Q => ∃ a xs ds, vs = [V.ref a] ∧ SqL X.K H a xs ∧ DpAll X.K H xs ds ∧ PySem.W.AllAlike ds ∧ PySem.W.Sortable ds ∧ (∀ d, d ∈ ds → d.depth ≤ 60) ∧
  ∀ p, H p = none → Q (.ref p) (upd H p (.lst (((xs.zip ds).mergeSort (PySem.W.dataLe false (·.2))).map (·.1))))
theorem cr_srt (hu : X.A.units + 64 < cLine) : CallR X (.builtin "sorted") (rSrt X) := by
  intro pins s σ H vs us Q I r h
  obtain ⟨a, xs, ds, rfl, hs, hd, hal, hso, hdp, q⟩ := h
  obtain ⟨u, rfl, ru⟩ := vals1 r
  cases ru
  obtain ⟨its, rv, pl, hz⟩ := I.list hs
  have hlen := DpAll.length hd
  have hm : (xs.zip ds).map (·.2) = ds := by rw [List.map_snd_zip]; omega
  have ea := DpAll.zip hd rv
  refine PySem.W.sorted_data (enc := fun (b : V × PyData) => b.2) (R := fun u (b : V × PyData) => RelV b.1 u) (bs := xs.zip ds) pl.isList (EachIs.imp (fun _ _ z => z.1) ea) (EachIs.imp (fun u b z => Dp.reads I b.2 b.1 u z.2 z.1) ea) (by rw [hm]; exact hal) (by rw [hm]; exact hso) (by rw [List.length_zip]; omega) ?_ ?_
  · intro b hb
    have : b.2 ∈ ds := by rw [← hm]; exact List.mem_map.mpr ⟨b, hb, rfl⟩
    have := hdp _ this
    omega
  · intro out ho eo
    obtain ⟨m, F⟩ := I.fr
    obtain ⟨cn, _, N, _, kp⟩ := PySem.W.sorted_news (news := []) F (fun p hp => nomatch hp) its out
    have hobj := (N _ List.mem_cons_self).1
    have hv := each_vals eo
    refine ⟨.ref (s.heap.objs.size + 1), _, I.laid (a := s.heap.objs.size + 1) (t' := s.toks) (o := .lst _) kp (Nat.le_succ _) ⟨?_, out, cn, hv, hobj⟩, rfl, q _ (I.hok.fresh (Nat.le_succ _))⟩
    rw [List.length_map, List.length_mergeSort, List.length_zip]; omega
end
/-- Python's < of data -/
def dlt (x y : D) : Bool := PySem.W.dataLt x.toP y.toP
def dle (x y : D) : Bool := !dlt y x
mutual
/-- the two can be compared, place by place -/
def alikeD : D → D → Bool
  | .non, .non => true
  | .bl _, .bl _ => true
  | .int _, .int _ => true
  | .str _, .str _ => true
  | .lst xs, .lst ys => alikeDs xs ys
  | .tup xs, .tup ys => alikeDs xs ys
  | _, _ => false
def alikeDs : List D → List D → Bool
  | x :: xs, y :: ys => alikeD x y && alikeDs xs ys
  | [], _ => true
  | _ :: _, [] => true
end
mutual
theorem alikeD_of : ∀ (x y : D), alikeD x y = true → PySem.W.alike x.toP y.toP = true
  | .non, y, h => by cases y <;> first | (simp [D.toP, PySem.W.alike]; done) | (simp [alikeD] at h; done)
  | .bl _, y, h => by cases y <;> first | (simp [D.toP, PySem.W.alike]; done) | (simp [alikeD] at h; done)
  | .int _, y, h => by cases y <;> first | (simp [D.toP, PySem.W.alike]; done) | (simp [alikeD] at h; done)
  | .str _, y, h => by cases y <;> first | (simp [D.toP, PySem.W.alike]; done) | (simp [alikeD] at h; done)
  | .lst xs, y, h => by
    cases y with
    | lst ys => simp only [alikeD] at h; simp only [D.toP, PySem.W.alike]; exact alikeDs_of xs ys h
    | _ => simp [alikeD] at h
  | .tup xs, y, h => by
    cases y with
    | tup ys => simp only [alikeD] at h; simp only [D.toP, PySem.W.alike]; exact alikeDs_of xs ys h
    | _ => simp [alikeD] at h
  | .ty _, _, h => by simp [alikeD] at h
  | .dic _ _, _, h => by simp [alikeD] at h
  | .dit _ _, _, h => by simp [alikeD] at h
  | .obj _ _, _, h => by simp [alikeD] at h
  | .scr _, _, h => by simp [alikeD] at h
  | .cls _, _, h => by simp [alikeD] at h
theorem alikeDs_of : ∀ (xs ys : List D), alikeDs xs ys = true → PySem.W.alikeAll (D.toPs xs) (D.toPs ys) = true
  | [], _, _ => by simp [D.toPs, PySem.W.alikeAll]
  | _ :: _, [], _ => by simp [D.toPs, PySem.W.alikeAll]
  | x :: xs, y :: ys, h => by
    simp only [alikeDs, Bool.and_eq_true] at h
    simp only [D.toPs, PySem.W.alikeAll, Bool.and_eq_true]
    exact ⟨alikeD_of x y h.1, alikeDs_of xs ys h.2⟩
end
/-- an item that sorted takes: no None; a tuple has an item -/
def srtItem : D → Bool
  | .non => false
  | .tup [] => false
  | _ => true
def D.isTup : D → Bool
  | .tup _ => true
  | _ => false
def srtOk (ds : List D) : Bool := doks 59 ds && ds.all (fun x => ds.all fun y => alikeD x y) && ds.all srtItem
def srt (ds : List D) : List D := ds.mergeSort dle
theorem toPs_mem : ∀ {ds : List D} {p : PyData}, p ∈ D.toPs ds → ∃ d, d ∈ ds ∧ d.toP = p
  | [], _, h => by simp [D.toPs] at h
  | d :: ds, p, h => by
    simp only [D.toPs, List.mem_cons] at h
    rcases h with h | h
    · exact ⟨d, by simp, h.symm⟩
    · obtain ⟨d', h1, h2⟩ := toPs_mem h; exact ⟨d', by simp [h1], h2⟩
theorem doks_mem {n : Nat} : ∀ {ds : List D} {d : D}, doks n ds = true → d ∈ ds → dok n d = true
  | [], _, _, h => by simp at h
  | x :: ds, d, h, hm => by
    simp only [doks, Bool.and_eq_true] at h
    rcases List.mem_cons.mp hm with rfl | hm
    · exact h.1
    · exact doks_mem h.2 hm
theorem srt_sortable {ds : List D} (h : srtOk ds = true) : PySem.W.Sortable (D.toPs ds) := by
  unfold srtOk at h
  simp only [Bool.and_eq_true, List.all_eq_true] at h
  obtain ⟨⟨h1, h2⟩, h3⟩ := h
  cases ds with
  | nil => exact .inl fun d hd => by simp [D.toPs] at hd
  | cons d0 ds =>
    cases d0 with
    | tup xs =>
      refine .inl fun p hp => ?_
      obtain ⟨d, hd, rfl⟩ := toPs_mem hp
      have ha := h2 _ (List.mem_cons_self) d hd
      cases d with
      | tup ys =>
        have := h3 _ hd
        cases ys with
        | nil => simp [srtItem] at this
        | cons y ys => exact ⟨y.toP, D.toPs ys, by simp [D.toP, D.toPs]⟩
      | _ => simp [alikeD] at ha
    | _ =>
      refine .inr fun p hp => ?_
      obtain ⟨d, hd, rfl⟩ := toPs_mem hp
      have ha := h2 _ (List.mem_cons_self) d hd
      have hi := h3 _ hd
      cases d <;> first | (simp [alikeD] at ha; done) | (simp [srtItem] at hi; done) | (simp [D.toP]; done)
section
variable {X : Cx} {k : Kn}
theorem RDs.srt {G : Hp} {ds : List D} {vs : List V} (r : RDs k G ds vs) : RDs k G (M.srt ds) (((vs.zip (D.toPs ds)).mergeSort (PySem.W.dataLe false (·.2))).map (·.1)) := by
  have key : ∀ (bs : List (D × V)), (∀ b, b ∈ bs → RD k G b.1 b.2) → RDs k G (bs.map (·.1)) (bs.map (·.2)) := fun bs => by
    induction bs with
    | nil => intro _; exact .nil
    | cons b bs ih => intro h; exact .cons (h b (by simp)) (ih fun x hx => h x (by simp [hx]))
  have hl := r.length
  have z1 : (ds.zip vs).map (·.1) = ds := by rw [List.map_fst_zip]; omega
  have z2 : vs.zip (D.toPs ds) = (ds.zip vs).map fun b => (b.2, b.1.toP) := by
    clear r z1
    induction ds generalizing vs with
    | nil => cases vs <;> simp [D.toPs]
    | cons d ds ih =>
      cases vs with
      | nil => simp at hl
      | cons v vs => simp only [D.toPs, List.zip_cons_cons, List.map_cons]; rw [ih (by simpa using hl)]
  have e1 : M.srt ds = ((ds.zip vs).mergeSort fun a b => dle a.1 b.1).map (·.1) := by
    unfold M.srt
    rw [List.map_mergeSort (s := dle) (fun _ _ _ _ => rfl), z1]
  have e2 : ((vs.zip (D.toPs ds)).mergeSort (PySem.W.dataLe false (·.2))).map (·.1) = ((ds.zip vs).mergeSort fun a b => dle a.1 b.1).map (·.2) := by
    rw [z2, ← List.map_mergeSort (r := fun a b => dle a.1 b.1) (f := fun (b : D × V) => (b.2, b.1.toP)) (fun a _ b _ => by rw [PySem.W.dataLe_eq]; rfl), List.map_map]
    rfl
  rw [e1, e2]
  refine key _ fun b hb => ?_
  have hb : b ∈ ds.zip vs := List.mem_mergeSort.mp hb
  have : ∀ {ds : List D} {vs : List V}, RDs k G ds vs → ∀ b, b ∈ ds.zip vs → RD k G b.1 b.2 := fun {ds vs} r => by
    intro b hb
    obtain ⟨i, hi, rfl⟩ := List.mem_iff_getElem.mp hb
    rw [List.getElem_zip]
    have h1 : i < ds.length := by rw [List.length_zip] at hi; omega
    obtain ⟨v, hv, rv⟩ := r.get (List.getElem?_eq_getElem h1)
    have h2 : i < vs.length := by rw [List.length_zip] at hi; omega
    rw [List.getElem?_eq_getElem h2] at hv; cases hv
    exact rv
  exact this r b hb
def srtD : D → R D
  | .lst ds => if srtOk ds then .ok (.lst (srt ds)) else .fail
  | _ => .fail
theorem c_srt (hk : k.K = X.K) (hu : X.A.units + 64 < cLine) : ClR X k (.builtin "sorted") .fr (f1 srtD) := cl1 (cr_srt hu) fun G H x v d e n hg Q p => by
  cases x <;> simp only [srtD] at hg <;> first | (cases hg; done) | skip
  split at hg
  · rename_i ho
    cases hg; obtain ⟨a, vs, rfl, ha, r⟩ := n.lst e
    have hd : doks 59 _ = true := (by unfold srtOk at ho; simp only [Bool.and_eq_true] at ho; exact ho.1.1)
    refine ⟨a, vs, _, rfl, SqL.of ha, hk ▸ (r.mono e).dp 59 hd, fun p hp q hq => ?_, srt_sortable ho, fun q hq => ?_, fun pp hp => p _ _ _ (Step.new' e hp) ⟨pp, _, rfl, e.free hp, hp, upd_same, .lst r.srt⟩⟩
    · obtain ⟨d1, h1, rfl⟩ := toPs_mem hp
      obtain ⟨d2, h2, rfl⟩ := toPs_mem hq
      unfold srtOk at ho
      simp only [Bool.and_eq_true, List.all_eq_true] at ho
      exact alikeD_of _ _ (ho.1.2 d1 h1 d2 h2)
    · obtain ⟨d1, h1, rfl⟩ := toPs_mem hq
      have := (dok_lay 59 d1 (doks_mem hd h1)).2
      omega
  · cases hg
end
end M
set_option Elab.async false
set_option linter.all false
set_option maxRecDepth 100000
set_option maxHeartbeats 4000000
namespace M
open PySem L2
theorem _root_.L2.Room.units5 {k : Nat} {A : Around} (r : Room k A) : A.units + 65 < cLine := by have := r.un; omega
/-- a def, wherever it is called -/
structure Callee (P : Program) (w : World) (K : PySem.W.Frag) (mg : Str → Option Value) (base : Heap) (k : Kn) (lv : Nat) (x : Str) (n : Nat) (fr : Bool) (den : List D → R D) : Prop where
  ex : ∃ (f : Addr) (fd : FuncData) (ps : List Str), ps.length = n ∧ FnOk P w K mg base CX0 lv f fd ps (SpF k fr n den) ∧ mg x = some (.ref f) ∧ PySem.W.keepIn K (.ref f) = true ∧ Binds K fd ps []
theorem Callee.mk' {P : Program} {w : World} {K : PySem.W.Frag} {mg : Str → Option Value} {base : Heap} {k : Kn} {lv : Nat} {x : Str} {n : Nat} {fr : Bool} {den : List D → R D} (f : Addr) (fd : FuncData) (ps : List Str) (hn : ps.length = n) (h1 : FnOk P w K mg base CX0 lv f fd ps (SpF k fr n den)) (h2 : mg x = some (.ref f)) (h3 : PySem.W.keepIn K (.ref f) = true) (h4 : Binds K fd ps []) :
    Callee P w K mg base k lv x n fr den := ⟨f, fd, ps, hn, h1, h2, h3, h4⟩
theorem Callee.at {X : Cx} {k : Kn} {lv m : Nat} {x : Str} {n : Nat} {fr : Bool} {den : List D → R D} (h : Callee X.prog X.w X.K X.mg X.base k lv x n fr den) (hr : Room m X.A) (hle : lv ≤ m) : Fn0 X k x n fr den := by
  obtain ⟨f, fd, ps, hn, h1, h2, h3, h4⟩ := h.ex
  exact ⟨f, fd, lv, ps, hn, h1, hr.mono hle, h2, h3, h4⟩
/-- a name of the module that stands for a datum -/
structure Gc (mg : Str → Option Value) (k : Kn) (x : Str) (d : D) : Prop where
  ex : ∃ v u, mg x = some u ∧ RelV v u ∧ ∀ G, RD k G d v
section
variable {X : Cx} {c : Cf} {k : Kn} {kd k1 k2 k3 : Kd} {a b e o : Expr} {f g h : FE} {pos apos cpos p' : Pos} {fr : Bool} {x y : Str}
def eG (d : D) : FE := fun _ => .ok d
theorem d_g {d : D} (h : Gc X.mg c.k x d) (hg : Gl X x := by rfl) (hd : (x == ("__debug__" : Str)) = false := by decide) : PE' X c .st (.Name x pos) (eG d) := by
  obtain ⟨v, u, hm, r, rd⟩ := h.ex
  exact cst_of (pe_glob hg hm r hd) rd
/-- a built-in class as a value -/
def eY (n : String) : FE := fun _ => .ok (.ty n)
theorem d_ty (n : String) (hm : X.mg x = none) (hv : bootBuiltins x = some (.type n) := by decide +kernel) (hg : Gl X x := by rfl) (hn : x ≠ "__name__" := by decide) (hd : (x == ("__debug__" : Str)) = false := by decide) : PE' X c .st (.Name x pos) (eY n) :=
  cst_of (pe_bltn (v := .ty n) hg hm hv rfl hn hd) fun _ => .ty n
/-! ### isinstance against built-in classes -/
def tyN : D → Option String
  | .non => some "NoneType"
  | .bl _ => some "bool"
  | .int _ => some "int"
  | .str _ => some "str"
  | .tup _ => some "tuple"
  | .lst _ => some "list"
  | .dic _ _ => some "dict"
  | .dit _ _ => some "dict"
  | _ => none
theorem Now.tyX (hk : k.K = X.K) {G H : Hp} {d : D} {v : V} {n : String} (e : Ex G H) (w : Now k G H d v) (h : tyN d = some n) : TyX X.K H v (.type n) := by
  cases d <;> simp only [tyN] at h <;> first | (cases h; done) | skip
  · cases h; obtain rfl := w.non; exact .base .non
  · cases h; obtain rfl := w.bl; exact .base (.bl _)
  · cases h; obtain rfl := w.int; exact .base (.int _)
  · cases h; obtain rfl := w.str; exact .base (.str _)
  · cases h; obtain ⟨a, vs, rfl, ha, r⟩ := w.tup
    rcases e.sqU ha with q | ⟨o, its, m, q1, q2, q3⟩
    · exact .base (.tup q)
    · exact .kTuple (hk ▸ q1) q2
  · cases h; obtain ⟨a, vs, rfl, ha, r⟩ := w.lst e; exact .base (.lst ha)
  · cases h; obtain ⟨a, vs, rfl, ha, r⟩ := w.dic e; exact .base (.dK ha)
  · cases h; obtain ⟨a, vs, rfl, ha, r⟩ := w.dit e; exact .base (.dT ha)
def isiD : D → D → R D
  | x, .ty b => (match tyN x with
    | some a => (match kitB a b with
      | some r => .ok (.bl r)
      | none => .fail)
    | none => .fail)
  | _, _ => .fail
theorem c_isi (hk : k.K = X.K) : ClR X k (.builtin "isinstance") .st (f2 isiD) := cl2 call_isi fun G H x v y u d e n m hg Q p => by
  unfold isiD at hg
  split at hg
  · split at hg
    · rename_i ha
      split at hg
      · rename_i hb
        cases hg; obtain rfl := m.ty
        exact ⟨v, _, _, _, _, rfl, .ty _, n.tyX hk e ha, kit_ty hb, p _ G H (Step.refl e) (.bl _)⟩
      · cases hg
    · cases hg
  · cases hg
/-! ### slices -/
theorem SlR.or {r r' : V → Option Int → Option Int → Hp → VK → Prop} (h : SlR X r) (h' : SlR X r') : SlR X (fun x l u H Q => r x l u H Q ∨ r' x l u H Q) := fun pins s σ H x v vl vu lo hi sl Q I rx hs h1 h2 q => by
  rcases q with q | q
  · exact h pins s σ H x v vl vu lo hi sl Q I rx hs h1 h2 q
  · exact h' pins s σ H x v vl vu lo hi sl Q I rx hs h1 h2 q
abbrev FO := Env → R (Option Int)
def PostO (c : Cf) (G : Hp) (S : Env) (σ : St) (H : Hp) (Q : Option Int → Hp → Prop) : R (Option Int) → Prop
  | .ok b => ∀ G' H', Step G H G' H' → Q b H'
  | .exc x => PX c σ x
  | .fail => False
def RdO (c : Cf) (f : FO) : TO := fun σ H Q => ∃ G S, Rel c G S σ H ∧ PostO c G S σ H Q (f S)
abbrev PO' (X : Cx) (c : Cf) (e : Option Expr) (f : FO) : Prop := PO X e (RdO c f)
def oN : FO := fun _ => .ok none
def toI : D → R (Option Int)
  | .int i => .ok (some i)
  | _ => .fail
def oS (f : FE) : FO := fun S => f S >>= toI
theorem d_on : PO' X c none oN := poI po_none fun σ H Q ⟨G, S, rel, p⟩ => p G H (Step.refl rel.st.gh)
theorem d_os (he : PE' X c k1 e f) : PO' X c (some e) (oS f) := poI (po_some he) fun σ H Q ⟨G, S, rel, p⟩ => by
  refine rdE_go (g := toI) (Post := PostO c G S σ H Q) rel p (fun _ z => z) (fun z => z) fun d v G' H' s q p1 => ?_
  cases d with
  | int i => exact ⟨i, q.now.int, p1 G' H' s⟩
  | _ => exact p1.elim
def cutL {α : Type} (xs : List α) (lo hi : Option Int) : List α := List.take (HT.sIx xs.length xs.length hi - HT.sIx xs.length 0 lo) (List.drop (HT.sIx xs.length 0 lo) xs)
def slD (x : D) (lo hi : Option Int) : R D := match x with
  | .lst xs => .ok (.lst (cutL xs lo hi))
  | .tup xs => .ok (.tup (cutL xs lo hi))
  | .str z => if z.length ≤ sizeLine then .ok (.str (cutS z lo hi)) else .fail
  | _ => .fail
def eSl (f : FE) (l h : FO) : FE := fun S => f S >>= fun x => l S >>= fun lo => h S >>= fun hi => (slD x lo hi).nox
theorem RDs.cutL {G : Hp} {ds : List D} {vs : List V} (r : RDs k G ds vs) (lo hi : Option Int) : RDs k G (M.cutL ds lo hi) (cutV vs lo hi) := by
  unfold M.cutL cutV
  rw [← r.length]
  exact (r.drop _).take _
theorem rdO_go {f : FO} {G H : Hp} {S : Env} {σ : St} {Q : Option Int → Hp → Prop} {β : Type} {g : Option Int → R β} {Post : R β → Prop} (r : Rel c G S σ H) (p : Post (f S >>= g))
    (hx : ∀ x, Post (.exc x) → PX c σ x) (hf : Post .fail → False) (k : ∀ d G' H', Step G H G' H' → Post (g d) → Q d H') : RdO c f σ H Q := by
  refine ⟨G, S, r, ?_⟩
  cases e : f S with
  | ok d => rw [e] at p; exact fun G' H' s => k d G' H' s p
  | exc x => rw [e] at p; exact hx x p
  | fail => rw [e] at p; exact hf p
theorem d_sl {lo hi : Option Expr} {fl fh : FO} {p2 : Pos} (hk : c.k.K = X.K) (he : PE' X c k1 e f) (hl : PO' X c lo fl) (hh : PO' X c hi fh) : PE' X c .st (.Subscript e (.Slice lo hi none p2) pos) (eSl f fl fh) :=
  peI (pe_slice (SlR.or sl_list (SlR.or sl_tupA sl_str)) he hl hh) fun σ H Q ⟨G, S, rel, p⟩ => by
    refine rdE_go (g := fun x => fl S >>= fun lo => fh S >>= fun hi => (slD x lo hi).nox) (Post := PostE c .st G S σ H Q) rel p (fun _ z => z) (fun z => z) fun d v G1 H1 s1 q1 p1 => ?_
    refine rdO_go (g := fun lo => fh S >>= fun hi => (slD d lo hi).nox) (Post := PostE c .st G S σ H Q) (rel.grow s1) p1 (fun _ z => z) (fun z => z) fun lo G2 H2 s2 p2 => ?_
    refine rdO_go (g := fun hi => (slD d lo hi).nox) (Post := PostE c .st G S σ H Q) ((rel.grow s1).grow s2) p2 (fun _ z => z) (fun z => z) fun hi G3 H3 s3 p3 => ?_
    have n := (q1.now.grow s2).grow s3
    have sp := (s1.trans s2).trans s3
    cases d with
    | lst xs =>
      obtain ⟨a, vs, rfl, ha, r⟩ := n.lst s3.gh
      exact .inl ⟨a, vs, rfl, SqL.of ha, fun p hp => p3 _ _ _ (sp.trans (Step.new s3.gh hp)) (.lst upd_same ((r.cutL lo hi).mono (Ex.new (s3.gh.free hp))))⟩
    | tup xs =>
      obtain ⟨a, vs, rfl, ha, r⟩ := n.tup
      refine .inr (.inl ⟨a, vs, rfl, hk ▸ s3.gh.sqT ha.t, fun z => ?_, fun _ p hp => p3 _ _ _ (sp.trans (Step.new s3.gh hp)) (.tup (SqU.of upd_same) ((r.cutL lo hi).mono (Ex.new (s3.gh.free hp))))⟩)
      have e1 : cutL xs lo hi = xs := by
        unfold cutL
        rw [r.length, z.1, z.2, List.drop_zero, Nat.sub_zero, ← r.length, List.take_length]
      have p3 : PostE c .st G S σ H Q (.ok (.tup (cutL xs lo hi))) := p3
      rw [e1] at p3
      exact p3 _ _ _ sp (.tup ha r)
    | str z =>
      obtain rfl := n.str
      have p3 : PostE c .st G S σ H Q (if z.length ≤ sizeLine then .ok (.str (cutS z lo hi)) else .fail : R D).nox := p3
      by_cases hz : z.length ≤ sizeLine
      · rw [if_pos hz] at p3
        exact .inr (.inr ⟨z, rfl, hz, p3 _ _ _ sp (.str _)⟩)
      · rw [if_neg hz] at p3; exact p3.elim
    | _ => exact p3.elim
/-- xs[::-1] -/
def revD : D → R D
  | .lst xs => .ok (.lst xs.reverse)
  | _ => .fail
theorem d_rev {kk : Nat} {p1 p2 p3 : Pos} (he : PE' X c k1 e f) : PE' X c .fr (.Subscript e (.Slice none none (some (.UnaryOp .USub (.Constant (.int 1) kk p1) p2)) p3) pos) (e1 revD f) :=
  peI (pe_revL he) fun σ H Q q => e1_go (r := fun x H1 Q => ∃ a xs, x = V.ref a ∧ SqL X.K H1 a xs ∧ ∀ p, H1 p = none → Q (V.ref p) (upd H1 p (.lst xs.reverse))) (fun G H d u r ex n hg Q p => by
    cases d <;> simp only [revD] at hg <;> first | (cases hg; done) | skip
    cases hg; obtain ⟨a, vs, rfl, ha, r⟩ := n.lst ex
    exact ⟨a, vs, rfl, SqL.of ha, fun pp hp => p _ _ _ (Step.new' ex hp) ⟨pp, _, rfl, ex.free hp, hp, upd_same, .lst r.reverse⟩⟩) q
/-- [..] * n, new -/
def mulL : D → D → R D
  | .lst xs, .int j => if -(2 ^ 63) ≤ j ∧ j < 2 ^ 63 ∧ xs.length * j.toNat ≤ sizeLine then .ok (.lst (List.replicate j.toNat xs).flatten) else .fail
  | _, _ => .fail
theorem o_mulL : Op2 X k (binaryOp .Mult) .fr mulL := by
  refine ⟨_, op_rep, ?_⟩
  intro G H x y u v d e nx ny hg Q q
  unfold mulL at hg
  split at hg
  · split at hg
    · rename_i hc
      cases hg; obtain rfl := ny.int
      obtain ⟨a, vs, rfl, ha, ra⟩ := nx.lst e
      exact ⟨a, _, vs, rfl, rfl, ha, hc.1, hc.2.1, by rw [← ra.length]; exact hc.2.2, fun p hp => q _ _ _ (Step.new' e hp) ⟨p, _, rfl, e.free hp, hp, upd_same, .lst (ra.rep _)⟩⟩
    · cases hg
  · cases hg
/-! ### statements -/
/-- a new object goes to a slot, frozen -/
theorem setF_go {i : Nat} {Dn : Ends} {σ : St} {H : Hp} (q : RdS c fr [i] (sSet i f) Dn σ H) : RdE c .fr f σ H fun x H1 => gName i x σ H1 Dn.nx := by
  obtain ⟨G, S, rel, p⟩ := q
  refine rdE_go (g := fun d => .ok (Fl.nx, S.set i (some ⟨false, d⟩))) (Post := PostS c fr [i] G S σ H Dn) rel p (fun _ z => z _) (fun z => z) fun d v G' H' sp q p1 => ?_
  obtain ⟨a, o, rfl, hg, hn, ha, ct⟩ := q
  have sp2 : Step G H (upd G' a o) H' := sp.frz ha hn hg
  exact p1 _ _ H' sp2.g ((rel.grow sp2).setS i ((ct.mono (Ex.new hg)).rd upd_same)) ((Frm.step (as := []) rel sp2).trans (Frm.set i _ _))
theorem s_lcZ (i : Nat) {py spos : Pos} {tg elt iter : Expr} {t : FT} {ifs : List Expr} {scope : Scope} (own : List (Str × Nat)) {ki gs : List Nat} {fi : FI} {ga : FG} {fe : FE} (hc : X.calm = true) (hN : X.N.Nodup) (hi : PI' X c ki tg iter fi) (ok : BlkOk X.N X.env.scope scope own)
    (hg : ∀ (s : Shared) (H : Hp) (C : Addr) (cl : List (Str × Addr)) (fp : List Addr), PG' (X.blk s H scope (compEnvC scope cl C X.env) fp) c.nx gs tg ga) (ht : ∀ (s : Shared) (H : Hp) (C : Addr) (cl : List (Str × Addr)) (fp : List Addr), PTs' (X.blk s H scope (compEnvC scope cl C X.env) fp) c.nx ifs t)
    (he : ∀ (s : Shared) (H : Hp) (C : Addr) (cl : List (Str × Addr)) (fp : List Addr), PE' (X.blk s H scope (compEnvC scope cl C X.env) fp) c.nx .st elt fe) (hy : X.N[i]? = some y := by rfl) (hyl : X.env.scope.names.lookup y = some .local := by rfl)
    (hsw : swapsWith (.ListComp elt [⟨tg, iter, ifs, 0⟩] scope pos) (some (.Name y py)) spos.line X.env = pure true := by exact sw_true rfl rfl rfl (by decide +kernel)) (hgs : ∀ i, i ∈ gs → i ∈ own.map (·.2) := by decide) (hs : ∀ x, foldedSetIterable iter X.env x = pure x := by intro _; rfl) :
    PS' X c fr [i] (.Assign [.Name y py] (.ListComp elt [⟨tg, iter, ifs, 0⟩] scope pos) spos) (sSet i (lcE fi ga t fe (own.map (·.2)))) :=
  psI (ps_setLc hc hN hy hyl hsw hi ok hg ht he hs) fun Dn σ H q => lc_go (fun _ _ _ _ z => z) (fun _ _ _ z => z) (fun _ _ _ z => z) hgs (setF_go q)
/-- x op= e, ints -/
def sAug (i : Nat) (o : D → D → R D) (f : FE) : FS := fun S => eV i S >>= fun x => f S >>= fun y => (o x y).nox >>= fun z => .ok (.nx, S.set i (some ⟨false, z⟩))
theorem eV_exc {i : Nat} {S : Env} {x : Exc} : eV i S ≠ .exc x := by unfold eV; split <;> intro h <;> cases h
theorem eV_of {i : Nat} {S : Env} {d : D} (h : eV i S = .ok d) : S[i]? = some (some ⟨false, d⟩) := by
  unfold eV at h
  split at h
  · cases h; assumption
  · cases h
def IpI (X : Cx) (op : Operator) (o : D → D → R D) : Prop := ∃ gf : Int → Int → Int, PIp X op (ipI gf) ∧ ∀ x y d, o x y = .ok d → (∀ i j, x = .int i → y = .int j → d = .int (gf i j))
theorem i_add : IpI X .Add addD := ⟨_, ip_add, fun x y d h i j e1 e2 => by subst e1; subst e2; simp only [addD] at h; cases h; rfl⟩
theorem i_sub : IpI X .Sub subD := ⟨_, ip_sub, fun x y d h i j e1 e2 => by subst e1; subst e2; simp only [subD] at h; cases h; rfl⟩
/-- both are ints -/
def bothI : D → D → Bool
  | .int _, .int _ => true
  | _, _ => false
def sAugI (i : Nat) (o : D → D → R D) (f : FE) : FS := fun S => eV i S >>= fun x => f S >>= fun y => if bothI x y then (o x y).nox >>= fun z => .ok (.nx, S.set i (some ⟨false, z⟩)) else .fail
theorem s_aug (i : Nat) {op : Operator} {oo : D → D → R D} (ho : IpI X op oo) (hN : X.N.Nodup) (he : PE' X c k1 e f) (hi : X.N[i]? = some x := by rfl) (hx : Loc X.env.scope x := by first | exact Or.inl rfl | exact Or.inr rfl) (hf : X.fn x = true ∨ X.env.scope.names.lookup x = some .local := by first | exact .inl rfl | exact .inr rfl) :
    PS' X c fr [i] (.AugAssign (.Name x p') op e pos) (sAugI i oo f) := by
  obtain ⟨gf, h1, h2⟩ := ho
  refine psI (ps_aug hN hi hx he h1 hf) fun Dn σ H ⟨G, S, rel, p⟩ => ?_
  have p : PostS c fr [i] G S σ H Dn (eV i S >>= fun x => f S >>= fun y => if bothI x y then (oo x y).nox >>= fun z => .ok (.nx, S.set i (some ⟨false, z⟩)) else .fail) := p
  cases e0 : eV i S with
  | exc x => exact absurd e0 eV_exc
  | fail => rw [e0] at p; exact p.elim
  | ok d =>
    rw [e0, R.ok_bind] at p
    obtain ⟨v, es, rv⟩ := rel.fz i d (eV_of e0)
    refine ⟨v, es, ?_⟩
    refine rdE_go (Post := PostS c fr [i] G S σ H Dn) rel p (fun _ z => z _) (fun z => z) fun d2 v2 G' H' sp q p1 => ?_
    by_cases hb : bothI d d2 = true
    · rw [if_pos hb] at p1
      cases d <;> first | (simp [bothI] at hb; done) | skip
      cases d2 <;> first | (simp [bothI] at hb; done) | skip
      rename_i a1 a2
      cases rv
      obtain rfl := q.now.int
      cases e1 : oo (.int a1) (.int a2) with
      | exc x => rw [e1] at p1; exact p1.elim
      | fail => rw [e1] at p1; exact p1.elim
      | ok z =>
        rw [e1] at p1
        have := h2 _ _ _ e1 a1 a2 rfl rfl
        subst this
        exact ⟨a1, a2, rfl, rfl, p1 G' _ H' sp.g ((rel.grow sp).setS i (.int _)) ((Frm.step (as := []) rel sp).trans (Frm.set i _ _))⟩
    · rw [if_neg hb] at p1; exact p1.elim
/-- a, b = x, y and a, b, c = x, y, z -/
def putS (S : Env) : List Nat → List D → Env
  | i :: is, d :: ds => putS (S.set i (some ⟨false, d⟩)) is ds
  | _, _ => S
def sPar (is : List Nat) (fa : FA) : FS := fun S => fa S >>= fun ds => if ds.length = is.length then .ok (.nx, putS S is ds) else .fail
theorem s_par2 (i j : Nat) {fa : FA} {px py pt pt2 : Pos} {kt kk : Nat} (hN : X.N.Nodup) (ha : PA' X c false [a, b] fa) (hi : X.N[i]? = some x := by rfl) (hj : X.N[j]? = some y := by rfl) (hij : i ≠ j := by decide) (hx : X.env.scope.names.lookup x = some .local := by rfl) (hy : X.env.scope.names.lookup y = some .local := by rfl)
    (hc : X.calm = true := by rfl) (hsw : swappedStores [.Tuple [.Name x px, .Name y py] kt pt] (.Tuple [a, b] kk pt2) X.env = pure (some [x, y]) := by rfl) (hs : swapsWithSole [.Tuple [.Name x px, .Name y py] kt pt] (.Tuple [a, b] kk pt2) pos.line X.env = pure false := by rfl) :
    PS' X c fr [i, j] (.Assign [.Tuple [.Name x px, .Name y py] kt pt] (.Tuple [a, b] kk pt2) pos) (sPar [i, j] fa) :=
  psI (ps_par hc hN hi hj hij hx hy ha hsw hs) fun Dn σ H ⟨G, S, rel, p⟩ => by
    refine rdA_go (g := fun ds => if ds.length = [i, j].length then .ok (Fl.nx, putS S [i, j] ds) else .fail) (Post := PostS c fr [i, j] G S σ H Dn) rel p (fun _ z => z _) (fun z => z) fun ds vs G' H' sp q p1 => ?_
    have q : RDs c.k G' ds vs := q
    rcases q with _ | ⟨r1, _ | ⟨r2, _ | ⟨r3, r4⟩⟩⟩
    · exact p1.elim
    · exact p1.elim
    · exact ⟨_, _, rfl, p1 G' _ H' sp.g (((rel.grow sp).setS i r1).setS j r2) ((Frm.step (as := []) rel sp).trans ((Frm.set i _ _).trans (Frm.set j _ _)))⟩
    · simp only [List.length_cons, List.length_nil] at p1; rw [if_neg (by omega)] at p1; exact p1.elim
theorem s_par3 (i j l : Nat) {z : Str} {cc : Expr} {fa : FA} {px py pz pt pt2 : Pos} {kt kk : Nat} (hN : X.N.Nodup) (ha : PA' X c false [a, b, cc] fa) (hi : X.N[i]? = some x := by rfl) (hj : X.N[j]? = some y := by rfl) (hl : X.N[l]? = some z := by rfl) (hij : i ≠ j := by decide) (hil : i ≠ l := by decide) (hjl : j ≠ l := by decide)
    (hx : X.env.scope.names.lookup x = some .local := by rfl) (hy : X.env.scope.names.lookup y = some .local := by rfl) (hz : X.env.scope.names.lookup z = some .local := by rfl)
    (hc : X.calm = true := by rfl) (hsw : swappedStores [.Tuple [.Name x px, .Name y py, .Name z pz] kt pt] (.Tuple [a, b, cc] kk pt2) X.env = pure (some [x, y, z]) := by rfl) (hs : swapsWithSole [.Tuple [.Name x px, .Name y py, .Name z pz] kt pt] (.Tuple [a, b, cc] kk pt2) pos.line X.env = pure false := by rfl) :
    PS' X c fr [i, j, l] (.Assign [.Tuple [.Name x px, .Name y py, .Name z pz] kt pt] (.Tuple [a, b, cc] kk pt2) pos) (sPar [i, j, l] fa) :=
  psI (ps_par3 hc hN hi hj hl hij hil hjl hx hy hz ha hsw hs) fun Dn σ H ⟨G, S, rel, p⟩ => by
    refine rdA_go (g := fun ds => if ds.length = [i, j, l].length then .ok (Fl.nx, putS S [i, j, l] ds) else .fail) (Post := PostS c fr [i, j, l] G S σ H Dn) rel p (fun _ z => z _) (fun z => z) fun ds vs G' H' sp q p1 => ?_
    have q : RDs c.k G' ds vs := q
    rcases q with _ | ⟨r1, _ | ⟨r2, _ | ⟨r3, _ | ⟨r4, r5⟩⟩⟩⟩
    · exact p1.elim
    · exact p1.elim
    · exact p1.elim
    · exact ⟨_, _, _, rfl, p1 G' _ H' sp.g ((((rel.grow sp).setS i r1).setS j r2).setS l r3) ((Frm.step (as := []) rel sp).trans ((Frm.set i _ _).trans ((Frm.set j _ _).trans (Frm.set l _ _))))⟩
    · simp only [List.length_cons, List.length_nil] at p1; rw [if_neg (by omega)] at p1; exact p1.elim
end
end M
set_option Elab.async false
set_option linter.all false
set_option maxRecDepth 100000
set_option maxHeartbeats 4000000
namespace M
open PySem L2
/-! ### {elt for target in iter if ..}, the set told by a family of objects -/
section
variable {τ κ : Type}
/-- the new set's object -/
def freshSet (w : World) : Obj := { cls := .type "set", dict := none, data := .set #[] 0 (.fresh 0 0 (!w.params.followText "set-order")) }
structure Fam (P : Program) (w : World) (K : PySem.W.Frag) (τ κ : Type) where
  ob : τ → Addr → HO
  t0 : τ
  pre : τ → V → κ → Hp → Prop
  post : τ → V → κ → τ → Prop
  new : ∀ (H : Hp) (h : Heap) (a : Addr), h.get? a = some (freshSet w) → ObjOk P w H h a (ob t0 a)
  add : ∀ (X : Cx), X.prog = P → X.w = w → X.K = K → X.A.units + 64 < cLine → ∀ (pins : List (Addr × Obj)) (s : Shared) (σ : L2.St) (H : Hp) (S : Addr) (t : τ) (y : V) (kk : κ) (u : Value) (Q : Value → Shared → Prop) (E : Value → Shared → Prop), Inv X pins σ H s → H S = some (ob t S) → RelV y u → pre t y kk H →
    (∀ t' s', post t y kk t' → Inv X pins σ (upd H S (ob t' S)) s' → Q .none s') → wpAny (model P w) X.A (call (.builtin "set.add") [.ref S, u]) Q E s
def tScG {P : Program} {w : World} {K : PySem.W.Frag} (F : Fam P w K τ κ) (wi : TI) (g : TG) (tt : TT) (te : TE) (vs : List Nat) : TE := fun σ H Q => wi σ H fun J H1 => ∀ S, H1 S = none → ∃ W : Nat → Nat → Hp → Prop, (∃ m, W 0 m (upd H1 S (F.ob F.t0 S))) ∧ ∀ i m H, W i m H →
  (J.stop i H ∧ Q (.ref S) H) ∨ (J.go i H ∧ ∃ Nx : Hp → Prop, (∀ H', Nx H' → ∃ m', m' < m ∧ W (i + 1) m' H') ∧ ∀ x H', J.yld i H x H' → g x (L2.wipe σ vs) H' fun σ2 H2 => L2.wipe σ2 vs = L2.wipe σ vs ∧ tt σ2 H2 fun b H3 =>
    if b = true then te σ2 H3 fun y H4 => ∃ t kk, H4 S = some (F.ob t S) ∧ F.pre t y kk H4 ∧ ∀ t', F.post t y kk t' → Nx (upd H4 S (F.ob t' S)) else Nx H3)
variable {X : Cx}
theorem pe_scG (F : Fam X.prog X.w X.K τ κ) {elt tg iter : Expr} {ifs : List Expr} {scope : Scope} {own : List (Str × Nat)} {pos : Pos} {wi : TI} {g : TG} {tt : TT} {te : TE} (hu : X.A.units + 64 < cLine) (hc : X.calm = true) (hN : X.N.Nodup) (hi : PI X tg iter wi) (ok : BlkOk X.N X.env.scope scope own)
    (hg : ∀ (s : Shared) (H : Hp) (C : Addr) (cl : List (Str × Addr)) (fp : List Addr), PG (X.blk s H scope (compEnvC scope cl C X.env) fp) tg g) (ht : ∀ (s : Shared) (H : Hp) (C : Addr) (cl : List (Str × Addr)) (fp : List Addr), PTs (X.blk s H scope (compEnvC scope cl C X.env) fp) ifs tt)
    (he : ∀ (s : Shared) (H : Hp) (C : Addr) (cl : List (Str × Addr)) (fp : List Addr), PE (X.blk s H scope (compEnvC scope cl C X.env) fp) elt te) (hs : ∀ x, foldedSetIterable iter X.env x = pure x := by intro _; rfl) :
    PE X (.SetComp elt [⟨tg, iter, ifs, 0⟩] scope pos) (tScG F wi g tt te (own.map (·.2))) := by
  constructor
  intro pins s σ H Q I rd
  rw [PpSet.eval_SetComp]
  have cells : ∀ y ∈ scope.names, y.2 = .free → ∃ c, X.env.cells.lookup y.1 = some c := fun y hy e => (ok.free y hy e).elim (fun k => I.ok.has _ (.inl k)) fun k => I.ok.has _ (.inr k)
  refine wpAny_comprehension_free (use := none) rfl hs (closure_ok cells) ok.kind (fun y hy e => by rw [ok.uniq y hy, e]) (thn (hi.run pins s σ H _ I rd) fun xv s1 hx => thn hx fun itv s2 h2 => ?_)
  obtain ⟨it, fp, tn, J, H2, rfl, I2, T, st2, f2, q⟩ := h2
  refine PpSet.newSet_ok (newEnv_comp ?_)
  -- the new set stands at a new place
  have hfr : H2 s2.heap.objs.size = none := I2.hok.fresh (Nat.le_refl _)
  generalize hA : s2.heap.objs.size = A0 at hfr
  obtain ⟨W, ⟨m0, w0⟩, turn⟩ := q A0 hfr
  obtain ⟨s3, hs3⟩ : ∃ s3 : Shared, s3 = { s2 with heap := s2.heap.push (freshSet X.w) } := ⟨_, rfl⟩
  obtain ⟨H3, hH3⟩ : ∃ H3 : Hp, H3 = upd H2 A0 (F.ob F.t0 A0) := ⟨_, rfl⟩
  have old : ∀ b o, s2.heap.get? b = some o → s3.heap.get? b = some o := fun b o e => by rw [hs3]; exact Heap.get?_push_of_some _ e
  have I3 : Inv X pins σ H3 s3 := by
    rw [hs3, hH3]
    exact I2.laid (t' := s2.toks) (fun b o e => Heap.get?_push_of_some _ e) (Nat.le_of_eq hA) (F.new _ _ _ (by rw [← hA]; exact Heap.get?_push_size _ rfl))
  have there : ∀ b ∈ fp, b < s2.heap.objs.size := fun b hb => by
    obtain ⟨o, e, _⟩ := T.obj _ _ st2 b hb
    exact Heap.lt_size e
  have f3 : ∀ b ∈ fp, FpOk X pins H3 b ∧ b < s3.heap.objs.size := fun b hb => by
    have lt := there b hb
    refine ⟨⟨?_, (f2 b hb).2⟩, by rw [hs3]; exact (Heap.size_push ..).symm ▸ Nat.lt_succ_of_lt lt⟩
    rw [hH3, upd_ne (by rw [← hA]; exact Nat.ne_of_lt lt)]
    exact (f2 b hb).1
  have st3 : tn 0 s3.heap := T.keep _ _ _ st2 fun b _ o e => old b o e
  have I4 := block_start I3 ok hN f3
  have pg := hg s3 H3 s3.heap.objs.size (cellsFrom (s3.heap.objs.size + 1) scope.names (cloFrom X.env.cells scope.names [])) fp
  have pt := ht s3 H3 s3.heap.objs.size (cellsFrom (s3.heap.objs.size + 1) scope.names (cloFrom X.env.cells scope.names [])) fp
  have pe := he s3 H3 s3.heap.objs.size (cellsFrom (s3.heap.objs.size + 1) scope.names (cloFrom X.env.cells scope.names [])) fp
  have goal : codeAny (model X.prog X.w) X.A (.compStart (.SetComp elt [⟨tg, iter, ifs, 0⟩] scope pos) 0 (.ref it) (.ref A0) (compEnvC scope (cellsFrom (s3.heap.objs.size + 1) scope.names (cloFrom X.env.cells scope.names [])) s3.heap.objs.size X.env))
      (compPost (model X.prog X.w) X.A X.xe none (EP X pins σ Q) (.ref A0) s3.heap.objs.size) { s3 with heap := pushCells (s3.heap.push { cls := .type "dict", data := .dict #[] }) scope.names } := by
    generalize hce : compEnvC scope (cellsFrom (s3.heap.objs.size + 1) scope.names (cloFrom X.env.cells scope.names [])) s3.heap.objs.size X.env = ce at I4 pg pt pe ⊢
    have cL : ce.locals = s3.heap.objs.size := by subst hce; rfl
    generalize hs4 : ({ s3 with heap := pushCells (s3.heap.push { cls := .type "dict", data := .dict #[] }) scope.names } : Shared) = s4 at I4 ⊢
    have st4 : tn 0 s4.heap := T.keep _ _ _ st3 fun b _ o e => by rw [← hs4]; exact pushCells_keeps _ _ _ _ (Heap.get?_push_of_some _ e)
    have fpo : ∀ {σ' : L2.St} {H' : Hp} {s' : Shared}, Inv (X.blk s3 H3 scope ce fp) [] σ' H' s' → (∀ b ∈ fp, H' b = none) → ∀ b ∈ fp, FpOk (X.blk s3 H3 scope ce fp) [] H' b := fun {σ' H' s'} J' hn b hb =>
      ⟨hn b hb, (J'.ok.exf b hb).1, J'.ok.exfs b hb, .inl hb, (J'.ok.exf b hb).2, fun p hp => by cases (show p ∈ ([] : List (Addr × Obj)) from hp)⟩
    have loop : codeAny (model X.prog X.w) X.A (.compLoop (.SetComp elt [⟨tg, iter, ifs, 0⟩] scope pos) 0 (.ref it) (.ref A0) ce) (compPost (model X.prog X.w) X.A X.xe none (EP X pins σ Q) (.ref A0) s3.heap.objs.size) s4 := by
      refine PpSet.compLoopS_any (fun n s' => ∃ i H', Inv (X.blk s3 H3 scope ce fp) [] (L2.wipe σ (own.map (·.2))) H' s' ∧ tn i s'.heap ∧ (∀ b ∈ fp, H' b = none) ∧ W i n H') ?_ m0 ⟨0, H3, I4, st4, fun b hb => (f3 b hb).1.1, by rw [hH3]; exact w0⟩
      rintro n s5 ⟨i, H5, I5, st5, n5, w5⟩
      rcases turn i n H5 w5 with ⟨stop, qq⟩ | ⟨go, Nx, hNx, step⟩
      · refine thnF (T.done (X.blk s3 H3 scope ce fp) rfl rfl rfl hc i [] s5 _ H5 (fun _ _ => False) I5 (fpo I5 n5) st5 stop) fun r s6 ⟨hr, I6⟩ => ?_
        subst hr
        have I7 : Inv X pins σ H5 s6 := I3.call' (ch := fp) I6.os I6.base I6.hok I6.bare fun b hb => ⟨(f3 b hb).1.2.2.2.1, (f3 b hb).1.2.1, (f3 b hb).1.2.2.2.2.1, (f3 b hb).1.2.2.2.2.2⟩
        have nC : H5 s3.heap.objs.size = none := by rw [← cL]; exact I6.free
        obtain ⟨m, hn, _⟩ := I6.loc
        have hn : s6.heap.Ns ce.locals m := hn
        rw [cL] at hn
        have fC := I3.fpOk (Nat.le_refl _) nC
        exact ⟨m, hn, fun h'' sb => ⟨.ref A0, H5, I7.turned (t' := s6.toks) (fun b o hb e => (sb.2 b hb).trans e) fC.1 fC.2.1 fC.2.2.2.1 fC.2.2.2.2.1 fC.2.2.2.2.2, rfl, qq⟩⟩
      · refine thnF (T.item (X.blk s3 H3 scope ce fp) rfl rfl rfl hc i [] s5 _ H5 (fun _ _ => False) I5 (fpo I5 n5) st5 go) fun r s6 ⟨u, hr, h6⟩ => ?_
        subst hr
        refine thnF h6 fun _ s7 ⟨x, H7, I7, r7, y7, st7, n7⟩ => ?_
        have I7' := I7.pinned (fpo I7 n7) (T.obj _ _ st7)
        refine thnF (pg.run _ s7 _ H7 x u _ I7' r7 (step x H7 y7)) fun _ s8 ⟨σ8, H8, I8, hw8, q8⟩ => ?_
        refine thnF (pt.run _ s8 σ8 H8 _ I8 q8) fun b s9 ⟨H9, I9, q9⟩ => ?_
        have fin : ∀ {s' : Shared} {H' : Hp}, Inv (X.blk s3 H3 scope ce fp) ([] ++ pinsAt fp s7.heap) σ8 H' s' → Nx H' → ∃ m, m < n ∧ ∃ i H', Inv (X.blk s3 H3 scope ce fp) [] (L2.wipe σ (own.map (·.2))) H' s' ∧ tn i s'.heap ∧ (∀ b ∈ fp, H' b = none) ∧ W i m H' := fun {s' H'} I' nx => by
          obtain ⟨m', hm, w'⟩ := hNx H' nx
          have pinned : ∀ b ∈ fp, ∀ o, s7.heap.get? b = some o → s'.heap.get? b = some o ∧ H' b = none := fun b hb o e =>
            let z := I'.pin (b, o) (List.mem_append_right _ (List.mem_append_right _ (mem_pinsAt hb e)))
            ⟨z.1, z.2.1⟩
          refine ⟨m', hm, i + 1, H', (I'.unpinned (pins := [])).weak (by rw [← hw8, wipe_length]) (fun j v e => ?_), T.keep _ _ _ st7 fun b hb o e => (pinned b hb o e).1, fun b hb => ?_, w'⟩
          · rw [← hw8] at e
            exact (wipe_some e).1
          · obtain ⟨o, e, _⟩ := T.obj _ _ st7 b hb
            exact (pinned b hb o e).2
        cases b with
        | false =>
          rw [if_neg Bool.false_ne_true] at q9 ⊢
          exact fin I9 q9
        | true =>
          rw [if_pos rfl] at q9 ⊢
          refine thnF (pe.run _ s9 σ8 H9 _ I9 q9) fun z s10 ⟨yv, H10, I10, r10, t, kk, ht10, hp10, nx⟩ => ?_
          exact F.add (X.blk s3 H3 scope ce fp) rfl rfl rfl hu _ s10 σ8 H10 A0 t yv kk z _ _ I10 ht10 r10 hp10 fun t' s11 hpost I11 => fin I11 (nx t' hpost)
    exact PpSet.codeAny_compStart_set loop (T.self X.A 0 _ _ _ st4 loop)
  rw [hs3] at goal
  exact goal
end
/-! ### a set of tuples of ints -/
section
theorem set_add_tup {P : Program} {w : World} {A : Around} {E : Value → Shared → Prop} {s : Shared} {a x : Addr} {L : List (Addr × List Int)} {es : Array (Int × Value)} {ep : Nat} {t : SetTable} {k : List Int} {Q : Value → Shared → Prop} (R : SetTR P w s.heap a L es ep t) (hx : IsT P w s.heap k x) (hu : A.units + 2 < cLine) (hfew : L.length + 1 < 64)
    (hQ : ∀ h' tk L' es' ep' t', Heap.SameBut a s.heap h' → SetTR P w h' a L' es' ep' t' → (k ∈ L.map (·.2) → L' = L) → (k ∉ L.map (·.2) → L'.Perm ((x, k) :: L)) → Q .none { s with heap := h', toks := tk }) : wpAny (model P w) A (call (.builtin "set.add") [.ref a, .ref x]) Q E s := by
  obtain ⟨o, ho, hex, hd⟩ := R.ob
  have hT : s.TypeIs (.ref a) "set" := ⟨o, ho, hex.1⟩
  refine wpAny_call_entry F.slot_set_add hT F.entry_set_add ?_ (F.args_set_add_2 _ _)
  unfold Builtin.«set.add» Builtin.Frozenset.oneOther
  simp only [List.isEmpty_nil, bind_assoc]
  unfold Builtin.Frozenset.addrOf setAdd
  refine wpAny_bind (wpAny_pure ?_)
  try dsimp only
  refine wpAny_bind (wpAny_pure ?_)
  try dsimp only
  refine wpAny_bind ?_
  refine wpAny_holding ?_
  refine wpAny_bind (wpAny_pyHash_tuple (by first | exact Nat.lt_of_le_of_lt (Nat.le_add_right _ _) hu | (show A.units + 1 < cLine; omega) | omega) hx ?_)
  refine add_at (s := { s with toks := s.toks + (k.length + 1) }) R hx (by first | exact Nat.lt_of_le_of_lt (Nat.le_add_right _ _) hu | (show A.units + 1 < cLine; omega) | omega) hfew fun b h' L' es' ep' t' sb R' c1 c2 => ?_
  show wpAny _ _ (ret Value.none) _ _ _
  exact wpAny_pure ⟨_, rfl, hQ h' _ L' es' ep' t' sb R' c1 c2⟩
def famT (P : Program) (w : World) (K : PySem.W.Frag) : Fam P w K (List (Addr × List Int)) (List Int) where
  ob := fun L a => SetTO P w a L
  t0 := []
  pre := fun L y k H => (∀ p ∈ L, SqT K H p.1 (p.2.map V.int)) ∧ L.length + 1 < 64 ∧ ∃ x, y = .ref x ∧ SqT K H x (k.map V.int)
  post := fun L y k L' => ∃ x, y = .ref x ∧ (k ∈ L.map (·.2) → L' = L) ∧ (k ∉ L.map (·.2) → L'.Perm ((x, k) :: L))
  new := fun H h a e => setTO_new (setTR_fresh e).t0
  add := by
    intro X hP hw hK hu pins s σ H S L y k u Q E I hS ry hp hq
    subst hP hw hK
    obtain ⟨h1, h2, x, rfl, h3⟩ := hp
    cases ry
    have R0 : SetT0 X.prog X.w s.heap S L := (I.hok S _ hS).1
    obtain ⟨es, ep, t, R⟩ := R0.full fun p hp => I.isT (h1 p hp)
    refine set_add_tup R (I.isT h3) (by omega) h2 fun h' tk L' es' ep' t' sb R' c1 c2 => ?_
    have he : ∃ u, h'.get? S = some u := by
      obtain ⟨o, ho, _⟩ := R'.ob
      exact ⟨o, ho⟩
    exact hq L' _ ⟨x, rfl, c1, c2⟩ (I.write (e := S) (t' := tk) (by rw [hS]; trivial) (.inl rfl) (fun b u hb hu => (sb.2 b hb).trans hu) he (setTO_new R'.t0))
/-- len of such a set -/
theorem call_lenT {X : Cx} : CallR X (.builtin "len") (fun xs H Q => ∃ a L, xs = [V.ref a] ∧ H a = some (SetTO X.prog X.w a L) ∧ (∀ p ∈ L, SqT X.K H p.1 (p.2.map V.int)) ∧ Q (.int L.length) H) := by
  intro pins s σ H xs us Q I r h
  obtain ⟨a, L, rfl, ha, ht, q⟩ := h
  rw [Vals.ref1 r]
  have R0 : SetT0 X.prog X.w s.heap a L := (I.hok a _ ha).1
  obtain ⟨es, ep, t, R⟩ := R0.full fun p hp => I.isT (ht p hp)
  obtain ⟨o, ho, hex, hd⟩ := R.ob
  have hs := R.size
  have hf := R.few
  refine call_len_set ho hex hd R.fits (by omega) ⟨.int L.length, H, I.tok _, ⟨_, by rw [hs]⟩, q⟩
/-- the keys of a list, each once -/
def nubT (acc : List (List Int)) (k : List Int) : List (List Int) := if k ∈ acc then acc else k :: acc
def nub (ks : List (List Int)) : List (List Int) := ks.foldl nubT []
def asT : D → Option (List Int)
  | .tup ds => asI ds
  | _ => none
def asTs : List D → Option (List (List Int))
  | [] => some []
  | d :: ds => match asT d, asTs ds with
    | some k, some ks => some (k :: ks)
    | _, _ => none
/-- len({elt for ..}), the elements tuples of ints -/
def lenSc (fi : FI) (ga : FG) (t : FT) (fe : FE) (vs : List Nat) : FE := fun S => fi S >>= fun ds => if ds.length < 60 then lcF ga t fe (wipeS S vs) ds >>= fun ys => (match asTs ys with
  | some ks => .ok (.int (nub ks).length)
  | none => .fail) else .fail
theorem RD.asT {k : Kn} {G : Hp} {d : D} {v : V} {ns : List Int} (r : RD k G d v) (h : M.asT d = some ns) : ∃ a, v = .ref a ∧ SqU k.K G a (ns.map V.int) := by
  cases d <;> simp only [M.asT] at h <;> first | (cases h; done) | skip
  cases r with
  | tup hs hr =>
    have := asI_of hr h
    subst this
    exact ⟨_, rfl, hs⟩
theorem lenSc_go {X : Cx} {c : Cf} {t : FT} {ki gs vs : List Nat} {fi : FI} {ga : FG} {fe : FE} {σ : L2.St} {H : Hp} {Q : VK} {gi : TG} {tt : TT} {te : TE} (hk : c.k.K = X.K) (hg : ∀ v σ H Q, RdG c.nx gs ga v σ H Q → gi v σ H Q) (ht : ∀ σ H Q, RdT c.nx t σ H Q → tt σ H Q) (he : ∀ σ H Q, RdE c.nx .st fe σ H Q → te σ H Q)
    (hgs : ∀ i, i ∈ gs → i ∈ vs) (q : RdE c .st (lenSc fi ga t fe vs) σ H Q) :
    tScG (famT X.prog X.w X.K) (RdI c ki fi) gi tt te vs σ H fun v H1 => ∃ a L, [v] = [V.ref a] ∧ H1 a = some (SetTO X.prog X.w a L) ∧ (∀ p ∈ L, SqT X.K H1 p.1 (p.2.map V.int)) ∧ Q (.int L.length) H1 := by
  obtain ⟨G, S, rel, p⟩ := q
  refine ⟨G, S, rel, ?_⟩
  have p : PostE c .st G S σ H Q (fi S >>= fun ds => if ds.length < 60 then lcF ga t fe (wipeS S vs) ds >>= fun ys => (match asTs ys with
    | some ks => .ok (.int (nub ks).length)
    | none => .fail) else .fail) := p
  cases e0 : fi S with
  | exc x => rw [e0] at p; exact p
  | fail => rw [e0] at p; exact p
  | ok ds =>
    rw [e0, R.ok_bind] at p
    by_cases hz : ds.length < 60
    · rw [if_pos hz] at p
      intro J G1 H1 sp it Dl hD
      have relb := ((rel.grow sp).wipe vs).cw (W := liftX E0)
      refine ⟨fun i m H2 => m = ds.length - i ∧ i ≤ ds.length ∧ ∃ G2 L ac, Step G1 H1 G2 H2 ∧ G2 Dl = none ∧ H2 Dl = some (SetTO X.prog X.w Dl L) ∧ (∀ p ∈ L, SqU c.k.K G2 p.1 (p.2.map V.int)) ∧ (L.map (·.2)).Perm ac ∧ ac.length ≤ i ∧
          PostE c .st G S σ H Q (lcF ga t fe (wipeS S vs) (ds.drop i) >>= fun ys => (match asTs ys with
            | some ks => .ok (.int (ks.foldl nubT ac).length)
            | none => .fail)),
        ⟨_, rfl, Nat.zero_le _, G1, [], [], Step.new' sp.gh hD, sp.gh.free hD, upd_same, fun p hp => (by cases hp), List.Perm.nil, Nat.zero_le _, by simpa [nub] using p⟩, ?_⟩
      rintro i m H2 ⟨rfl, hle, G2, L, ac, sp2, hGD, hHD, hr, hpm, hal, p2⟩
      have rel2 : Rel c.nx G2 (wipeS S vs) (L2.wipe σ vs) H2 := relb.grow sp2
      have itm := it G2 H2 sp2.g sp2.gh fun j hj x ow => by
        obtain ⟨_, _, o, _, ho, _⟩ := (rel.grow sp).own ow
        rw [ho, sp2.h _ _ ho]
      have nD : ∀ {G6 H6 : Hp}, Step G2 H2 G6 H6 → G6 Dl = none ∧ H6 Dl = some (SetTO X.prog X.w Dl L) := fun {G6 H6} z => by
        refine ⟨?_, z.h _ _ hHD⟩
        cases q : G6 Dl with
        | none => rfl
        | some o =>
          rcases z.gr _ _ q with w | w
          · rw [hGD] at w; cases w
          · rw [hHD] at w; cases w
      by_cases hlt : i < ds.length
      · obtain ⟨d, hd⟩ : ∃ d, ds[i]? = some d := ⟨ds[i], List.getElem?_eq_getElem hlt⟩
        have hdrop : ds.drop i = d :: ds.drop (i + 1) := by
          rw [List.drop_eq_getElem_cons hlt]; congr 1; rw [List.getElem?_eq_getElem hlt] at hd; exact Option.some.inj hd
        rw [hdrop] at p2
        obtain ⟨hgo, hy⟩ := itm.2 i d hd
        refine .inr ⟨hgo, fun H' => ∃ G3 L ac, Step G1 H1 G3 H' ∧ G3 Dl = none ∧ H' Dl = some (SetTO X.prog X.w Dl L) ∧ (∀ p ∈ L, SqU c.k.K G3 p.1 (p.2.map V.int)) ∧ (L.map (·.2)).Perm ac ∧ ac.length ≤ i + 1 ∧
          PostE c .st G S σ H Q (lcF ga t fe (wipeS S vs) (ds.drop (i + 1)) >>= fun ys => (match asTs ys with
            | some ks => .ok (.int (ks.foldl nubT ac).length)
            | none => .fail)), fun H' ⟨G3, r3⟩ => ⟨_, by omega, rfl, hlt, G3, r3⟩, fun x H3 hx => ?_⟩
        obtain ⟨G3, sp3, hd3⟩ := hy x H3 hx
        refine hg x _ H3 _ ⟨G3, wipeS S vs, d, rel2.grow sp3, hd3, ?_⟩
        unfold lcF at p2
        cases e1 : ga d (wipeS S vs) with
        | exc x => rw [e1] at p2; exact p2.elim
        | fail => rw [e1] at p2; exact p2.elim
        | ok S1 =>
          rw [e1, R.nox_ok, R.ok_bind] at p2
          intro G4 σ4 H4 sp4 rel4 f4
          refine ⟨wipe_eq (by rw [f4.len, wipe_length]) fun j hj => f4.sg j fun z => hj (hgs j z), ht σ4 H4 _ ⟨G4, S1, rel4, ?_⟩⟩
          cases e2 : t S1 with
          | exc x => rw [e2] at p2; exact p2.elim
          | fail => rw [e2] at p2; exact p2.elim
          | ok b =>
            rw [e2, R.nox_ok, R.ok_bind] at p2
            intro G5 H5 sp5
            have spA : Step G2 H2 G5 H5 := (sp3.trans sp4).trans sp5
            cases b with
            | false =>
              rw [if_neg Bool.false_ne_true] at p2 ⊢
              exact ⟨G5, L, ac, sp2.trans spA, (nD spA).1, (nD spA).2, fun p hp => spA.g.sqU (hr p hp), hpm, by omega, p2⟩
            | true =>
              rw [if_pos rfl] at p2 ⊢
              refine he σ4 H5 _ ⟨G5, S1, rel4.grow sp5, ?_⟩
              cases e3 : fe S1 with
              | exc x => rw [e3] at p2; exact p2.elim
              | fail => rw [e3] at p2; exact p2.elim
              | ok y =>
                rw [e3, R.nox_ok, R.ok_bind] at p2
                intro v G6 H6 sp6 hv
                have hv : RD c.k G6 y v := hv
                have spB := spA.trans sp6
                cases e4 : lcF ga t fe (wipeS S vs) (ds.drop (i + 1)) with
                | exc x => exact absurd e4 (lcF_exc _)
                | fail => rw [e4] at p2; exact p2.elim
                | ok ys =>
                  rw [e4] at p2
                  have p2 : PostE c .st G S σ H Q (match asTs (y :: ys) with
                    | some ks => .ok (.int (ks.foldl nubT ac).length)
                    | none => .fail) := p2
                  simp only [asTs] at p2
                  cases ek : asT y with
                  | none => rw [ek] at p2; exact p2.elim
                  | some kk =>
                    cases es : asTs ys with
                    | none => rw [ek, es] at p2; exact p2.elim
                    | some ks =>
                      rw [ek, es] at p2
                      obtain ⟨xa, rfl, hxa⟩ := hv.asT ek
                      have hlen : L.length = ac.length := by rw [← List.length_map (f := fun (p : Addr × List Int) => p.2)]; exact hpm.length_eq
                      have hr6 : ∀ p ∈ L, SqU c.k.K G6 p.1 (p.2.map V.int) := fun p hp => spB.g.sqU (hr p hp)
                      refine ⟨L, kk, (nD spB).2, ⟨fun p hp => hk ▸ (sp6.gh.sqU (hr6 p hp)).t, by omega, xa, rfl, hk ▸ (sp6.gh.sqU hxa).t⟩, ?_⟩
                      rintro L' ⟨xb, hxb, c1, c2⟩
                      cases hxb
                      have spC : Step G1 H1 G6 (upd H6 Dl (SetTO X.prog X.w Dl L')) := by
                        have z := sp2.trans spB
                        exact ⟨z.g, z.h.upd hD, z.gh.upd (nD spB).1, z.gr⟩
                      by_cases hm : kk ∈ L.map (·.2)
                      · have := c1 hm
                        subst this
                        refine ⟨G6, L', ac, spC, (nD spB).1, upd_same, hr6, hpm, by omega, ?_⟩
                        rw [R.ok_bind, es]
                        have hm' : kk ∈ ac := hpm.mem_iff.mp hm
                        simpa only [List.foldl_cons, nubT, if_pos hm'] using p2
                      · have hp' := c2 hm
                        refine ⟨G6, L', kk :: ac, spC, (nD spB).1, upd_same, fun p hp => ?_, ?_, by simp only [List.length_cons]; omega, ?_⟩
                        · rcases List.mem_cons.mp (hp'.mem_iff.mp hp) with rfl | hp
                          · exact hxa
                          · exact hr6 p hp
                        · exact (hp'.map _).trans (List.Perm.cons _ hpm)
                        · rw [R.ok_bind, es]
                          have hm' : kk ∉ ac := fun z => hm (hpm.mem_iff.mpr z)
                          simpa only [List.foldl_cons, nubT, if_neg hm'] using p2
      · have hi : i = ds.length := by omega
        subst hi
        rw [List.drop_length] at p2
        refine .inl ⟨itm.1 _ (Nat.le_refl _), Dl, L, rfl, hHD, fun p hp => hk ▸ (sp2.gh.sqU (hr p hp)).t, ?_⟩
        have p2 : PostE c .st G S σ H Q (.ok (.int ac.length)) := p2
        have hlen : L.length = ac.length := by rw [← List.length_map (f := fun (p : Addr × List Int) => p.2)]; exact hpm.length_eq
        rw [hlen]
        exact p2 _ G2 H2 (sp.trans sp2) (.int _)
    · rw [if_neg hz] at p; exact p.elim
/-- len({elt for target in iter if ..}) -/
theorem d_lenSc {X : Cx} {c : Cf} {t : FT} {tg elt iter : Expr} {ifs : List Expr} {scope : Scope} {p1 p2 pos : Pos} {x : Str} (own : List (Str × Nat)) {ki gs : List Nat} {fi : FI} {ga : FG} {fe : FE} (hk : c.k.K = X.K) (hu : X.A.units + 64 < cLine) (hm : X.mg x = none) (hc : X.calm = true) (hN : X.N.Nodup) (hi : PI' X c ki tg iter fi) (ok : BlkOk X.N X.env.scope scope own)
    (hg : ∀ (s : Shared) (H : Hp) (C : Addr) (cl : List (Str × Addr)) (fp : List Addr), PG' (X.blk s H scope (compEnvC scope cl C X.env) fp) c.nx gs tg ga) (ht : ∀ (s : Shared) (H : Hp) (C : Addr) (cl : List (Str × Addr)) (fp : List Addr), PTs' (X.blk s H scope (compEnvC scope cl C X.env) fp) c.nx ifs t)
    (he : ∀ (s : Shared) (H : Hp) (C : Addr) (cl : List (Str × Addr)) (fp : List Addr), PE' (X.blk s H scope (compEnvC scope cl C X.env) fp) c.nx .st elt fe) (hgs : ∀ i, i ∈ gs → i ∈ own.map (·.2) := by decide) (hs : ∀ x, foldedSetIterable iter X.env x = pure x := by intro _; rfl)
    (hv : bootBuiltins x = some (.builtin "len") := by decide +kernel) (hgl : Gl X x := by rfl) (hn : x ≠ "__name__" := by decide) (hdb : (x == ("__debug__" : Str)) = false := by decide) :
    PE' X c .st (.Call (.Name x p1) [.SetComp elt [⟨tg, iter, ifs, 0⟩] scope p2] [] pos) (lenSc fi ga t fe (own.map (·.2))) :=
  peI (pe_callB call_lenT hgl hm hv (pa_cons (pe_scG (famT X.prog X.w X.K) hu hc hN hi ok hg ht he hs) pa_nil rfl) hn hdb rfl rfl) fun σ H Q q => lenSc_go hk (fun _ _ _ _ z => z) (fun _ _ _ z => z) (fun _ _ _ z => z) hgs q
end
end M
set_option Elab.async false
set_option linter.all false
set_option maxRecDepth 100000
set_option maxHeartbeats 4000000
namespace M
open PySem L2
open AutoSeq1 (wpAny_loadPart')
/-! ### enumerate of a tuple -/
theorem enum_new1 {v : Value} {o : Obj} {H : Heap → Prop} (B : Begins v o H) :
    Meets (Builtin.«enumerate.__new__» ⟨[.type "enumerate", v], []⟩) (fun _ R s => H s.heap ∧
      R (.ok (.ret (.ref (s.heap.push o).objs.size))) { s with heap := (s.heap.push o).push { cls := .type "enumerate", data := .fields #[.none, .bool false, .ref s.heap.objs.size, rawInt 0, .none, .none] } }) :=
  .of_wp fun prog w A R s h => by
    obtain ⟨hp, g, d, tk, os⟩ := s; obtain ⟨h1, h⟩ := h
    have hsub := sub_enumerate
    have q1 : ∀ {A' : Around} {E : Value → Shared → Prop} {Q : Value → Shared → Prop}, Q (.ref hp.objs.size) ⟨hp.push o, g, d, tk, os⟩ → wpAny (model prog w) A' (pyIter v) Q E ⟨hp, g, d, tk, os⟩ :=
      fun q => B.iter prog w _ _ ⟨hp, g, d, tk, os⟩ _ h1 q
    wp_walk using q1
    refine wpAny_stack_any fun st => wpAny_pure ?_
    split
    · rename_i c _ _ _ _ _
      cases (c == Value.type "enumerate")
      · wp_walk using q1
        exact ⟨_, rfl, h⟩
      · wp_walk using q1
        exact ⟨_, rfl, h⟩
    · wp_walk using q1
      exact ⟨_, rfl, h⟩
theorem enum_begins1 {prog : Program} {w : World} {A : Around} {E : Value → Shared → Prop} {s : Shared} {v : Value} {o : Obj} {H : Heap → Prop} {Q : Value → Shared → Prop} (B : Begins v o H) (h1 : H s.heap)
    (h : ∀ h', IsEnum h' (s.heap.objs.size + 1) s.heap.objs.size 0 .none → h'.get? s.heap.objs.size = some o → (∀ b o, s.heap.get? b = some o → h'.get? b = some o) → Q (.ref (s.heap.objs.size + 1)) { s with heap := h' }) :
    wpAny (model prog w) A (call (.type "enumerate") [v]) Q E s := by
  refine callType_new F.called_enumerate (by decide) (F.typeCall_enumerate_1 _) (F.newCall_enumerate_1 _) (fun obj => F.args_object_init_2 obj _) F.entry_enumerate_new (enum_new1 B) ⟨h1, ?_⟩
  have hz : (s.heap.push o).objs.size = s.heap.objs.size + 1 := Heap.size_push ..
  show _ ∧ _
  rw [hz]
  have he : IsEnum ((s.heap.push o).push { cls := .type "enumerate", data := .fields #[.none, .bool false, .ref s.heap.objs.size, rawInt 0, .none, .none] }) (s.heap.objs.size + 1) s.heap.objs.size 0 .none := by
    have := Heap.get?_push_size (s.heap.push o) (o := { cls := .type "enumerate", data := .fields #[.none, .bool false, .ref s.heap.objs.size, rawInt 0, .none, .none] }) rfl
    rw [hz] at this; exact this
  exact ⟨⟨_, he, rfl⟩, h _ he (Heap.get?_push_of_some _ (Heap.get?_push_size _ B.free)) fun b o x => Heap.get?_push_of_some _ (Heap.get?_push_of_some _ x)⟩
/-- the tuple at a, its items in new pairs with their numbers -/
def ItU (K : PySem.W.Frag) (a : Addr) : It :=
  ⟨fun i H => ∃ (xs : List V) (x : V), SqT K H a xs ∧ xs[i]? = some x, fun i H v H' => ∃ T x, v = .ref T ∧ H T = none ∧ H' = upd H T (.tup [.int (i : Nat), x]) ∧ ∀ xs, SqT K H a xs → xs[i]? = some x, fun i H => ∃ xs : List V, SqT K H a xs ∧ xs.length ≤ i⟩
theorem turn_enumT {P : Program} {w : World} {K : PySem.W.Frag} {elts : List Expr} {kk : Nat} {tpos : Pos} (a e it : Addr) :
    Turn P w K (.Tuple elts kk tpos) (ItU K a) [e, it] e (fun i h => (∃ old, IsEnum h e it ((i : Nat) : Int) old) ∧ h.IsTupleIter it a i ∧ e ≠ it) := by
  refine ⟨by simp, fun i h st b hb => ?_, fun i h h' st k => ?_, ?_, ?_, fun A i s Q E st h => ?_⟩
  · obtain ⟨⟨old, he⟩, ⟨o, ho, hc, hd⟩, _⟩ := st
    rcases (by simpa using hb : b = e ∨ b = it) with z | z
    · rw [z]; exact ⟨_, he, fun v q => nomatch q⟩
    · rw [z]; exact ⟨o, ho, fun v q => by rw [hd] at q; cases q⟩
  · obtain ⟨⟨old, he⟩, hi, hne⟩ := st
    exact ⟨⟨old, k e (by simp) _ he⟩, hi.at fun o q => k it (by simp) o q, hne⟩
  · intro X hP hw hK hc i pins s σ H E I hf st hg
    subst hP hw hK
    obtain ⟨⟨old, he⟩, hit, hne⟩ := st
    obtain ⟨xs, x, hq, hx⟩ := hg
    obtain ⟨its, rv, p, hz⟩ := I.tuple hq
    obtain ⟨u, hu, ru⟩ := rv.get hx
    have pT : s.heap.IsTuple a its.toArray := p
    have hel : e < s.heap.objs.size := Heap.lt_size he
    have hil : it < s.heap.objs.size := by obtain ⟨_, q, _⟩ := hit; exact Heap.lt_size q
    have ai : a ≠ it := by
      rintro rfl
      obtain ⟨o1, q1, c1, _⟩ := hit
      obtain ⟨o2, q2, c2, _⟩ := pT
      rw [q1] at q2; cases q2; rw [c1] at c2; injection c2 with z; exact absurd z (by decide)
    have ea : e ≠ a := by
      rintro rfl
      obtain ⟨o2, q2, c2, _⟩ := pT
      rw [show s.heap.get? e = some _ from he] at q2; cases q2; injection c2 with z; exact absurd z (by decide)
    have hlt : i < its.toArray.size := by rw [List.size_toArray]; exact (List.getElem?_eq_some_iff.mp hu).1
    refine wpAny_pyNext_enum_itemD (Draws.tuple (A := X.A.in1) (I.ok.hd hc) it a ai its.toArray) he ⟨hit, pT⟩ hlt hne (by simp only [List.mem_cons, List.not_mem_nil, or_false, not_or]; exact ⟨hne, ea⟩) fun y h' tk hy ho st' hT hsz hk => ?_
    have hy' : y = u := by
      have z : its[i]? = some y := by simpa using hy
      rw [hu] at z; exact (Option.some.inj z).symm
    subst hy'
    refine ⟨_, rfl, wpAny_letOwnedTupleGo_enum (s := { s with heap := h', toks := tk + 1 }) ho fun h'' he' sb => ?_⟩
    have hT2 : h''.get? s.heap.objs.size = some { cls := .type "tuple", data := .seq #[.int i tk, y] } := (sb.2 _ (Nat.ne_of_gt hel)).trans hT
    have new : ObjOk X.prog X.w (upd H s.heap.objs.size (.tup [.int (i : Nat), x])) h'' s.heap.objs.size (.tup [.int (i : Nat), x]) :=
      ⟨by show 2 ≤ sizeLine; decide, [.int i tk, y], .cons ⟨_, rfl⟩ (.cons ru .nil), ⟨_, hT2, rfl, _, rfl⟩⟩
    have I1 : Inv X pins σ (upd H s.heap.objs.size (.tup [.int (i : Nat), x])) { s with heap := h'', toks := tk + 1 } :=
      I.turnedNew (ch := [e, it]) (fun b ob hb q => (sb.2 b (fun z => hb (by simp [z]))).trans (hk b ob (fun z => hb (by simp [z])) (fun z => hb (by simp [z])) q)) hf (Nat.le_refl _) new
    refine ⟨.ref s.heap.objs.size, _, I1, rfl, ⟨_, x, rfl, I.hok.fresh (Nat.le_refl _), rfl, fun ys hy => by rw [I.tuple_inj hy hq]; exact hx⟩, ⟨⟨y, ?_⟩, st'.1.at fun o q => (sb.2 it (Ne.symm hne)).trans q, hne⟩, fun b hb => ?_⟩
    · have e1 : ((i + 1 : Nat) : Int) = (i : Int) + 1 := by omega
      rw [e1]; exact he'
    · have hb' : b < s.heap.objs.size := by
        rcases (by simpa using hb : b = e ∨ b = it) with z | z
        · rw [z]; exact hel
        · rw [z]; exact hil
      rw [upd_ne (Nat.ne_of_lt hb')]
      exact (hf b hb).1
  · intro X hP hw hK hc i pins s σ H E I hf st hg
    subst hP hw hK
    obtain ⟨⟨old, he⟩, hit, hne⟩ := st
    obtain ⟨xs, hq, hx⟩ := hg
    obtain ⟨its, rv, p, hz⟩ := I.tuple hq
    obtain ⟨f0, f1, f2, f3, f4, f5⟩ := hf it (by simp)
    have pT : s.heap.IsTuple a its.toArray := p
    have ai : a ≠ it := by
      rintro rfl
      obtain ⟨o1, q1, c1, _⟩ := hit
      obtain ⟨o2, q2, c2, _⟩ := pT
      rw [q1] at q2; cases q2; rw [c1] at c2; injection c2 with z; exact absurd z (by decide)
    have hl := rv.length
    have hn : its.toArray[i]? = none := by simp; omega
    have hT : s.TypeIs (.ref e) "enumerate" := ⟨_, he, rfl⟩
    unfold pyNext
    refine wpAny_bind (wpAny_attempt (wpAny_callSpecial?_slot (name := Str.ofString "__next__") hT F.slot_enumerate_next (wpAny_call_entry F.slot_enumerate_next hT F.entry_enumerate_next ?_ (F.args_enumerate_next_1 _))))
    show wpAny _ _ (field (.ref e) 2 >>= _) _ _ _
    refine wpAny_bind (wpAny_field he rfl (x := .ref it) rfl ?_)
    refine wpAny_bind (wpAny_nextOf_tuple_end (A := X.A.in1) (I.ok.hd hc) hit pT hn fun h' x he' hx' => ?_)
    obtain ⟨o, ho, hcl⟩ := hx'
    refine wpAny_bind (wpAny_isInstance (T := "StopIteration") (b := true) ⟨o, ho, hcl⟩ isSubtype_stop ?_)
    exact wpAny_pure ⟨rfl, I.turned (t' := s.toks) (fun b o hb q => he' b o hb q) f0 f1 f3 f4 f5⟩
  · obtain ⟨⟨_, he⟩, _⟩ := st
    exact wpAny_pyIter_enum he h
theorem pi_enumT {X : Cx} {e : Expr} {ta : TA} {p pos tpos : Pos} {elts : List Expr} {kk : Nat} (hg : Gl X "enumerate") (hm : X.mg "enumerate" = none) (ha : PA X [e] ta) (hs : starEach [e] X.env = [(false, eval e X.env)] := by rfl) :
    PI X (.Tuple elts kk tpos) (.Call (.Name "enumerate" p) [e] [] pos) (fun σ H R => ta σ H fun vs H1 => ∃ a xs, vs = [.ref a] ∧ SqT X.K H1 a xs ∧ R (ItU X.K a) H1) := by
  constructor
  intro pins s σ H R I h
  refine PyProof.Rows.Call_ (ld_blt I hg hm PyProof.Rows.boot_enumerate (PyProof.Rows.callWith_type1 (thn (ha.run pos pins s σ H _ I h) fun us s1 ⟨vs, H1, I1, r1, q1⟩ => ?_) hs rfl))
  obtain ⟨a, xs, rfl, hq, q⟩ := q1
  rw [Vals.ref1 r1]
  obtain ⟨its, rv, p', hz⟩ := I1.tuple hq
  refine enum_begins1 (begins_tuple a its.toArray) p' fun h' he hit hk => wpAny_pyIter_enum he ?_
  have I2 : Inv X pins σ H1 { s1 with heap := h' } := I1.kept (t' := s1.toks) hk
  refine ⟨s1.heap.objs.size + 1, [s1.heap.objs.size + 1, s1.heap.objs.size], _, _, H1, rfl, I2, turn_enumT a (s1.heap.objs.size + 1) s1.heap.objs.size, ⟨⟨.none, he⟩, ⟨_, hit, rfl, rfl⟩, Nat.succ_ne_self _⟩, fun b hb => ?_, q⟩
  have hle : s1.heap.objs.size ≤ b := by
    rcases (by simpa using hb : b = s1.heap.objs.size + 1 ∨ b = s1.heap.objs.size) with z | z
    · rw [z]; exact Nat.le_add_right _ _
    · rw [z]; exact Nat.le_refl _
  exact I1.fpOk hle (I1.hok.fresh hle)
def enumAt (n : Nat) : List D → List D
  | [] => []
  | d :: ds => .tup [.int n, d] :: enumAt (n + 1) ds
theorem enumAt_get : ∀ (ds : List D) (n i : Nat), (enumAt n ds)[i]? = ds[i]?.map fun d => .tup [.int ((n + i : Nat) : Int), d]
  | [], n, i => by simp [enumAt]
  | d :: ds, n, 0 => by simp [enumAt]
  | d :: ds, n, i + 1 => by
    simp only [enumAt, List.getElem?_cons_succ]
    rw [enumAt_get ds (n + 1) i]
    congr 1
    funext d
    rw [show n + 1 + i = n + (i + 1) by omega]
theorem enumAt_length : ∀ (ds : List D) (n : Nat), (enumAt n ds).length = ds.length
  | [], n => rfl
  | d :: ds, n => by simp [enumAt, enumAt_length ds]
def enumerateF : List D → R (List D)
  | [.lst ds] => .ok (enumAt 0 ds)
  | [.tup ds] => .ok (enumAt 0 ds)
  | _ => .fail
theorem itm_enumL {k : Kn} {ki : List Nat} {G1 H1 : Hp} {S : Env} {σ : L2.St} {K : PySem.W.Frag} {ds : List D} {vs : List V} {p : Addr} (hr : RDs k G1 ds vs) (hs : G1 p = some (.lst vs)) : Itm k ki G1 S σ H1 (Ite K p) (enumAt 0 ds) := fun G H e1 e2 kp => by
  have q : SqL K H p vs := SqL.of (e2 _ _ (e1 _ _ hs))
  refine ⟨fun i hi => ⟨vs, q, by rw [enumAt_length] at hi; rw [← hr.length]; exact hi⟩, fun i d hd => ?_⟩
  rw [enumAt_get] at hd
  cases hd0 : ds[i]? with
  | none => rw [hd0] at hd; cases hd
  | some d0 =>
    rw [hd0] at hd
    have hd : D.tup [.int ((0 + i : Nat) : Int), d0] = d := Option.some.inj hd
    subst hd
    obtain ⟨v, hv, r⟩ := (hr.mono e1).get hd0
    refine ⟨⟨vs, v, q, hv⟩, fun x H' hx => ?_⟩
    obtain ⟨T, x', rfl, hT, rfl, hy⟩ := hx
    have := hy vs q
    rw [hv] at this; cases this
    refine ⟨_, Step.new e2 hT, .tup (SqU.of upd_same) (.cons ?_ (.cons (r.mono (Ex.new (e2.free hT))) .nil))⟩
    rw [Nat.zero_add]; exact .int _
theorem itm_enumT {k : Kn} {ki : List Nat} {G1 H1 : Hp} {S : Env} {σ : L2.St} {K : PySem.W.Frag} {ds : List D} {vs : List V} {p : Addr} (hr : RDs k G1 ds vs) (hs : SqT K G1 p vs) : Itm k ki G1 S σ H1 (ItU K p) (enumAt 0 ds) := fun G H e1 e2 kp => by
  have q : SqT K H p vs := e2.sqT (e1.sqT hs)
  refine ⟨fun i hi => ⟨vs, q, by rw [enumAt_length] at hi; rw [← hr.length]; exact hi⟩, fun i d hd => ?_⟩
  rw [enumAt_get] at hd
  cases hd0 : ds[i]? with
  | none => rw [hd0] at hd; cases hd
  | some d0 =>
    rw [hd0] at hd
    have hd : D.tup [.int ((0 + i : Nat) : Int), d0] = d := Option.some.inj hd
    subst hd
    obtain ⟨v, hv, r⟩ := (hr.mono e1).get hd0
    refine ⟨⟨vs, v, q, hv⟩, fun x H' hx => ?_⟩
    obtain ⟨T, x', rfl, hT, rfl, hy⟩ := hx
    have := hy vs q
    rw [hv] at this; cases this
    refine ⟨_, Step.new e2 hT, .tup (SqU.of upd_same) (.cons ?_ (.cons (r.mono (Ex.new (e2.free hT))) .nil))⟩
    rw [Nat.zero_add]; exact .int _
theorem i_enumerate {X : Cx} {c : Cf} {e : Expr} {fa : FA} {p pos tpos : Pos} {elts : List Expr} {kk : Nat} (hk : c.k.K = X.K) (hm : X.mg "enumerate" = none) (ha : PA' X c false [e] fa) (hg : Gl X "enumerate" := by rfl) (hs : starEach [e] X.env = [(false, eval e X.env)] := by rfl) :
    PI' X c [] (.Tuple elts kk tpos) (.Call (.Name "enumerate" p) [e] [] pos) (fun S => fa S >>= enumerateF) := by
  constructor
  intro pins st σ H Rq I q
  obtain ⟨G, S, rel, p⟩ := q
  have p : PostI c [] G S σ H Rq (fa S >>= enumerateF) := p
  cases e1 : fa S with
  | exc x => exact (pi_enum hg hm ha hs).run pins st σ H Rq I ⟨G, S, rel, by rw [e1] at p ⊢; exact p⟩
  | fail => rw [e1] at p; exact p.elim
  | ok ds =>
    rw [e1, R.ok_bind] at p
    unfold enumerateF at p
    split at p
    · rename_i ds0
      refine (pi_enum hg hm ha hs).run pins st σ H Rq I ⟨G, S, rel, ?_⟩
      rw [e1]
      intro vs G' H' sp q
      have q : RDs c.k G' [.lst ds0] vs := q
      cases q with
      | cons q1 q2 =>
        cases q2
        cases q1 with
        | lst h r => exact ⟨_, _, rfl, SqL.of (sp.gh _ _ h), p _ G' H' sp (itm_enumL r h)⟩
    · rename_i ds0
      refine (pi_enumT hg hm ha hs).run pins st σ H Rq I ⟨G, S, rel, ?_⟩
      rw [e1]
      intro vs G' H' sp q
      have q : RDs c.k G' [.tup ds0] vs := q
      cases q with
      | cons q1 q2 =>
        cases q2
        cases q1 with
        | tup h r => exact ⟨_, _, rfl, hk ▸ sp.gh.sqT h.t, p _ G' H' sp (itm_enumT r (hk ▸ h.t))⟩
    · exact p.elim
end M
set_option Elab.async false
set_option linter.all false
set_option maxRecDepth 100000
set_option maxHeartbeats 4000000
namespace M
open PySem L2
/-! ### methods -/
theorem zip_none : ∀ {nm : List Str} {vs : List V} {f : Str}, f ∉ nm → (nm.zip vs).lookup f = none
  | [], _, _, _ => by simp
  | _ :: _, [], _, _ => by simp
  | n :: nm, v :: vs, f, h => by
    simp only [List.mem_cons, not_or] at h
    rw [List.zip_cons_cons, List.lookup_cons, beq_eq_false_iff_ne.mpr h.1]
    exact zip_none h.2
def D.isObj (ci : Nat) : D → Bool
  | .obj c _ => c == ci
  | _ => false
/-- a method, wherever it is called -/
structure Method (P : Program) (w : World) (K : PySem.W.Frag) (mg : Str → Option Value) (base : Heap) (k : Kn) (lv : Nat) (ci : Nat) (m : Str) (n : Nat) (fr : Bool) (den : List D → R D) : Prop where
  ex : ∃ (C f : Addr) (fd : FuncData) (ps nm : List Str), ps.length = n ∧ k.cl ci = some (C, nm) ∧ m ∉ nm ∧ Cls K C ∧ Meth K C m f ∧ FnOk P w K mg base CX0 lv f fd ps (SpF k fr n den) ∧ Binds K fd ps []
/-- a class with keywords at the end of its parameters -/
structure MakeK (P : Program) (w : World) (K : PySem.W.Frag) (mg : Str → Option Value) (base : Heap) (k : Kn) (lv : Nat) (x : Str) (ci n : Nat) (ks : List Str) (den : List D → R D) : Prop where
  ex : ∃ (C f : Addr) (fd : FuncData) (ps nm : List Str) (g : List Value → List Value → List Value), k.cl ci = some (C, nm) ∧ Mk K C f ∧ FnOk P w K mg base CX0 lv f fd ps (SpN k ci (n + ks.length + 1) den) ∧ mg x = some (.ref C) ∧ KBn K fd ps (n + 1) ks g (fun vs zs => vs ++ zs)
/-- a class -/
structure Maker (P : Program) (w : World) (K : PySem.W.Frag) (mg : Str → Option Value) (base : Heap) (k : Kn) (lv : Nat) (x : Str) (ci n : Nat) (den : List D → R D) : Prop where
  ex : ∃ (C f : Addr) (fd : FuncData) (ps : List Str) (nm : List Str), ps.length = n + 1 ∧ k.cl ci = some (C, nm) ∧ Mk K C f ∧ FnOk P w K mg base CX0 lv f fd ps (SpN k ci (n + 1) den) ∧ mg x = some (.ref C) ∧ Binds K fd ps []
/-- a property -/
structure Prope (P : Program) (w : World) (K : PySem.W.Frag) (mg : Str → Option Value) (base : Heap) (k : Kn) (lv : Nat) (ci : Nat) (m : Str) (fr : Bool) (den : List D → R D) : Prop where
  ex : ∃ (C p f : Addr) (fd : FuncData) (ps nm : List Str), ps.length = 1 ∧ k.cl ci = some (C, nm) ∧ Cls K C ∧ PropOf K C m p f ∧ FnOk P w K mg base CX0 lv f fd ps (SpF k fr 1 den) ∧ Binds K fd ps []
section
variable {X : Cx} {c : Cf} {k : Kn} {kd k1 k2 k3 : Kd} {a b e o : Expr} {f g h : FE} {pos apos cpos p' : Pos} {fr : Bool} {x y : Str} {den : List D → R D}
theorem rdE_mono {σ : L2.St} {H : Hp} {Q Q' : VK} (q : RdE c kd f σ H Q) (h : ∀ v H, Q v H → Q' v H) : RdE c kd f σ H Q' := by
  obtain ⟨G, S, rel, p⟩ := q
  refine ⟨G, S, rel, ?_⟩
  cases e : f S with
  | ok d => rw [e] at p; exact fun v G' H' s r => h _ _ (p v G' H' s r)
  | exc x => rw [e] at p; exact p
  | fail => rw [e] at p; exact p
def eM (ci : Nat) (den : List D → R D) (f : FE) (fa : FA) : FE := fun S => f S >>= fun o => if o.isObj ci then fa S >>= fun ds => (den (o :: ds)).nox else .fail
theorem meth_go {ci n : Nat} {C : Addr} {nm : List Str} {m : Str} {fa : FA} {σ : L2.St} {H : Hp} {Q : VK} (hcl : c.k.cl ci = some (C, nm)) (hmn : m ∉ nm) (hl : Len n fa) (q : RdE c (kdOf fr) (eM ci den f fa) σ H Q) :
    RdE c .st f σ H fun x H1 => ∃ a dx fs, x = .ref a ∧ H1 a = some (.ins C dx fs) ∧ fs.lookup m = none ∧ RdA c false fa σ H1 fun vs H2 => SpF c.k fr (n + 1) den (x :: (vs ++ [])) H2 Q E0 := by
  obtain ⟨G, S, rel, p⟩ := q
  refine rdE_go (g := fun o => if o.isObj ci then fa S >>= fun ds => (den (o :: ds)).nox else .fail) (Post := PostE c (kdOf fr) G S σ H Q) rel p (fun _ z => z) (fun z => z) fun d v G1 H1 s1 q1 p1 => ?_
  by_cases ho : d.isObj ci = true
  · rw [if_pos ho] at p1
    cases d with
    | obj c' ds =>
      have hc : c' = ci := by simpa [D.isObj] using ho
      subst hc
      have q1 : RD c.k G1 (.obj c' ds) v := q1
      cases q1 with
      | @obj _ _ ad CA dx nm' vs' hcl' hG hr =>
        rw [hcl] at hcl'; cases hcl'
        refine ⟨ad, dx, _, rfl, s1.gh _ _ hG, zip_none hmn, G1, S, rel.grow s1, ?_⟩
        cases e0 : fa S with
        | exc x => rw [e0] at p1; exact p1
        | fail => rw [e0] at p1; exact p1
        | ok as =>
          rw [e0] at p1
          intro vs G2 H2 s2 q2
          have q2 : RDs c.k G2 as vs := q2
          rw [List.append_nil]
          refine ⟨by simp [← q2.length, hl S as e0], G2, .obj c' ds :: as, s2.gh, .cons (.obj hcl (s2.g _ _ hG) (hr.mono s2.g)) q2, ?_⟩
          have p1 : PostE c (kdOf fr) G S σ H Q (den (.obj c' ds :: as)).nox := p1
          cases e1 : den (.obj c' ds :: as) with
          | ok d => rw [e1] at p1; exact fun v G' H' s3 r3 => p1 v G' H' ((s1.trans s2).trans s3) (r3.mono (s1.h.trans s2.h))
          | exc x => rw [e1] at p1; exact p1.elim
          | fail => rw [e1] at p1; exact p1.elim
    | _ => simp [D.isObj] at ho
  · rw [if_neg ho] at p1; exact p1.elim
theorem d_meth {lv m' : Nat} (ci : Nat) {m : Str} {n : Nat} {es : List Expr} {fa : FA} {pl : Sem Bool} (F : Method X.prog X.w X.K X.mg X.base c.k lv ci m (n + 1) fr den) (hr : Room m' X.A) (hle : lv ≤ m') (ho : PE' X c .st o f) (ha : PA' X c false (e :: es) fa) (hl : Len n fa)
    (hst : starEach (e :: es) X.env = (false, eval e X.env) :: starEach es X.env := by rfl) (hpl : (backTo pos (starEach es X.env)).any (·.1) = false := by rfl)
    (ht : eval (.Call (.Attribute o m apos) (e :: es) [] pos) X.env = (do
      let ov ← eval o X.env
      standAt apos.atName
      let (f, first) ← holding [ov] (getMethod ov m pl)
      callWith pos f first (backTo pos (starEach (e :: es) X.env)) (backToKw pos (keywordEach [] X.env))) := by rfl) :
    PE' X c (kdOf fr) (.Call (.Attribute o m apos) (e :: es) [] pos) (eM ci den f fa) := by
  obtain ⟨C, fa', fd, ps, nm, hn, hcl, hmn, cl, mt, ok, bd⟩ := F.ex
  exact peI (pe_meth ho cl mt ok (hr.mono hle) bd .nil pass0 ha hst hpl ht) fun σ H Q q => meth_go hcl hmn hl q
theorem d_meth0 {lv m' : Nat} (ci : Nat) {m : Str} {pl : Sem Bool} (F : Method X.prog X.w X.K X.mg X.base c.k lv ci m 1 fr den) (hr : Room m' X.A) (hle : lv ≤ m') (ho : PE' X c .st o f)
    (ht : eval (.Call (.Attribute o m apos) [] [] pos) X.env = (do
      let ov ← eval o X.env
      standAt apos.atName
      let (f, first) ← holding [ov] (getMethod ov m pl)
      callWith pos f first (backTo pos (starEach [] X.env)) (backToKw pos (keywordEach [] X.env))) := by rfl) :
    PE' X c (kdOf fr) (.Call (.Attribute o m apos) [] [] pos) (eM ci den f fun _ => .ok []) := by
  obtain ⟨C, fa', fd, ps, nm, hn, hcl, hmn, cl, mt, ok, bd⟩ := F.ex
  refine peI (pe_meth0 ho cl mt ok (hr.mono hle) bd .nil pass0 ht) fun σ H Q q => ?_
  have z := meth_go (n := 0) (fa := fun _ => .ok []) hcl hmn (fun S ds h => by cases h; rfl) q
  refine rdE_mono z fun x H1 q1 => ?_
  obtain ⟨a, dx, fs, e1, e2, e3, q2⟩ := q1
  refine ⟨a, dx, fs, e1, e2, e3, ?_⟩
  obtain ⟨G, S, rel, p⟩ := q2
  exact p [] G H1 (Step.refl rel.st.gh) .nil
/-- a property, read -/
def eP (ci : Nat) (den : List D → R D) (f : FE) : FE := eM ci den f fun _ => .ok []
theorem d_prop {lv m' : Nat} (ci : Nat) {m : Str} (F : Prope X.prog X.w X.K X.mg X.base c.k lv ci m fr den) (hr : Room m' X.A) (hle : lv + 1 ≤ m') (ho : PE' X c .st o f)
    (hb : attributeBase o m X.env (eval o X.env) = eval o X.env := by rfl) : PE' X c (kdOf fr) (.Attribute o m pos) (eP ci den f) := by
  obtain ⟨C, p0, fa', fd, ps, nm, hn, hcl, cl, pr, ok, bd⟩ := F.ex
  refine peI (pe_prop ho cl pr ok (hr.mono hle) bd .nil pass0 hb) fun σ H Q q => ?_
  obtain ⟨G, S, rel, p⟩ := q
  refine rdE_go (g := fun o => if o.isObj ci then (R.ok [] >>= fun ds => (den (o :: ds)).nox) else .fail) (Post := PostE c (kdOf fr) G S σ H Q) rel p (fun _ z => z) (fun z => z) fun d v G1 H1 s1 q1 p1 => ?_
  by_cases ho : d.isObj ci = true
  · rw [if_pos ho] at p1
    cases d with
    | obj c' ds =>
      have hc : c' = ci := by simpa [D.isObj] using ho
      subst hc
      have q1 : RD c.k G1 (.obj c' ds) v := q1
      cases q1 with
      | @obj _ _ ad CA dx nm' vs' hcl' hG hr =>
        rw [hcl] at hcl'; cases hcl'
        refine ⟨ad, dx, _, rfl, s1.gh _ _ hG, rfl, G1, [.obj c' ds], s1.gh, .cons (.obj hcl hG hr) .nil, ?_⟩
        have p1 : PostE c (kdOf fr) G S σ H Q (den [.obj c' ds]).nox := p1
        cases e1 : den [.obj c' ds] with
        | ok d => rw [e1] at p1; exact fun v G' H' s3 r3 => p1 v G' H' (s1.trans s3) (r3.mono s1.h)
        | exc x => rw [e1] at p1; exact p1.elim
        | fail => rw [e1] at p1; exact p1.elim
    | _ => simp [D.isObj] at ho
  · rw [if_neg ho] at p1; exact p1.elim
/-! ### classes -/
theorem d_maker {lv m' : Nat} {ci n : Nat} {p : Pos} {es : List Expr} {fa : FA} (F : Maker X.prog X.w X.K X.mg X.base c.k lv x ci n den) (hr : Room m' X.A) (hle : lv + 1 ≤ m') (ha : PA' X c false (e :: es) fa) (hl : Len n fa) (hg : Gl X x := by rfl) (hdb : (x == ("__debug__" : Str)) = false := by decide)
    (hs : starEach (e :: es) X.env = (false, eval e X.env) :: starEach es X.env := by rfl) (hs2 : ((backTo pos (starEach es X.env)).any fun x => x.1) = false := by rfl) : PE' X c .fr (.Call (.Name x p) (e :: es) [] pos) (eC den fa) := by
  obtain ⟨C, f, fd, ps, nm, hn, hcl, mk, ok, hm, hb⟩ := F.ex
  exact d_make ⟨C, f, fd, lv, ps, nm, hn, hcl, mk, ok, hr.mono hle, hm, hb⟩ ha hl hg hdb hs hs2
/-- the arguments and then the keywords -/
def fApp (fa fk : FA) : FA := fun S => fa S >>= fun as => fk S >>= fun bs => .ok (as ++ bs)
abbrev PK' (X : Cx) (c : Cf) (ks : List Keyword) (f : FA) : Prop := PK X ks (RdA c false f)
theorem pkI {ks : List Keyword} {t t' : TA} (h : PK X ks t) (i : ∀ σ H Q, t' σ H Q → t σ H Q) : PK X ks t' := ⟨fun pos pins s σ H Q I q => h.run pos pins s σ H Q I (i σ H Q q)⟩
theorem d_kn : PK' X c [] aN := pkI pk_nil fun σ H Q ⟨G, S, rel, p⟩ => p [] G H (Step.refl rel.st.gh) .nil
theorem d_kc {nm : Option Str} {kp : Pos} {ks : List Keyword} {ga : FA} (ha : PE' X c .st e f) (hr : PK' X c ks ga) : PK' X c (⟨nm, e, kp⟩ :: ks) (aC f ga) :=
  pkI (pk_cons ha hr) fun σ H Q ⟨G, S, rel, p⟩ => by
    refine rdE_go (g := fun x => do let xs ← ga S; .ok (x :: xs)) (Post := PostA c false G S σ H Q) rel p (fun _ z => z) (fun z => z) fun d1 v1 G1 H1 s1 q1 p1 => ?_
    refine rdA_go (g := fun xs => .ok (d1 :: xs)) (Post := PostA c false G S σ H Q) (rel.grow s1) p1 (fun _ z => z) (fun z => z) fun d2 v2 G2 H2 s2 q2 p2 => ?_
    exact p2 _ G2 H2 (s1.trans s2) (.cons (RD.mono s2.g q1) q2)
theorem d_makeK {lv m' : Nat} {ci n : Nat} {ks : List Str} {p : Pos} {es : List Expr} {kws : List Keyword} {fa fk : FA} (F : MakeK X.prog X.w X.K X.mg X.base c.k lv x ci n ks den) (hr : Room m' X.A) (hle : lv + 1 ≤ m') (ha : PA' X c false (e :: es) fa) (hl : Len n fa) (hk : PK' X c kws fk) (hkl : Len ks.length fk) (hg : Gl X x := by rfl)
    (hall : (backToKw pos (keywordEach kws X.env)).all (·.1.isSome) = true := by rfl) (hks : (backToKw pos (keywordEach kws X.env)).filterMap (·.1) = ks := by rfl) (hdb : (x == ("__debug__" : Str)) = false := by decide)
    (he : starEach (e :: es) X.env = (false, eval e X.env) :: starEach es X.env := by rfl) (hpl : ((backTo pos (starEach (e :: es) X.env)).any (·.1) || (backToKw pos (keywordEach kws X.env)).any (·.1.isNone)) = false := by rfl) :
    PE' X c .fr (.Call (.Name x p) (e :: es) kws pos) (eC den (fApp fa fk)) := by
  obtain ⟨C, f, fd, ps, nm, g, hcl, mk, ok, hm, hb⟩ := F.ex
  refine peI (pe_makeK mk ok (hr.mono hle) hg hm hb pass0 ha hk hall hks hdb he hpl) fun σ H Q ⟨G, S, rel, p⟩ => ?_
  have p : PostE c .fr G S σ H Q ((fa S >>= fun as => fk S >>= fun bs => R.ok (as ++ bs)) >>= fun ds => (den ds).nox) := p
  refine ⟨G, S, rel, ?_⟩
  cases e1 : fa S with
  | exc x => rw [e1] at p; exact p
  | fail => rw [e1] at p; exact p
  | ok as =>
    rw [e1] at p
    intro vs G1 H1 s1 q1
    refine ⟨G1, S, rel.grow s1, ?_⟩
    cases e2 : fk S with
    | exc x => simp only [R.ok_bind] at p; rw [e2] at p; exact p
    | fail => simp only [R.ok_bind] at p; rw [e2] at p; exact p
    | ok bs =>
      simp only [R.ok_bind] at p
      rw [e2] at p
      simp only [R.ok_bind] at p
      intro zs G2 H2 s2 q2
      have q1 : RDs c.k G1 as vs := q1
      have q2 : RDs c.k G2 bs zs := q2
      have l1 := hl S as e1
      have l2 := hkl S bs e2
      refine ⟨by rw [← q1.length]; exact l1, by rw [← q2.length]; exact l2, fun x dx hx hdx hne => ?_⟩
      have sp := s1.trans s2
      have q3 : RDs c.k G2 (as ++ bs) (vs ++ zs) := (q1.mono s2.g).append q2
      have hgx : G2 x = none := s2.gh.free hx
      have ex1 : Ex H2 (upd (upd H2 dx (.own x)) x (.ins C dx [])) := (Ex.new hdx).upd hx
      refine ⟨by simp [← q1.length, ← q2.length, l1, l2], x, vs ++ zs, G2, as ++ bs, C, dx, nm, rfl, hcl, upd_same, hgx, s2.gh.trans ex1, q3, ?_⟩
      have p : PostE c .fr G S σ H Q (den (as ++ bs)).nox := p
      cases e1 : den (as ++ bs) with
      | ok d =>
        rw [e1] at p
        intro G' H' o ex hk gh hgx' gr ho ct
        refine ⟨rfl, p _ G' H' (sp.trans ⟨ex, fun b u q => hk b u (ne_of_none q hx) (ex1 b u q), gh, fun b u q => ?_⟩) ⟨x, o, rfl, hgx', sp.h.free hx, ho, ct⟩⟩
        rcases gr b u q with z | z
        · exact .inl z
        · exact .inr (ex1.free z)
      | exc x => rw [e1] at p; exact p.elim
      | fail => rw [e1] at p; exact p.elim
/-! ### isinstance against an own class -/
structure ClsT (K : PySem.W.Frag) (k : Kn) (ci : Nat) : Prop where
  ex : ∃ C nm, k.cl ci = some (C, nm) ∧ Cls K C ∧ PySem.W.findIn K (.ref C) "__class__" = some (some (.builtin "object.__class__")) ∧ PySem.W.specialIn K (.builtin "object.__class__") "__get__" = some (some (.builtin "getset_descriptor.__get__")) ∧
    PySem.W.takesIn K (.builtin "object.__class__") = some true ∧ PySem.W.mroIn K C (.type "object") = some true
def isiC (ci : Nat) : D → D → R D
  | .obj c _, .cls c' => if c = ci ∧ c' = ci then .ok (.bl true) else .fail
  | _, _ => .fail
theorem c_isiC {ci : Nat} (T : ClsT X.K k ci) : ClR X k (.builtin "isinstance") .st (f2 (isiC ci)) := cl2 call_isi fun G H x v y u d e n m hg Q p => by
  unfold isiC at hg
  split at hg
  · split at hg
    · rename_i hc
      obtain ⟨rfl, rfl⟩ := hc
      cases hg
      obtain ⟨C, nm, hcl, cl, t1, t2, t3, t4⟩ := T.ex
      obtain ⟨a, CA, dx, nm', vs, rfl, hcl', ha, r⟩ := n.obj e
      rw [hcl] at hcl'; cases hcl'
      have z : u = .ref C := by
        rcases m with m | ⟨_, _, _, _, ct⟩
        · cases m with
          | cls h1 => rw [hcl] at h1; cases h1; rfl
        · cases ct
      subst z
      exact ⟨_, _, _, _, true, rfl, .own C, .base (.ins ha cl t1 t2 t3 t4), by unfold PySem.W.kitOne; rw [if_pos (by simp)], p _ G H (Step.refl e) (.bl _)⟩
    · cases hg
  · cases hg
/-! ### the same with the kind written -/
theorem d_callS {n : Nat} {p : Pos} {es : List Expr} {fa : FA} (F : Fn0 X c.k x n false den) (ha : PA' X c false (e :: es) fa) (hl : Len n fa) (hg : Gl X x := by rfl) (hdb : (x == ("__debug__" : Str)) = false := by decide)
    (hs : starEach (e :: es) X.env = (false, eval e X.env) :: starEach es X.env := by rfl) (hs2 : ((backTo pos (starEach es X.env)).any fun x => x.1) = false := by rfl) : PE' X c .st (.Call (.Name x p) (e :: es) [] pos) (eC den fa) := d_call F ha hl hg hdb hs hs2
theorem d_methS {lv m' : Nat} (ci : Nat) {m : Str} {n : Nat} {es : List Expr} {fa : FA} {pl : Sem Bool} (F : Method X.prog X.w X.K X.mg X.base c.k lv ci m (n + 1) false den) (hr : Room m' X.A) (hle : lv ≤ m') (ho : PE' X c .st o f) (ha : PA' X c false (e :: es) fa) (hl : Len n fa)
    (hst : starEach (e :: es) X.env = (false, eval e X.env) :: starEach es X.env := by rfl) (hpl : (backTo pos (starEach es X.env)).any (·.1) = false := by rfl)
    (ht : eval (.Call (.Attribute o m apos) (e :: es) [] pos) X.env = (do
      let ov ← eval o X.env
      standAt apos.atName
      let (f, first) ← holding [ov] (getMethod ov m pl)
      callWith pos f first (backTo pos (starEach (e :: es) X.env)) (backToKw pos (keywordEach [] X.env))) := by rfl) :
    PE' X c .st (.Call (.Attribute o m apos) (e :: es) [] pos) (eM ci den f fa) := d_meth ci F hr hle ho ha hl hst hpl ht
theorem d_meth0S {lv m' : Nat} (ci : Nat) {m : Str} {pl : Sem Bool} (F : Method X.prog X.w X.K X.mg X.base c.k lv ci m 1 false den) (hr : Room m' X.A) (hle : lv ≤ m') (ho : PE' X c .st o f)
    (ht : eval (.Call (.Attribute o m apos) [] [] pos) X.env = (do
      let ov ← eval o X.env
      standAt apos.atName
      let (f, first) ← holding [ov] (getMethod ov m pl)
      callWith pos f first (backTo pos (starEach [] X.env)) (backToKw pos (keywordEach [] X.env))) := by rfl) :
    PE' X c .st (.Call (.Attribute o m apos) [] [] pos) (eM ci den f fun _ => .ok []) := d_meth0 ci F hr hle ho ht
theorem d_callF {n : Nat} {p : Pos} {es : List Expr} {fa : FA} (F : Fn0 X c.k x n true den) (ha : PA' X c false (e :: es) fa) (hl : Len n fa) (hg : Gl X x := by rfl) (hdb : (x == ("__debug__" : Str)) = false := by decide)
    (hs : starEach (e :: es) X.env = (false, eval e X.env) :: starEach es X.env := by rfl) (hs2 : ((backTo pos (starEach es X.env)).any fun x => x.1) = false := by rfl) : PE' X c .fr (.Call (.Name x p) (e :: es) [] pos) (eC den fa) := d_call F ha hl hg hdb hs hs2
theorem d_methF {lv m' : Nat} (ci : Nat) {m : Str} {n : Nat} {es : List Expr} {fa : FA} {pl : Sem Bool} (F : Method X.prog X.w X.K X.mg X.base c.k lv ci m (n + 1) true den) (hr : Room m' X.A) (hle : lv ≤ m') (ho : PE' X c .st o f) (ha : PA' X c false (e :: es) fa) (hl : Len n fa)
    (hst : starEach (e :: es) X.env = (false, eval e X.env) :: starEach es X.env := by rfl) (hpl : (backTo pos (starEach es X.env)).any (·.1) = false := by rfl)
    (ht : eval (.Call (.Attribute o m apos) (e :: es) [] pos) X.env = (do
      let ov ← eval o X.env
      standAt apos.atName
      let (f, first) ← holding [ov] (getMethod ov m pl)
      callWith pos f first (backTo pos (starEach (e :: es) X.env)) (backToKw pos (keywordEach [] X.env))) := by rfl) :
    PE' X c .fr (.Call (.Attribute o m apos) (e :: es) [] pos) (eM ci den f fa) := d_meth ci F hr hle ho ha hl hst hpl ht
theorem d_meth0F {lv m' : Nat} (ci : Nat) {m : Str} {pl : Sem Bool} (F : Method X.prog X.w X.K X.mg X.base c.k lv ci m 1 true den) (hr : Room m' X.A) (hle : lv ≤ m') (ho : PE' X c .st o f)
    (ht : eval (.Call (.Attribute o m apos) [] [] pos) X.env = (do
      let ov ← eval o X.env
      standAt apos.atName
      let (f, first) ← holding [ov] (getMethod ov m pl)
      callWith pos f first (backTo pos (starEach [] X.env)) (backToKw pos (keywordEach [] X.env))) := by rfl) :
    PE' X c .fr (.Call (.Attribute o m apos) [] [] pos) (eM ci den f fun _ => .ok []) := d_meth0 ci F hr hle ho ht
theorem d_propS {lv m' : Nat} (ci : Nat) {m : Str} (F : Prope X.prog X.w X.K X.mg X.base c.k lv ci m false den) (hr : Room m' X.A) (hle : lv + 1 ≤ m') (ho : PE' X c .st o f)
    (hb : attributeBase o m X.env (eval o X.env) = eval o X.env := by rfl) : PE' X c .st (.Attribute o m pos) (eP ci den f) := d_prop ci F hr hle ho hb
end
end M
set_option Elab.async false
set_option linter.all false
set_option maxRecDepth 100000
set_option maxHeartbeats 4000000
namespace M
open PySem L2
/-! ### plain evaluation: what an answer keeps -/
def Ok {α : Type} (r : R α) (Q : α → Prop) : Prop := ∃ a, r = .ok a ∧ Q a
section
variable {α β : Type} {Q : α → Prop} {S : Env}
theorem Ok.mono {r : R α} {P : α → Prop} (h : Ok r P) (k : ∀ a, P a → Q a) : Ok r Q := by obtain ⟨a, e, p⟩ := h; exact ⟨a, e, k a p⟩
theorem ok_ok {a : α} : Ok (.ok a) Q ↔ Q a := ⟨fun ⟨_, e, q⟩ => (by cases e; exact q), fun q => ⟨a, rfl, q⟩⟩
theorem ok_eq {r : R α} {a : α} (e : r = .ok a) : Ok r Q ↔ Q a := by rw [e]; exact ok_ok
theorem ok_bind {r : R β} {f : β → R α} : Ok (r >>= f) Q ↔ Ok r fun b => Ok (f b) Q := by
  cases r with
  | ok b => rw [ok_ok]; exact Iff.rfl
  | exc x => exact ⟨fun ⟨_, e, _⟩ => (nomatch e), fun ⟨_, e, _⟩ => (nomatch e)⟩
  | fail => exact ⟨fun ⟨_, e, _⟩ => (nomatch e), fun ⟨_, e, _⟩ => (nomatch e)⟩
theorem ok_nox {r : R α} : Ok r.nox Q ↔ Ok r Q := by
  cases r with
  | ok b => exact Iff.rfl
  | exc x => exact ⟨fun ⟨_, e, _⟩ => (nomatch e), fun ⟨_, e, _⟩ => (nomatch e)⟩
  | fail => exact Iff.rfl
theorem ok_if {c : Prop} [Decidable c] {a : R α} : Ok (if c then a else .fail) Q ↔ c ∧ Ok a Q := by
  by_cases h : c
  · rw [if_pos h]; exact ⟨fun z => ⟨h, z⟩, fun z => z.2⟩
  · rw [if_neg h]; exact ⟨fun ⟨_, e, _⟩ => (nomatch e), fun z => absurd z.1 h⟩
theorem ok_ite {c : Prop} [Decidable c] {a b : R α} : Ok (if c then a else b) Q ↔ (c → Ok a Q) ∧ (¬ c → Ok b Q) := by
  by_cases h : c
  · rw [if_pos h]; exact ⟨fun z => ⟨fun _ => z, fun q => absurd h q⟩, fun z => z.1 h⟩
  · rw [if_neg h]; exact ⟨fun z => ⟨fun q => absurd q h, fun _ => z⟩, fun z => z.2 h⟩
theorem Ok.eq {r : R α} {a : α} (h : Ok r fun x => x = a) : r = .ok a := by obtain ⟨x, e, rfl⟩ := h; exact e
end
section
variable {Q : D → Prop} {QB : Bool → Prop} {QL : List D → Prop} {QE : Env → Prop} {QS : Fl × Env → Prop} {QO : Option Int → Prop} {S : Env} {f g h : FE} {t u : FT} {fa : FA} {s r : FS} {i j : Nat} {d x y : D}
theorem k_I {i : Int} : Ok (eI i S) Q ↔ Q (.int i) := ok_ok
theorem k_S {i : Str} : Ok (eS i S) Q ↔ Q (.str i) := ok_ok
theorem k_B {i : Bool} : Ok (eB i S) Q ↔ Q (.bl i) := ok_ok
theorem k_N : Ok (eN S) Q ↔ Q .non := ok_ok
theorem k_G : Ok (eG d S) Q ↔ Q d := ok_ok
theorem k_Y {n : String} : Ok (eY n S) Q ↔ Q (.ty n) := ok_ok
def get0 (i : Nat) (S : Env) (Q : D → Prop) : Prop := match S[i]? with | some (some ⟨false, d⟩) => Q d | _ => False
def getA (i : Nat) (S : Env) (Q : D → Prop) : Prop := match S[i]? with | some (some ⟨_, d⟩) => Q d | _ => False
def get1 (i : Nat) (S : Env) (Q : D → Prop) : Prop := match S[i]? with | some (some ⟨true, d⟩) => Q d | _ => False
theorem ok_fail {α : Type} {Q : α → Prop} : Ok (.fail : R α) Q ↔ False := ⟨fun ⟨_, e, _⟩ => (nomatch e), False.elim⟩
theorem k_V : Ok (eV i S) Q ↔ get0 i S Q := by
  unfold eV get0
  cases S[i]? with
  | none => exact ok_fail
  | some o =>
    cases o with
    | none => exact ok_fail
    | some sl => obtain ⟨b, d⟩ := sl; cases b <;> first | exact ok_ok | exact ok_fail
theorem k_W : Ok (eW i S) Q ↔ getA i S Q := by
  unfold eW getA
  cases S[i]? with
  | none => exact ok_fail
  | some o =>
    cases o with
    | none => exact ok_fail
    | some sl => obtain ⟨b, d⟩ := sl; cases b <;> first | exact ok_ok | exact ok_fail
theorem k_O : Ok (eO i S) Q ↔ get1 i S Q := by
  unfold eO get1
  cases S[i]? with
  | none => exact ok_fail
  | some o =>
    cases o with
    | none => exact ok_fail
    | some sl => obtain ⟨b, d⟩ := sl; cases b <;> first | exact ok_ok | exact ok_fail
theorem g0_z {b : List (Option Sl)} {Q : D → Prop} : get0 0 (some ⟨false, d⟩ :: b) Q ↔ Q d := Iff.rfl
theorem g0_s {a : Option Sl} {b : List (Option Sl)} {Q : D → Prop} : get0 (i + 1) (a :: b) Q ↔ get0 i b Q := Iff.rfl
theorem gA_z {o : Bool} {b : List (Option Sl)} {Q : D → Prop} : getA 0 (some ⟨o, d⟩ :: b) Q ↔ Q d := Iff.rfl
theorem gA_s {a : Option Sl} {b : List (Option Sl)} {Q : D → Prop} : getA (i + 1) (a :: b) Q ↔ getA i b Q := Iff.rfl
theorem g1_z {b : List (Option Sl)} {Q : D → Prop} : get1 0 (some ⟨true, d⟩ :: b) Q ↔ Q d := Iff.rfl
theorem g1_s {a : Option Sl} {b : List (Option Sl)} {Q : D → Prop} : get1 (i + 1) (a :: b) Q ↔ get1 i b Q := Iff.rfl
theorem k_1 {o : D → R D} : Ok (e1 o f S) Q ↔ Ok (f S) fun x => Ok (o x) Q := by unfold e1; simp only [ok_bind, ok_nox]
theorem k_2 {o : D → D → R D} : Ok (e2 o f g S) Q ↔ Ok (f S) fun x => Ok (g S) fun y => Ok (o x y) Q := by unfold e2; simp only [ok_bind, ok_nox]
theorem k_n : Ok (aN S) QL ↔ QL [] := ok_ok
theorem k_c : Ok (aC f fa S) QL ↔ Ok (f S) fun x => Ok (fa S) fun xs => QL (x :: xs) := by unfold aC; simp only [ok_bind, ok_ok]
theorem k_T : Ok (eT fa S) Q ↔ Ok (fa S) fun xs => xs.length ≤ sizeLine ∧ Q (.tup xs) := by unfold eT mkT; simp only [ok_bind, ok_if, ok_ok]
theorem k_L : Ok (eL fa S) Q ↔ Ok (fa S) fun xs => xs.length ≤ sizeLine ∧ Q (.lst xs) := by unfold eL mkL; simp only [ok_bind, ok_if, ok_ok]
theorem k_C {o : List D → R D} : Ok (eC o fa S) Q ↔ Ok (fa S) fun xs => Ok (o xs) Q := by unfold eC; simp only [ok_bind, ok_nox]
theorem k_f1 {o : D → R D} : Ok (f1 o [x]) Q ↔ Ok (o x) Q := Iff.rfl
theorem k_f2 {o : D → D → R D} : Ok (f2 o [x, y]) Q ↔ Ok (o x y) Q := Iff.rfl
theorem k_App {fk : FA} : Ok (fApp fa fk S) QL ↔ Ok (fa S) fun xs => Ok (fk S) fun ys => QL (xs ++ ys) := by unfold fApp; simp only [ok_bind, ok_ok]
theorem k_M {ci : Nat} {den : List D → R D} : Ok (eM ci den f fa S) Q ↔ Ok (f S) fun o => o.isObj ci = true ∧ Ok (fa S) fun ds => Ok (den (o :: ds)) Q := by unfold eM; simp only [ok_bind, ok_if, ok_nox]
theorem k_P {ci : Nat} {den : List D → R D} : Ok (eP ci den f S) Q ↔ Ok (f S) fun o => o.isObj ci = true ∧ Ok (den [o]) Q := by unfold eP; rw [k_M]; simp only [ok_ok]
theorem ok_b {α : Type} {Q : α → Prop} {b : Bool} {a c : R α} : Ok (if b = true then a else c) Q ↔ (b = true → Ok a Q) ∧ (b = false → Ok c Q) := by cases b <;> simp
theorem k_3 {o o' : D → D → R D} : Ok (e3 o o' f g h S) Q ↔ Ok (f S) fun x => Ok (g S) fun y => Ok (o x y) fun b => Ok (toB b) fun b => (b = true → Ok (h S) fun z => Ok (o' y z) Q) ∧ (b = false → Q (.bl false)) := by
  unfold e3
  simp only [ok_bind, ok_nox, ok_b, ok_ok]
/-! tests -/
theorem k_tB : Ok (tB' f S) QB ↔ Ok (f S) fun x => Ok (toB x) QB := by unfold tB'; simp only [ok_bind]
theorem k_tT : Ok (tT' f S) QB ↔ Ok (f S) fun x => Ok (truD x) QB := by unfold tT'; simp only [ok_bind]
theorem k_toB {b : Bool} : Ok (toB (.bl b)) QB ↔ QB b := ok_ok
theorem k_tNo : Ok (tNo t S) QB ↔ Ok (t S) fun b => QB (!b) := by unfold tNo; simp only [ok_bind, ok_ok]
theorem k_tA : Ok (tA t u S) QB ↔ Ok (t S) fun b => (b = true → Ok (u S) QB) ∧ (b = false → QB false) := by unfold tA; simp only [ok_bind, ok_b, ok_ok]
theorem k_tO : Ok (tO t u S) QB ↔ Ok (t S) fun b => (b = true → QB true) ∧ (b = false → Ok (u S) QB) := by unfold tO; simp only [ok_bind, ok_b, ok_ok]
theorem k_tY : Ok (tY S) QB ↔ QB true := ok_ok
theorem k_And : Ok (eAnd f g S) Q ↔ Ok (f S) fun x => Ok (toB x) fun b => (b = true → Ok (g S) Q) ∧ (b = false → Q (.bl false)) := by unfold eAnd; simp only [ok_bind, ok_b, ok_ok]
theorem k_Or : Ok (eOr f g S) Q ↔ Ok (f S) fun x => Ok (toB x) fun b => (b = true → Q (.bl true)) ∧ (b = false → Ok (g S) Q) := by unfold eOr; simp only [ok_bind, ok_b, ok_ok]
theorem k_Not : Ok (eNot f S) Q ↔ Ok (f S) fun x => Ok (toB x) fun b => Q (.bl (!b)) := by unfold eNot; simp only [ok_bind, ok_ok]
theorem k_eIf : Ok (eIf t f g S) Q ↔ Ok (t S) fun b => (b = true → Ok (f S) Q) ∧ (b = false → Ok (g S) Q) := by unfold eIf; simp only [ok_bind, ok_b]
/-! statements -/
theorem k_nil : Ok (sNil S) QS ↔ QS (.nx, S) := ok_ok
theorem k_seq : Ok (sSeq s r S) QS ↔ Ok (s S) fun z => match z.1 with | .nx => Ok (r z.2) QS | _ => QS z := by
  unfold sSeq
  rw [ok_bind]
  apply iff_of_eq
  congr 1
  funext z
  obtain ⟨fl, S'⟩ := z
  cases fl <;> simp [ok_ok]
theorem k_set : Ok (sSet i f S) QS ↔ Ok (f S) fun d => QS (.nx, S.set i (some ⟨false, d⟩)) := by unfold sSet; simp only [ok_bind, ok_ok]
theorem k_own : Ok (sOwn i f S) QS ↔ Ok (f S) fun d => QS (.nx, S.set i (some ⟨true, d⟩)) := by unfold sOwn; simp only [ok_bind, ok_ok]
theorem k_drop : Ok (sDrop f S) QS ↔ Ok (f S) fun d => QS (.nx, S) := by unfold sDrop; simp only [ok_bind, ok_ok]
theorem k_ret : Ok (sRet f S) QS ↔ Ok (f S) fun d => QS (.rt d, S) := by unfold sRet; simp only [ok_bind, ok_ok]
theorem k_retN : Ok (sRetN S) QS ↔ QS (.rt .non, S) := ok_ok
theorem k_retO : Ok (sRetO i S) QS ↔ get1 i S fun d => QS (.rt d, S) := by unfold sRetO; simp only [ok_bind, ok_ok, k_O]
theorem k_if : Ok (sIf t s r S) QS ↔ Ok (t S) fun b => (b = true → Ok (s S) QS) ∧ (b = false → Ok (r S) QS) := by unfold sIf; simp only [ok_bind, ok_b]
theorem k_fz : Ok (sFz i s S) QS ↔ Ok (s (fzS S i)) QS := Iff.rfl
theorem fz_z {b : Bool} {l : List (Option Sl)} : fzS (some ⟨b, d⟩ :: l) 0 = some ⟨false, d⟩ :: l := by cases b <;> rfl
theorem fz_s {a : Option Sl} {l : List (Option Sl)} : fzS (a :: l) (i + 1) = a :: fzS l i := by
  unfold fzS
  rw [List.getElem?_cons_succ]
  split <;> simp [*]
theorem k_gN : Ok (gN i d S) QE ↔ QE (S.set i (some ⟨false, d⟩)) := ok_ok
theorem k_gsN : Ok (gsN [] S) QE ↔ QE S := ok_ok
theorem k_gsC {ga : FG} {gr : FGs} {ds : List D} : Ok (gsC ga gr (d :: ds) S) QE ↔ Ok (ga d S) fun S1 => Ok (gr ds S1) QE := ok_bind
theorem k_gT {n : Nat} {gr : FGs} {ds : List D} : Ok (gT n gr (.tup ds) S) QE ↔ ds.length = n ∧ Ok (gr ds S) QE := ok_if
theorem k_asg {ga : FG} : Ok (sAsg ga f S) QS ↔ Ok (f S) fun d => Ok (ga d S) fun S1 => QS (.nx, S1) := by unfold sAsg; simp only [ok_bind, ok_nox, ok_ok]
theorem k_for {fi : FI} {ga : FG} : Ok (sFor fi ga s S) QS ↔ Ok (fi S) fun ds => Ok (forF ga s ds S) QS := ok_bind
theorem k_fnil {ga : FG} : Ok (forF ga s [] S) QS ↔ QS (.nx, S) := ok_ok
theorem k_fcons {ga : FG} {ds : List D} : Ok (forF ga s (d :: ds) S) QS ↔ Ok (ga d S) fun S1 => Ok (s S1) fun z => match z.1 with
    | .nx => Ok (forF ga s ds z.2) QS
    | .ct => Ok (forF ga s ds z.2) QS
    | .bk => QS (.nx, z.2)
    | .rt d => QS (.rt d, z.2) := by
  show Ok ((ga d S).nox >>= _) QS ↔ _
  rw [ok_bind, ok_nox]
  apply iff_of_eq
  congr 1
  funext S1
  refine propext ?_
  rw [ok_bind]
  apply iff_of_eq
  congr 1
  funext z
  obtain ⟨fl, S'⟩ := z
  cases fl <;> simp [ok_ok]
theorem for_inv {ga : FG} (P : Nat → Env → Prop) : ∀ (ds : List D) (n : Nat) (S : Env), P n S → (∀ i d S, ds[i]? = some d → P (n + i) S → Ok (ga d S) fun S1 => Ok (s S1) fun z => match z.1 with
    | .nx => P (n + i + 1) z.2
    | .ct => P (n + i + 1) z.2
    | .bk => QS (.nx, z.2)
    | .rt d => QS (.rt d, z.2)) → (∀ S, P (n + ds.length) S → QS (.nx, S)) → Ok (forF ga s ds S) QS
  | [], n, S, h, _, q => ok_ok.mpr (q S h)
  | d :: ds, n, S, h, k, q => by
    rw [k_fcons]
    refine (k 0 d S rfl h).mono fun S1 h1 => h1.mono fun z hz => ?_
    have next : ∀ S', P (n + 0 + 1) S' → Ok (forF ga s ds S') QS := fun S' hp => for_inv P ds (n + 1) S' hp (fun i d' S'' hi hp => by
      have := k (i + 1) d' S'' (by simpa using hi) (by rwa [show n + (i + 1) = n + 1 + i by omega])
      rwa [show n + (i + 1) + 1 = n + 1 + i + 1 by omega] at this) fun S'' h => q S'' (by rwa [List.length_cons, show n + (ds.length + 1) = n + 1 + ds.length by omega])
    obtain ⟨fl, S'⟩ := z
    cases fl with
    | nx => exact next S' hz
    | ct => exact next S' hz
    | bk => exact hz
    | rt d => exact hz
theorem k_app : Ok (sApp i f S) QS ↔ Ok (ownL i S) fun ds => Ok (f S) fun d => ds.length < sizeLine ∧ QS (.nx, S.set i (some ⟨true, .lst (ds ++ [d])⟩)) := by unfold sApp; simp only [ok_bind, ok_if, ok_ok]
theorem oL_z {l : List (Option Sl)} {ds : List D} : Ok (ownL 0 (some ⟨true, .lst ds⟩ :: l)) QL ↔ QL ds := ok_ok
theorem oL_s {a : Option Sl} {l : List (Option Sl)} : Ok (ownL (i + 1) (a :: l)) QL ↔ Ok (ownL i l) QL := Iff.rfl
theorem k_par {is : List Nat} : Ok (sPar is fa S) QS ↔ Ok (fa S) fun ds => ds.length = is.length ∧ QS (.nx, putS S is ds) := by unfold sPar; simp only [ok_bind, ok_if, ok_ok]
theorem k_run {n : Nat} {ds : List D} : Ok (runF false n s ds) Q ↔ Ok (s (startS n ds)) fun z => match z.1 with | .rt d => Q d | .nx => Q .non | _ => False := by
  unfold runF
  cases e : s (startS n ds) with
  | ok z =>
    rw [ok_ok]
    obtain ⟨fl, S'⟩ := z
    cases fl <;> simp [endF, ok_ok, ok_fail]
  | exc x => exact ⟨fun ⟨_, e, _⟩ => (nomatch e), fun ⟨_, e, _⟩ => (nomatch e)⟩
  | fail => exact ⟨fun ⟨_, e, _⟩ => (nomatch e), fun ⟨_, e, _⟩ => (nomatch e)⟩
theorem k_runN {n ci : Nat} {ds : List D} : Ok (runN n ci s ds) Q ↔ Ok (s (startN n ci ds)) fun z => match z.1 with | .nx => get1 0 z.2 Q | _ => False := by
  unfold runN
  cases e : s (startN n ci ds) with
  | ok z =>
    rw [ok_ok]
    obtain ⟨fl, S'⟩ := z
    cases fl with
    | nx =>
      show Ok (endN (.ok (.nx, S'))) Q ↔ get1 0 S' Q
      unfold endN get1
      dsimp only
      cases S'[0]? with
      | none => exact ok_fail
      | some o =>
        cases o with
        | none => exact ok_fail
        | some sl => obtain ⟨b, d⟩ := sl; cases b <;> first | exact ok_ok | exact ok_fail
    | _ => exact ok_fail
  | exc x => exact ⟨fun ⟨_, e, _⟩ => (nomatch e), fun ⟨_, e, _⟩ => (nomatch e)⟩
  | fail => exact ⟨fun ⟨_, e, _⟩ => (nomatch e), fun ⟨_, e, _⟩ => (nomatch e)⟩
theorem k_fld {ci : Nat} : Ok (sFldN ci i j f S) QS ↔ Ok (ownO ci i S) fun ds => Ok (f S) fun d => ds.length = j ∧ QS (.nx, S.set i (some ⟨true, .obj ci (ds ++ [d])⟩)) := by unfold sFldN; simp only [ok_bind, ok_if, ok_ok]
theorem oO_z {ci : Nat} {l : List (Option Sl)} {ds : List D} : Ok (ownO ci 0 (some ⟨true, .obj ci ds⟩ :: l)) QL ↔ QL ds := by
  show Ok (if ci = ci then _ else _) QL ↔ _
  rw [if_pos rfl]; exact ok_ok
/-! operations -/
theorem k_add {a b : Int} : Ok (addD (.int a) (.int b)) Q ↔ Q (.int (a + b)) := ok_ok
theorem k_addL {a b : List D} : Ok (addD (.lst a) (.lst b)) Q ↔ a.length + b.length ≤ sizeLine ∧ Q (.lst (a ++ b)) := by show Ok (if _ then _ else _) Q ↔ _; rw [ok_if, ok_ok]
theorem k_sub {a b : Int} : Ok (subD (.int a) (.int b)) Q ↔ Q (.int (a - b)) := ok_ok
theorem k_mul {a b : Int} : Ok (mulD (.int a) (.int b)) Q ↔ (CMul a b ∨ CMulX a b) ∧ Q (.int (a * b)) := by show Ok (if _ then _ else _) Q ↔ _; rw [ok_if, ok_ok]
theorem k_div {a b : Int} : Ok (fdivD (.int a) (.int b)) Q ↔ CDiv a b ∧ Q (.int (a / b)) := by show Ok (if _ then _ else _) Q ↔ _; rw [ok_if, ok_ok]
theorem k_mod {a b : Int} : Ok (modD (.int a) (.int b)) Q ↔ 0 < b ∧ Q (.int (a % b)) := by show Ok (if _ then _ else _) Q ↔ _; rw [ok_if, ok_ok]
theorem k_pow {a b : Int} : Ok (powD (.int a) (.int b)) Q ↔ CPow a b ∧ Q (.int (a ^ b.toNat)) := by show Ok (if _ then _ else _) Q ↔ _; rw [ok_if, ok_ok]
theorem k_neg {a : Int} : Ok (negD (.int a)) Q ↔ Q (.int (-a)) := ok_ok
theorem k_lt {a b : Int} : Ok (ltD (.int a) (.int b)) Q ↔ Q (.bl (decide (a < b))) := ok_ok
theorem k_le {a b : Int} : Ok (leD (.int a) (.int b)) Q ↔ Q (.bl (decide (a ≤ b))) := ok_ok
theorem k_gt {a b : Int} : Ok (gtD (.int a) (.int b)) Q ↔ Q (.bl (decide (b < a))) := ok_ok
theorem k_ge {a b : Int} : Ok (geD (.int a) (.int b)) Q ↔ Q (.bl (decide (b ≤ a))) := ok_ok
theorem k_eqI {a b : Int} : Ok (eqD (.int a) (.int b)) Q ↔ Q (.bl (decide (a = b))) := by
  have e : eqD (.int a) (.int b) = .ok (.bl (decide (a = b))) := by
    unfold eqD; simp only [dok, deq, Bool.and_self, if_true]; rfl
  rw [e, ok_ok]
theorem k_neI {a b : Int} : Ok (neD (.int a) (.int b)) Q ↔ Q (.bl (!decide (a = b))) := by
  have e : neD (.int a) (.int b) = .ok (.bl (!decide (a = b))) := by
    unfold neD; simp only [dok, deq, Bool.and_self, if_true]; rfl
  rw [e, ok_ok]
theorem k_int {a : Int} : Ok (intD (.int a)) Q ↔ Q (.int a) := ok_ok
theorem k_intB {b : Bool} : Ok (intD (.bl b)) Q ↔ Q (.int (if b then 1 else 0)) := ok_ok
theorem k_abs {a : Int} : Ok (absD (.int a)) Q ↔ Q (.int (if a < 0 then -a else a)) := ok_ok
theorem k_lenL {a : List D} : Ok (lenD (.lst a)) Q ↔ Q (.int a.length) := ok_ok
theorem k_lenT {a : List D} : Ok (lenD (.tup a)) Q ↔ Q (.int a.length) := ok_ok
theorem k_lenC {a : List Int} : Ok (lenD (.scr a)) Q ↔ Q (.int a.length) := ok_ok
theorem k_tru {b : Bool} : Ok (truD (.bl b)) QB ↔ QB b := ok_ok
theorem k_tupL {a : List D} : Ok (tupD (.lst a)) Q ↔ Q (.tup a) := ok_ok
theorem k_tupT {a : List D} : Ok (tupD (.tup a)) Q ↔ Q (.tup a) := ok_ok
theorem k_fldD {ci j : Nat} {ds : List D} : Ok (fldD ci j (.obj ci ds)) Q ↔ ∃ d, ds[j]? = some d ∧ Q d := by
  show Ok (if ci = ci then _ else _) Q ↔ _
  rw [if_pos rfl]
  cases h : ds[j]? with
  | none => exact ⟨fun ⟨_, e, _⟩ => (nomatch e), fun ⟨_, e, _⟩ => (nomatch e)⟩
  | some d => exact ⟨fun q => ⟨d, rfl, ok_ok.mp q⟩, fun ⟨_, e, q⟩ => by cases e; exact ok_ok.mpr q⟩
theorem k_items_l {ds : List D} : Ok (itemsD (.lst ds)) QL ↔ QL ds := ok_ok
theorem k_items_t {ds : List D} : Ok (itemsD (.tup ds)) QL ↔ QL ds := ok_ok
theorem k_rng1 {j : Int} : Ok (rng1 [.int j]) QL ↔ (-(2 ^ 62) ≤ j ∧ j < 2 ^ 62) ∧ QL (rngL 0 j.toNat) := by show Ok (if _ then _ else _) QL ↔ _; rw [ok_if, ok_ok]
theorem k_ixL {xs : List D} {i : Int} : Ok (ixD (.lst xs) (.int i)) Q ↔ ∃ d, L2.atI xs i = some d ∧ Q d := by
  show Ok (match L2.atI xs i with | some d => .ok d | none => .fail) Q ↔ _
  cases L2.atI xs i with
  | none => exact ⟨fun ⟨_, e, _⟩ => (nomatch e), fun ⟨_, e, _⟩ => (nomatch e)⟩
  | some d => exact ⟨fun q => ⟨d, rfl, ok_ok.mp q⟩, fun ⟨_, e, q⟩ => by cases e; exact ok_ok.mpr q⟩
theorem k_ixT {xs : List D} {i : Int} : Ok (ixD (.tup xs) (.int i)) Q ↔ ∃ d, L2.atI xs i = some d ∧ Q d := by
  show Ok (match L2.atI xs i with | some d => .ok d | none => .fail) Q ↔ _
  cases L2.atI xs i with
  | none => exact ⟨fun ⟨_, e, _⟩ => (nomatch e), fun ⟨_, e, _⟩ => (nomatch e)⟩
  | some d => exact ⟨fun q => ⟨d, rfl, ok_ok.mp q⟩, fun ⟨_, e, q⟩ => by cases e; exact ok_ok.mpr q⟩
theorem k_ixC {xs : List Int} {i : Int} : Ok (ixD (.scr xs) (.int i)) Q ↔ ∃ d, L2.atI xs i = some d ∧ Q (.int d) := by
  show Ok (match L2.atI xs i with | some d => .ok (.int d) | none => .fail) Q ↔ _
  cases L2.atI xs i with
  | none => exact ⟨fun ⟨_, e, _⟩ => (nomatch e), fun ⟨_, e, _⟩ => (nomatch e)⟩
  | some d => exact ⟨fun q => ⟨d, rfl, ok_ok.mp q⟩, fun ⟨_, e, q⟩ => by cases e; exact ok_ok.mpr q⟩
theorem k_fun {β : Type} {r : R β} {f : β → R (List D)} : Ok (r >>= f) QL ↔ Ok r fun b => Ok (f b) QL := ok_bind
end
theorem k_no {QS : Fl × Env → Prop} {S : Env} : Ok (sNo S) QS ↔ False := ok_fail
theorem k_guard {QS : Fl × Env → Prop} {S : Env} {t : FT} : Ok (sIf t sNo sNil S) QS ↔ Ok (t S) fun b => b = false ∧ QS (.nx, S) := by
  rw [k_if]
  apply iff_of_eq
  congr 1
  funext b
  cases b <;> simp [k_no, k_nil]
theorem seq_cut {QS : Fl × Env → Prop} {S : Env} {s r : FS} (P : Env → Prop) (h : Ok (s S) fun z => z.1 = .nx ∧ P z.2) (k : ∀ S', P S' → Ok (r S') QS) : Ok (sSeq s r S) QS := by
  rw [k_seq]
  refine h.mono fun z hz => ?_
  obtain ⟨fl, S'⟩ := z
  obtain ⟨rfl, hp⟩ := hz
  exact k S' hp
theorem mul_r {i j : Int} (h1 : -(2 ^ 64) < j) (h2 : j < 2 ^ 64) : CMul i j ∨ CMulX i j := .inl (.inr ⟨h1, h2⟩)
theorem mul_l {i j : Int} (h1 : -(2 ^ 64) < i) (h2 : i < 2 ^ 64) : CMul i j ∨ CMulX i j := .inl (.inl ⟨h1, h2⟩)
theorem div_c {i j : Int} (h1 : 0 < j) (h2 : j < 1073741824) : CDiv i j := ⟨h1, h2⟩
theorem bits64 {i : Int} (h1 : -(2 ^ 64) < i) (h2 : i < 2 ^ 64) : Builtin.Int.intBits i ≤ 64 := intBits_le_64 h1 h2
theorem atI_mem {α : Type} {xs : List α} {i : Int} {a : α} (h : L2.atI xs i = some a) : a ∈ xs := by
  unfold L2.atI at h
  cases e : ixN xs.length i with
  | none => rw [e] at h; cases h
  | some n => rw [e] at h; exact List.mem_of_getElem? h
theorem atI_lt {α : Type} {xs : List α} {i : Int} (h0 : 0 ≤ i) (h : i < xs.length) : ∃ a, L2.atI xs i = some a := by
  have hi : i.toNat < xs.length := by omega
  refine ⟨xs[i.toNat], ?_⟩
  unfold L2.atI ixN
  rw [if_pos h0, if_pos h]
  exact List.getElem?_eq_getElem hi
theorem rngL_get {lo : Int} {n i : Nat} {d : D} (h : (rngL lo n)[i]? = some d) : i < n ∧ d = .int (lo + i) := by
  unfold rngL at h
  rw [List.getElem?_map] at h
  by_cases hi : i < n
  · rw [List.getElem?_range hi] at h
    cases h
    exact ⟨hi, rfl⟩
  · rw [List.getElem?_eq_none (by simp; omega)] at h
    cases h
theorem rngL_len {lo : Int} {n : Nat} : (rngL lo n).length = n := by unfold rngL; simp
theorem size_ge : (1048576 : Nat) ≤ sizeLine := by decide
end M
namespace M
open PySem L2
/-! ### typed lists -/
theorem lc_typed {α : Type} {ga : FG} {t : FT} {fe : FE} {S : Env} (f : α → D) (p : α → Bool) (g : α → D) : ∀ (xs : List α), (∀ x ∈ xs, Ok (ga (f x) S) fun S1 => Ok (t S1) fun b => b = p x ∧ (p x = true → Ok (fe S1) fun y => y = g x)) → lcF ga t fe S (xs.map f) = .ok ((xs.filter p).map g)
  | [], _ => rfl
  | x :: xs, h => by
    have ih := lc_typed f p g xs fun y hy => h y (List.mem_cons_of_mem _ hy)
    obtain ⟨S1, e1, b, e2, rfl, k⟩ := h x (List.mem_cons_self ..)
    show ((ga (f x) S).nox >>= fun S1 => (t S1).nox >>= fun b => if b then (fe S1).nox >>= fun y => lcF ga t fe S (xs.map f) >>= fun ys => .ok (y :: ys) else lcF ga t fe S (xs.map f)) = _
    rw [e1, R.nox_ok, R.ok_bind, e2, R.nox_ok, R.ok_bind, ih]
    by_cases hp : p x = true
    · obtain ⟨y, e3, rfl⟩ := k hp
      rw [if_pos hp, e3, R.nox_ok, R.ok_bind, R.ok_bind, List.filter_cons_of_pos hp, List.map_cons]
    · rw [if_neg hp, List.filter_cons_of_neg hp]
theorem k_lc {fi : FI} {ga : FG} {t : FT} {fe : FE} {vs : List Nat} {S : Env} {Q : D → Prop} : Ok (lcE fi ga t fe vs S) Q ↔ Ok (fi S) fun ds => ds.length ≤ sizeLine ∧ Ok (lcF ga t fe (wipeS S vs) ds) fun ys => Q (.lst ys) := by
  unfold lcE; simp only [ok_bind, ok_if, ok_ok]
theorem k_lcT {α : Type} {fi : FI} {ga : FG} {t : FT} {fe : FE} {vs : List Nat} {S : Env} {Q : D → Prop} (f : α → D) (p : α → Bool) (g : α → D) (xs : List α) (hi : Ok (fi S) fun ds => ds = xs.map f) (hl : xs.length ≤ sizeLine)
    (h : ∀ x ∈ xs, Ok (ga (f x) (wipeS S vs)) fun S1 => Ok (t S1) fun b => b = p x ∧ (p x = true → Ok (fe S1) fun y => y = g x)) (q : Q (.lst ((xs.filter p).map g))) : Ok (lcE fi ga t fe vs S) Q := by
  rw [k_lc]
  obtain ⟨ds, e, rfl⟩ := hi
  refine ⟨_, e, by rwa [List.length_map], ?_⟩
  rw [lc_typed f p g xs h, ok_ok]
  exact q
theorem filter_true {α : Type} {p : α → Bool} : ∀ {xs : List α}, (∀ x ∈ xs, p x = true) → xs.filter p = xs
  | [], _ => rfl
  | x :: xs, h => by rw [List.filter_cons_of_pos (h x (List.mem_cons_self ..)), filter_true fun y hy => h y (List.mem_cons_of_mem _ hy)]
/-- no test -/
theorem k_lcM {α : Type} {fi : FI} {ga : FG} {fe : FE} {vs : List Nat} {S : Env} {Q : D → Prop} (f : α → D) (g : α → D) (xs : List α) (hi : Ok (fi S) fun ds => ds = xs.map f) (hl : xs.length ≤ sizeLine)
    (h : ∀ x ∈ xs, Ok (ga (f x) (wipeS S vs)) fun S1 => Ok (fe S1) fun y => y = g x) (q : Q (.lst (xs.map g))) : Ok (lcE fi ga tY fe vs S) Q := by
  refine k_lcT f (fun _ => true) g xs hi hl (fun x hx => (h x hx).mono fun S1 h1 => ok_ok.mpr ⟨rfl, fun _ => h1⟩) ?_
  rw [filter_true fun _ _ => rfl]
  exact q
theorem asB_mapf {α : Type} (f : α → Bool) : ∀ xs : List α, asB (xs.map fun x => .bl (f x)) = some (xs.map f)
  | [] => rfl
  | x :: xs => by simp only [List.map_cons, asB, asB_mapf f xs, Option.map_some]
theorem asI_mapf {α : Type} (f : α → Int) : ∀ xs : List α, asI (xs.map fun x => .int (f x)) = some (xs.map f)
  | [] => rfl
  | x :: xs => by simp only [List.map_cons, asI, asI_mapf f xs, Option.map_some]
theorem k_any {α : Type} (f : α → Bool) (xs : List α) {Q : D → Prop} : Ok (anyD (.lst (xs.map fun x => .bl (f x)))) Q ↔ Q (.bl (xs.any f)) := by
  have e : anyD (.lst (xs.map fun x => .bl (f x))) = .ok (.bl (xs.any f)) := by
    simp only [anyD, asB_mapf]
    rw [List.any_map]; rfl
  rw [e, ok_ok]
theorem k_all {α : Type} (f : α → Bool) (xs : List α) {Q : D → Prop} : Ok (allD (.lst (xs.map fun x => .bl (f x)))) Q ↔ Q (.bl (xs.all f)) := by
  have e : allD (.lst (xs.map fun x => .bl (f x))) = .ok (.bl (xs.all f)) := by
    simp only [allD, asB_mapf]
    rw [List.all_map]; rfl
  rw [e, ok_ok]
theorem k_sum {α : Type} (f : α → Int) (xs : List α) {Q : D → Prop} : Ok (sumD (.lst (xs.map fun x => .int (f x)))) Q ↔ Q (.int (xs.map f).sum) := by
  have e : sumD (.lst (xs.map fun x => .int (f x))) = .ok (.int (xs.map f).sum) := by simp only [sumD, asI_mapf]
  rw [e, ok_ok]
theorem k_max {α : Type} (f : α → Int) (x : α) (xs : List α) {Q : D → Prop} : Ok (maxD (.lst ((x :: xs).map fun x => .int (f x)))) Q ↔ Q (.int (maxL ((x :: xs).map f))) := by
  have e : maxD (.lst ((x :: xs).map fun x => .int (f x))) = .ok (.int (maxL ((x :: xs).map f))) := by
    unfold maxD
    simp only [asI_mapf]
    rfl
  rw [e, ok_ok]
theorem k_maxc {α : Type} (f : α → Int) (n : Int) (xs : List α) {Q : D → Prop} : Ok (maxD (.lst (.int n :: xs.map fun x => .int (f x)))) Q ↔ Q (.int (maxL (n :: xs.map f))) := by
  have e : maxD (.lst (.int n :: xs.map fun x => .int (f x))) = .ok (.int (maxL (n :: xs.map f))) := by
    unfold maxD
    simp only [asI, asI_mapf, Option.map_some]
  rw [e, ok_ok]
/-- a for over a typed list -/
theorem for_typed {α : Type} {ga : FG} {s : FS} {QS : Fl × Env → Prop} (f : α → D) (P : List α → Env → Prop) (xs : List α) (S : Env) (h0 : P [] S)
    (h : ∀ (done : List α) (x : α) (rest : List α) (S : Env), xs = done ++ x :: rest → P done S → Ok (ga (f x) S) fun S1 => Ok (s S1) fun z => match z.1 with
      | .nx => P (done ++ [x]) z.2
      | .ct => P (done ++ [x]) z.2
      | .bk => QS (.nx, z.2)
      | .rt d => QS (.rt d, z.2)) (q : ∀ S, P xs S → QS (.nx, S)) : Ok (forF ga s (xs.map f) S) QS := by
  suffices H : ∀ (rest done : List α) (S : Env), xs = done ++ rest → P done S → Ok (forF ga s (rest.map f) S) QS from H xs [] S rfl h0
  intro rest
  induction rest with
  | nil => intro done S e hp; rw [List.append_nil] at e; subst e; exact ok_ok.mpr (q S hp)
  | cons x rest ih =>
    intro done S e hp
    rw [List.map_cons, k_fcons]
    refine (h done x rest S e hp).mono fun S1 h1 => h1.mono fun z hz => ?_
    obtain ⟨fl, S'⟩ := z
    have e' : xs = (done ++ [x]) ++ rest := by rw [e]; simp
    cases fl with
    | nx => exact ih (done ++ [x]) S' e' hz
    | ct => exact ih (done ++ [x]) S' e' hz
    | bk => exact hz
    | rt d => exact hz
end M
set_option Elab.async false
set_option linter.all false
set_option maxRecDepth 100000
set_option maxHeartbeats 4000000
namespace M
open PySem L2
/-! ### what the head's hook looks at -/
def isStrD : D → Bool
  | .str _ => true
  | _ => false
def okCD (ds : List D) : Bool := decide (ds.length < 2) || (decide (3 < ds.length) || ds.all isStrD)
mutual
def dB (K : PySem.W.Frag) : D → Value → Bool
  | .non, .none => true
  | .bl b, .bool c => b == c
  | .int i, .int j _ => decide (i = j)
  | .str x, .str y _ => decide (x = y)
  | .tup ds, .ref a => (match K.lookup a with
    | some ⟨.type c, _, .seq its _, _⟩ => decide (c = "tuple") && (decide (its.size ≤ sizeLine) && (okCD ds && dsB K ds its.toList))
    | _ => false)
  | _, _ => false
termination_by structural d => d
def dsB (K : PySem.W.Frag) : List D → List Value → Bool
  | [], [] => true
  | d :: ds, u :: us => dB K d u && dsB K ds us
  | _, _ => false
termination_by structural ds => ds
end
theorem okCD_ok {k : Kn} {G : Hp} {ds : List D} {vs : List V} (r : RDs k G ds vs) (h : okCD ds = true) : okC vs = true := by
  have e : ∀ {ds : List D} {vs : List V}, RDs k G ds vs → ds.all isStrD = true → (vs.all fun x => match x with | .str _ => true | _ => false) = true := by
    intro ds vs r h
    induction ds generalizing vs with
    | nil => cases r; rfl
    | cons d ds ih =>
      cases r with
      | cons a b =>
        rw [List.all_cons, Bool.and_eq_true] at h
        rw [List.all_cons, ih b h.2, Bool.and_true]
        have h1 := h.1
        unfold isStrD at h1
        split at h1
        · cases a; rfl
        · cases h1
  unfold okCD at h
  unfold okC
  rw [← r.length]
  simp only [Bool.or_eq_true, decide_eq_true_eq] at h ⊢
  rcases h with h | h | h
  · exact .inl h
  · exact .inr (.inl h)
  · exact .inr (.inr (e r h))
section
variable {K : PySem.W.Frag} {cl : Nat → Option (Addr × List Str)}
mutual
theorem dB_ok : ∀ {d : D} {u : Value}, dB K d u = true → ∃ v, RelV v u ∧ ∀ G, RD ⟨K, cl⟩ G d v
  | .non, .none, _ => ⟨.non, rfl, fun _ => .non⟩
  | .bl b, .bool c, h => by simp only [dB, beq_iff_eq] at h; subst h; exact ⟨.bl b, rfl, fun _ => .bl _⟩
  | .int i, .int j t, h => by simp only [dB, decide_eq_true_eq] at h; subst h; exact ⟨.int i, ⟨t, rfl⟩, fun _ => .int _⟩
  | .str x, .str y t, h => by simp only [dB, decide_eq_true_eq] at h; subst h; exact ⟨.str x, ⟨t, rfl⟩, fun _ => .str _⟩
  | .tup ds, .ref a, h => by
    simp only [dB] at h
    split at h
    · rename_i c od its n sl e
      simp only [Bool.and_eq_true, decide_eq_true_eq] at h
      obtain ⟨h1, h2, h4, h3⟩ := h
      obtain ⟨vs, r1, r2⟩ := dsB_ok h3
      exact ⟨.ref a, rfl, fun G => .tup (.inr ⟨_, its, n, e, congrArg Value.type h1, rfl, h2, r1, okCD_ok (r2 G) h4⟩) (r2 G)⟩
    · cases h
theorem dsB_ok : ∀ {ds : List D} {us : List Value}, dsB K ds us = true → ∃ vs, Vals vs us ∧ ∀ G, RDs ⟨K, cl⟩ G ds vs
  | [], [], _ => ⟨[], .nil, fun _ => .nil⟩
  | d :: ds, u :: us, h => by
    simp only [dsB, Bool.and_eq_true] at h
    obtain ⟨v, r1, r2⟩ := dB_ok h.1
    obtain ⟨vs, q1, q2⟩ := dsB_ok h.2
    exact ⟨v :: vs, .cons r1 q1, fun G => .cons (r2 G) (q2 G)⟩
end
end
def gB (K : PySem.W.Frag) (q : Str × D) : Bool := match PySem.W.nsIn K mainGlobals q.1 with
  | some (some u) => dB K q.2 u
  | _ => false
theorem gB_ok {K : PySem.W.Frag} {h : Heap} {mg : Str → Option Value} {cl : Nat → Option (Addr × List Str)} {x : Str} {d : D} (X : K.In h) (G : h.Ns mainGlobals mg) (c : gB K (x, d) = true) : Gc mg ⟨K, cl⟩ x d := by
  unfold gB at c
  split at c
  · rename_i u e
    obtain ⟨v, r1, r2⟩ := dB_ok (cl := cl) c
    exact ⟨v, u, PySem.W.mg_of X G e, r1, r2⟩
  · cases c
theorem gcls_ok {K : PySem.W.Frag} {mg : Str → Option Value} {cl : Nat → Option (Addr × List Str)} {x : Str} {ci : Nat} {C : Addr} {nm : List Str} (h : mg x = some (.ref C)) (hc : cl ci = some (C, nm)) : Gc mg ⟨K, cl⟩ x (.cls ci) :=
  ⟨.ref C, .ref C, h, rfl, fun _ => .cls hc⟩
/-- a class whose instances isinstance knows -/
def tyB (K : PySem.W.Frag) (x : Str) : Bool := He.eqO (PySem.W.findIn K (.ref (He.ga K x)) "__class__") (some (some (.builtin "object.__class__"))) && (He.eqO (PySem.W.specialIn K (.builtin "object.__class__") "__get__") (some (some (.builtin "getset_descriptor.__get__"))) &&
  (decide (PySem.W.takesIn K (.builtin "object.__class__") = some true) && decide (PySem.W.mroIn K (He.ga K x) (.type "object") = some true)))
theorem tyB_ok {K : PySem.W.Frag} {cl : Nat → Option (Addr × List Str)} {x : Str} {ci : Nat} {nm : List Str} (c : tyB K x = true) (h : Cls K (He.ga K x)) (hc : cl ci = some (He.ga K x, nm)) : ClsT K ⟨K, cl⟩ ci := by
  obtain ⟨h1, h2⟩ := He.ba c
  obtain ⟨h3, h4⟩ := He.ba h2
  obtain ⟨h5, h6⟩ := He.ba h4
  exact ⟨_, nm, hc, h, He.eqO_ok h1, He.eqO_ok h3, of_decide_eq_true h5, of_decide_eq_true h6⟩
/-! ### the hook -/
/-- facts: the kit's, constants of the top, classes of isinstance -/
structure Fx where
  fa : List He.Fa
  gs : List (Str × D)
  ts : List Str
def Fx.ok (x : Fx) (K : PySem.W.Frag) : Bool := (x.fa.all fun f => f.ok K) && ((x.gs.all fun g => gB K g) && x.ts.all fun t => tyB K t)
def obsX (x : Fx) (fn : List He.DefD) (K : PySem.W.Frag) : He.AlD := (x.ok K && fn.all fun d => d.ok K, fn.map fun d => He.fnW K d.at_)
def SaysX (x : Fx) (fn : List He.DefD) (K : PySem.W.Frag) : Prop := obsX x fn K = He.valD fn
def obsXG (n : Nat) (x : Fx) (fn : List He.DefD) (g : Addr → Option Obj) : He.AlD := obsX x fn (He.frG g (He.asD g n))
def hookX (n : Nat) (x : Fx) (fn : List He.DefD) : PySem.W.Hook where
  α := He.AlD
  obs := fun s => obsXG n x fn s.heap.get?
  val := fun _ => He.valD fn
  says := fun _ h => ∃ K : PySem.W.Frag, K.In h ∧ SaysX x fn K
  of := fun _ _ e => ⟨_, He.frG_in, e⟩
  keeps := fun _ _ _ ⟨K, hK, c⟩ k => ⟨K, PySem.W.Frag.In.keeps hK k, c⟩
theorem obsXG_eq {n : Nat} {x : Fx} {fn : List He.DefD} {g : Addr → Option Obj} {s : Shared} (h : ∀ a, g a = s.heap.get? a) : obsXG n x fn g = (hookX n x fn).obs s := by
  have e : g = s.heap.get? := funext h
  rw [e] <;> rfl
section
variable {x : Fx} {fn : List He.DefD} {K : PySem.W.Frag}
theorem SaysX.ok (c : SaysX x fn K) : x.ok K = true := (He.ba (show (x.ok K && fn.all fun d => d.ok K) = true from congrArg (fun z : He.AlD => z.1) c)).1
theorem SaysX.fact (c : SaysX x fn K) (i : Nat) {f : He.Fa} (h : x.fa[i]? = some f := by rfl) : f.ok K = true := List.all_eq_true.mp (He.ba c.ok).1 f (List.mem_of_getElem? h)
theorem SaysX.gc (c : SaysX x fn K) (i : Nat) {f : Str × D} (h : x.gs[i]? = some f := by rfl) : gB K f = true := List.all_eq_true.mp (He.ba (He.ba c.ok).2).1 f (List.mem_of_getElem? h)
theorem SaysX.ty (c : SaysX x fn K) (i : Nat) {f : Str} (h : x.ts[i]? = some f := by rfl) : tyB K f = true := List.all_eq_true.mp (He.ba (He.ba c.ok).2).2 f (List.mem_of_getElem? h)
theorem SaysX.def_ (c : SaysX x fn K) (i : Nat) {d : He.DefD} (h : fn[i]? = some d := by rfl) : ∃ fd, FunD K d.name d.qual d.params d.body d.scope (d.dvs K) (d.kws K) (He.fAd K d.at_) fd := by
  have c2 := (He.ba (show (x.ok K && fn.all fun d => d.ok K) = true from congrArg (fun z : He.AlD => z.1) c)).2
  have e : fn.map (fun d => He.fnW K d.at_) = fn.map He.DefD.val := congrArg (fun z : He.AlD => z.2) c
  have e2 : (fn.map fun d => He.fnW K d.at_)[i]? = (fn.map He.DefD.val)[i]? := by rw [e]
  rw [List.getElem?_map, List.getElem?_map, h] at e2
  exact He.DefD.funD (Option.some.inj e2) (List.all_eq_true.mp c2 d (List.mem_of_getElem? h))
end
/-! ### the end -/
theorem walk_ofX {l : PySem.W.OpenLaw} {n k : Nat} {q : Program} {loose : List Str} {XP : (Str → Option Value) → Heap → Prop} {YP : World → Heap → Prop} {d : DefRec} {x : Str} {den : List D → R D}
    (hn : l.most = some n) (hn2 : n ≤ sizeLine) (hdf : d.params.defaults = []) (hr : Room k callerA)
    (F : ∀ (w : World) (mg : Str → Option Value) (fa : Addr) (h : Heap), YP w h → h.Ns mainGlobals mg → mg d.name = some (.ref fa) →
      ∃ (K : PySem.W.Frag) (fd : FuncData) (cl : Nat → Option (Addr × List Str)), K.In h ∧ (∀ (s : Shared) (u : Value), BindsTo s fd ⟨[u], []⟩ [(x, u)]) ∧
        ∀ base : Heap, K.In base → base.Ns mainGlobals mg → FnOk l.prog w K mg base CX0 k fa fd [x] (SpF ⟨K, cl⟩ false 1 den))
    (pure_ : ∀ ns : List Int, ns.length ≤ n → (∀ z ∈ ns, Builtin.Int.intBits z ≤ 1048576) → den [.scr ns] = .ok (.bl true)) :
    PySem.W.WalkO q loose XP YP l.row.toRowW d [] (fun f vs => PySem.call f vs) := by
  refine Att.attach_callB hn hdf fun w s₀ s₁ mg mb fa o pm cd doc a vs ns G Y ho hd hcd hmg hobj hints hlen hbits hg => ?_
  obtain ⟨K, fd, cl, KX, hb, hF⟩ := F w mg fa _ Y G.T.g hmg
  refine law_call KX G.T.g G.T.b G.T.builtins G.T.nolimit hg hobj hints (Nat.le_trans hlen hn2) hr hF hb (fun H hO hS => ?_) fun H e s' z => z
  refine ⟨rfl, H, [.scr ns], Ex.refl H, .cons (.scr hS) .nil, ?_⟩
  rw [pure_ ns hlen hbits]
  intro v G' H' s r
  have r : RD ⟨K, cl⟩ G' (.bl true) v := r
  cases r
  rfl
end M
set_option Elab.async false
set_option linter.all false
set_option maxRecDepth 100000
set_option maxHeartbeats 4000000
namespace M
open PySem L2
/-! ### where a def stands: a global's, a class's method, a property's getter -/
inductive Wh where
  | glo (x : Str) | met (C m : Str) | pro (C m : Str) | cme (C m : Str)
def innA (K : PySem.W.Frag) (T : String) (p : Addr) : Addr := match PySem.W.recIn K p T with
  | some (.ref g :: _) => g
  | _ => 0
def Wh.ad (K : PySem.W.Frag) : Wh → Addr
  | .glo x => He.ga K x
  | .met C m => He.ma K (He.ga K C) m
  | .pro C m => innA K "property" (He.ma K (He.ga K C) m)
  | .cme C m => He5.wf K (He.ga K C) "classmethod" m
/-- a def and its place -/
structure Dx where
  w : Wh
  d : He.DefD
def seenF : FuncData → He.FnW := fun z => some (z.name, z.qualname, z.params, z.body, z.scope, z.globals, z.closure, z.builtins)
def Dx.look (K : PySem.W.Frag) (x : Dx) : Option FuncData := (K.lookup (x.w.ad K)).bind fun o => match o.data with
  | .func z => some z
  | _ => none
def Dx.seen (K : PySem.W.Frag) (x : Dx) : He.FnW := (x.look K).bind seenF
def Dx.good (K : PySem.W.Frag) (x : Dx) : Bool := PySem.W.keepIn K (.ref (x.w.ad K)) && ((x.look K).map fun z => PySem.W.codeIn K z.code x.d.qual && (He.dflB K z.defaults (x.d.dvs K) && He.kwdB K z.kwdefaults (x.d.kws K))).getD false
theorem Dx.fund {K : PySem.W.Frag} {x : Dx} (e : x.seen K = x.d.val) (c : x.good K = true) : ∃ z, FunD K x.d.name x.d.qual x.d.params x.d.body x.d.scope (x.d.dvs K) (x.d.kws K) (x.w.ad K) z := by
  obtain ⟨kp, c2⟩ := He.ba c
  cases hl : x.look K with
  | none => rw [hl] at c2; cases c2
  | some z =>
    rw [hl] at c2
    have c3 : (PySem.W.codeIn K z.code x.d.qual && (He.dflB K z.defaults (x.d.dvs K) && He.kwdB K z.kwdefaults (x.d.kws K))) = true := c2
    have e2 : seenF z = x.d.val := by
      unfold Dx.seen at e
      rw [hl] at e
      exact e
    obtain ⟨a1, a2⟩ := He.ba c3
    obtain ⟨a3, a4⟩ := He.ba a2
    have hk : ∃ oc od osl, K.lookup (x.w.ad K) = some ⟨oc, od, .func z, osl⟩ := by
      unfold Dx.look at hl
      cases q : K.lookup (x.w.ad K) with
      | none => rw [q] at hl; cases hl
      | some o =>
        rw [q] at hl
        obtain ⟨oc, od, dt, osl⟩ := o
        cases dt with
        | func y => cases hl; exact ⟨oc, od, osl, rfl⟩
        | _ => cases hl
    obtain ⟨oc, od, osl, hk⟩ := hk
    obtain ⟨y1, y2, y3, y4, y5, y6, y7, y8, y9, y10, y11, y12, y13, y14, y15⟩ := z
    simp only [seenF, He.DefD.val, Option.some.injEq, Prod.mk.injEq] at e2
    obtain ⟨b1, b2, b3, b4, b5, b6, b7, b8⟩ := e2
    subst b1 b2 b3 b4 b5 b6 b7 b8
    exact ⟨_, ⟨oc, od, y8, y9, y10, y11, y12, y13, y14, osl, rfl, hk, a1, He.dflB_ok a3, He.kwdB_ok a4⟩, kp⟩
/-- a property of a class -/
def proB (K : PySem.W.Frag) (q : Str × Str) : Bool :=
  He.eqO (PySem.W.findIn K (.ref (He.ga K q.1)) q.2) (some (some (.ref (He.ma K (He.ga K q.1) q.2)))) && (He.eqO (PySem.W.specialIn K (.ref (He.ma K (He.ga K q.1) q.2)) "__get__") (some (some (.builtin "property.__get__"))) &&
    (decide (PySem.W.takesIn K (.ref (He.ma K (He.ga K q.1) q.2)) = some true) && (match PySem.W.recIn K (He.ma K (He.ga K q.1) q.2) "property" with | some (.ref _ :: _) => true | _ => false)))
theorem proB_ok {K : PySem.W.Frag} {C m : Str} (c : proB K (C, m) = true) : PropOf K (He.ga K C) m (He.ma K (He.ga K C) m) ((Wh.pro C m).ad K) := by
  obtain ⟨h1, h2⟩ := He.ba c
  obtain ⟨h3, h4⟩ := He.ba h2
  obtain ⟨h5, h6⟩ := He.ba h4
  refine ⟨He.eqO_ok h1, He.eqO_ok h3, of_decide_eq_true h5, ?_⟩
  show ∃ rest, PySem.W.recIn K (He.ma K (He.ga K C) m) "property" = some (.ref (innA K "property" (He.ma K (He.ga K C) m)) :: rest)
  unfold innA
  dsimp only at h6
  split at h6
  · rename_i g rest e
    rw [e]
    exact ⟨rest, rfl⟩
  · cases h6
/-! ### the hook -/
structure Fy where
  fa : List He.Fa
  gs : List (Str × D)
  ts : List Str
  ps : List (Str × Str)
def Fy.ok (x : Fy) (K : PySem.W.Frag) : Bool := (x.fa.all fun f => f.ok K) && ((x.gs.all fun g => gB K g) && ((x.ts.all fun t => tyB K t) && x.ps.all fun p => proB K p))
def obsY (x : Fy) (fn : List Dx) (K : PySem.W.Frag) : He.AlD := (x.ok K && fn.all fun d => d.good K, fn.map fun d => d.seen K)
def valY (fn : List Dx) : He.AlD := (true, fn.map fun d => d.d.val)
def SaysY (x : Fy) (fn : List Dx) (K : PySem.W.Frag) : Prop := obsY x fn K = valY fn
def obsYG (n : Nat) (x : Fy) (fn : List Dx) (g : Addr → Option Obj) : He.AlD := obsY x fn (He.frG g (He.asD g n))
def hookY (n : Nat) (x : Fy) (fn : List Dx) : PySem.W.Hook where
  α := He.AlD
  obs := fun s => obsYG n x fn s.heap.get?
  val := fun _ => valY fn
  says := fun _ h => ∃ K : PySem.W.Frag, K.In h ∧ SaysY x fn K
  of := fun _ _ e => ⟨_, He.frG_in, e⟩
  keeps := fun _ _ _ ⟨K, hK, c⟩ k => ⟨K, PySem.W.Frag.In.keeps hK k, c⟩
theorem obsYG_eq {n : Nat} {x : Fy} {fn : List Dx} {g : Addr → Option Obj} {s : Shared} (h : ∀ a, g a = s.heap.get? a) : obsYG n x fn g = (hookY n x fn).obs s := by
  have q : g = s.heap.get? := funext h
  subst q; rfl
section
variable {x : Fy} {fn : List Dx} {K : PySem.W.Frag}
theorem SaysY.both (c : SaysY x fn K) : (x.ok K && fn.all fun d => d.good K) = true := congrArg Prod.fst c
theorem SaysY.ok (c : SaysY x fn K) : x.ok K = true := (He.ba c.both).1
theorem SaysY.fact (c : SaysY x fn K) (i : Nat) {f : He.Fa} (h : x.fa[i]? = some f := by rfl) : f.ok K = true := List.all_eq_true.mp (He.ba c.ok).1 f (List.mem_of_getElem? h)
theorem SaysY.gc (c : SaysY x fn K) (i : Nat) {f : Str × D} (h : x.gs[i]? = some f := by rfl) : gB K f = true := List.all_eq_true.mp (He.ba (He.ba c.ok).2).1 f (List.mem_of_getElem? h)
theorem SaysY.ty (c : SaysY x fn K) (i : Nat) {f : Str} (h : x.ts[i]? = some f := by rfl) : tyB K f = true := List.all_eq_true.mp (He.ba (He.ba (He.ba c.ok).2).2).1 f (List.mem_of_getElem? h)
theorem SaysY.pro (c : SaysY x fn K) (i : Nat) {f : Str × Str} (h : x.ps[i]? = some f := by rfl) : proB K f = true := List.all_eq_true.mp (He.ba (He.ba (He.ba c.ok).2).2).2 f (List.mem_of_getElem? h)
theorem SaysY.def_ (c : SaysY x fn K) (i : Nat) {d : Dx} (h : fn[i]? = some d := by rfl) : ∃ z, FunD K d.d.name d.d.qual d.d.params d.d.body d.d.scope (d.d.dvs K) (d.d.kws K) (d.w.ad K) z := by
  have e : fn.map (fun d => d.seen K) = fn.map fun d => d.d.val := congrArg Prod.snd c
  have e2 := congrArg (fun l : List He.FnW => l[i]?) e
  simp only [List.getElem?_map, h, Option.map_some, Option.some.injEq] at e2
  exact Dx.fund e2 (List.all_eq_true.mp (He.ba c.both).2 d (List.mem_of_getElem? h))
end
end M
set_option Elab.async false
set_option linter.all false
set_option maxRecDepth 100000
set_option maxHeartbeats 4000000
namespace M
open PySem L2
/-! ### texts: join, split; any over texts -/
def isS : D → Bool
  | .str _ => true
  | _ => false
/-- o.m(e) of a text o -/
def eM1 (o : D → D → R D) (f g : FE) : FE := fun S => do
  let x ← f S
  if isS x then do
    let y ← g S
    (o x y).nox
  else .fail
section
variable {X : Cx} {c : Cf} {kd k1 k2 : Kd} {a b e o : Expr} {f g : FE} {pos apos : Pos} {k : Kn}
theorem isS_of {G H : Hp} {d : D} {v : V} (h : isS d = true) (n : Now k G H d v) : ∃ x, d = .str x ∧ v = .str x := by
  cases d with
  | str x => exact ⟨x, rfl, n.str⟩
  | _ => simp [isS] at h
theorem eM1_go {op : D → D → R D} {r : V → List V → Hp → VK → Prop} {σ : St} {H : Hp} {Q : VK} (hr : ∀ G H x y v d, Ex G H → Now c.k G H y v → op (.str x) y = .ok d → ∀ Q : VK, (∀ w G' H', Step G H G' H' → Res c.k H G' H' d w kd → Q w H') → r (.str x) [v] H Q)
    (q : RdE c kd (eM1 op f g) σ H Q) : tM1 r (RdE c k1 f) (RdE c k2 g) σ H Q := by
  obtain ⟨G, S, rel, p⟩ := q
  refine rdE_go (g := fun x => if isS x then (g S >>= fun y => (op x y).nox) else .fail) (Post := PostE c kd G S σ H Q) rel p (fun _ z => z) (fun z => z) fun d1 v1 G1 H1 s1 q1 p1 => ?_
  by_cases hs : isS d1 = true
  · rw [if_pos hs] at p1
    obtain ⟨x, rfl, rfl⟩ := isS_of hs q1.now
    refine ⟨⟨x, rfl⟩, ?_⟩
    refine rdE_go (g := fun y => (op (.str x) y).nox) (Post := PostE c kd G S σ H Q) (rel.grow s1) p1 (fun _ z => z) (fun z => z) fun d2 v2 G2 H2 s2 q2 p2 => ?_
    cases e : op (.str x) d2 with
    | ok d =>
      rw [e] at p2
      exact hr G2 H2 x d2 v2 d s2.gh q2.now e Q fun w G3 H3 s3 q3 => p2 w G3 H3 ((s1.trans s2).trans s3) (q3.mono (s1.h.trans s2.h))
    | exc x => rw [e] at p2; exact p2.elim
    | fail => rw [e] at p2; exact p2.elim
  · rw [if_neg hs] at p1; exact p1.elim
def joinD : D → D → R D
  | .str a, .lst ds => (match asS ds with
    | some ys => if (ys.map (·.length)).sum + ys.length * a.length ≤ 16777216 then .ok (.str (Txt.join a ys)) else .fail
    | none => .fail)
  | .str a, .tup ds => (match asS ds with
    | some ys => if (ys.map (·.length)).sum + ys.length * a.length ≤ 16777216 then .ok (.str (Txt.join a ys)) else .fail
    | none => .fail)
  | _, _ => .fail
theorem d_join (hk : c.k.K = X.K) (ho : PE' X c k1 o f) (he : PE' X c k2 e g) (hs : starEach [e] X.env = [(false, eval e X.env)] := by rfl) (hbase : attributeBase o "join" X.env (eval o X.env) = eval o X.env := by rfl) (hline : (apos.endLine == pos.line) = true := by rfl) :
    PE' X c .st (.Call (.Attribute o "join" apos) [e] [] pos) (eM1 joinD f g) :=
  peI (pe_join ho he hs hbase hline) fun σ H Q q => eM1_go (fun G H x y v d ex n hg Q p => by
    cases y with
    | lst ds =>
      simp only [joinD] at hg
      split at hg
      · rename_i ys hy
        split at hg
        · rename_i hl
          cases hg
          obtain ⟨a, vs, rfl, ha, r⟩ := n.lst ex
          have := asS_of r hy; subst this
          exact ⟨x, a, ys, rfl, rfl, .inl (SqL.of ha), hl, p _ G H (Step.refl ex) (.str _)⟩
        · cases hg
      · cases hg
    | tup ds =>
      simp only [joinD] at hg
      split at hg
      · rename_i ys hy
        split at hg
        · rename_i hl
          cases hg
          obtain ⟨a, vs, rfl, ha, r⟩ := n.tup
          have := asS_of r hy; subst this
          exact ⟨x, a, ys, rfl, rfl, .inr (hk ▸ ex.sqT ha.t), hl, p _ G H (Step.refl ex) (.str _)⟩
        · cases hg
      · cases hg
    | _ => simp [joinD] at hg) q
def splitD : D → D → R D
  | .str a, .str b => if (b.length == 0) = false ∧ a.length + 2 ≤ sizeLine then .ok (.lst ((Txt.split a b).map .str)) else .fail
  | _, _ => .fail
theorem RDs.strs {G : Hp} : ∀ (ns : List Str), RDs k G (ns.map D.str) (ns.map V.str)
  | [] => .nil
  | n :: ns => .cons (.str n) (RDs.strs ns)
theorem d_split (ho : PE' X c k1 o f) (he : PE' X c k2 e g) (hs : starEach [e] X.env = [(false, eval e X.env)] := by rfl) (hbase : attributeBase o "split" X.env (eval o X.env) = eval o X.env := by rfl) (hline : (apos.endLine == pos.line) = true := by rfl) :
    PE' X c .fr (.Call (.Attribute o "split" apos) [e] [] pos) (eM1 splitD f g) :=
  peI (pe_split ho he hs hbase hline) fun σ H Q q => eM1_go (fun G H x y v d ex n hg Q p => by
    cases y with
    | str b =>
      simp only [splitD] at hg
      split at hg
      · rename_i hl
        cases hg
        obtain rfl := n.str
        refine ⟨x, b, rfl, rfl, hl.1, hl.2, ?_⟩
        intro q hq
        exact p _ G _ (Step.new' ex hq) ⟨q, _, rfl, ex.free hq, hq, upd_same, .lst (RDs.strs _)⟩
      · cases hg
    | _ => simp [splitD] at hg) q
/-! any(t), t a tuple of texts -/
theorem reads_strs {h : Heap} : ∀ {ss : List Str} {its : List Value}, Vals (ss.map V.str) its → ∃ as, ReadsAll h its (ss.map PyData.str) as
  | [], _, .nil => ⟨_, .nil⟩
  | s :: ss, _, .cons r rs => by
    obtain ⟨t, rfl⟩ := r
    obtain ⟨as, h⟩ := reads_strs rs
    exact ⟨_, .cons (.str s t) h⟩
theorem plain_strs : ∀ (ss : List Str), PyData.plainAll (ss.map PyData.str) = true
  | [] => rfl
  | s :: ss => by simp [PyData.plainAll, PyData.plain, plain_strs ss]
theorem any_strs (ss : List Str) : (ss.map PyData.str).any PyData.truthy = ss.any fun x => x.length != 0 := by
  rw [List.any_map]
  congr 1
  funext x
  show ((x.length : Int) != 0) = (x.length != 0)
  cases x.length <;> simp <;> first | rfl | omega
theorem cr_anyT (hc : X.calm = true) : CallR X (.builtin "any") (fun vs H Q => ∃ (a : Addr) (ss : List Str), vs = [V.ref a] ∧ SqT X.K H a (ss.map V.str) ∧ (∀ x ∈ ss, x.length ≤ sizeLine) ∧ Q (.bl (ss.any fun x => x.length != 0)) H) := by
  intro pins s σ H vs us Q I r h
  obtain ⟨a, ss, rfl, hs, hl, q⟩ := h
  obtain ⟨its, rv, ht, _⟩ := I.tuple hs
  rw [Vals.ref1 r]
  obtain ⟨as, hr⟩ := reads_strs (h := s.heap) rv
  have hz : (sizeLine : Int) < 2 ^ 63 := by decide
  refine PySem.W.any_tuple_data (I.ok.hd hc) (by obtain ⟨ob, h1, h2, n, h3⟩ := ht; exact ⟨ob, h1, h2, n, h3⟩) hr (plain_strs ss) (fun x hx => ?_) fun h' tk hk => ?_
  · obtain ⟨y, hy, rfl⟩ := List.mem_map.mp hx
    have := hl y hy
    show (y.length : Int) < 2 ^ 63
    omega
  · exact ⟨.bl _, H, I.kept fun b o eo => hk b o eo, by rw [any_strs]; rfl, q⟩
def anyTD : D → R D
  | .lst ds => match asB ds with | some ns => .ok (.bl (ns.any id)) | none => .fail
  | .tup ds => match asS ds with | some ss => if ss.all (fun x => decide (x.length ≤ sizeLine)) then .ok (.bl (ss.any fun x => x.length != 0)) else .fail | none => .fail
  | _ => .fail
theorem c_anyT (hk : k.K = X.K) (hc : X.calm = true) : ClR X k (.builtin "any") .st (f1 anyTD) := cl1 ((cr_any hc).or (cr_anyT hc)) fun G H x v d e n hg Q p => by
  cases x <;> simp only [anyTD] at hg <;> first | (cases hg; done) | skip
  · split at hg
    · rename_i ss hn
      split at hg
      · rename_i hl
        cases hg; obtain ⟨a, vs, rfl, ha, r⟩ := n.tup
        have := asS_of r hn; subst this
        exact .inr ⟨a, ss, rfl, hk ▸ e.sqT ha.t, fun x hx => of_decide_eq_true (List.all_eq_true.mp hl x hx), p _ G H (Step.refl e) (.bl _)⟩
      · cases hg
    · cases hg
  · split at hg
    · rename_i ns hn
      cases hg; obtain ⟨a, vs, rfl, ha, r⟩ := n.lst e
      have := asB_of r hn; subst this
      exact .inl ⟨a, ns, rfl, SqL.of ha, p _ G H (Step.refl e) (.bl _)⟩
    · cases hg
end
end M
namespace M
open PySem L2
/-! list(range(..)), tuple(range(..)) -/
section
variable {X : Cx} {c : Cf} {k1 k2 : Kd} {a b e : Expr} {f g : FE} {pos p p2 pos2 : Pos} {k : Kn}
instance (a b : Int) : Decidable (RgOk a b) := by unfold RgOk; infer_instance
/-- the ends of a range -/
abbrev FRg := Env → R (Int × Int)
def rg1 (f : FE) : FRg := fun S => f S >>= fun x => match x with | .int n => .ok (0, n) | _ => .fail
def rg2 (f g : FE) : FRg := fun S => f S >>= fun x => g S >>= fun y => match x, y with | .int i, .int j => .ok (i, j) | _, _ => .fail
def PostRg (c : Cf) (G : Hp) (S : Env) (σ : St) (H : Hp) (Q : Int → Int → Hp → Prop) : R (Int × Int) → Prop
  | .ok (i, j) => ∀ G' H', Step G H G' H' → Q i j H'
  | .exc x => PX c σ x
  | .fail => False
def RdRg (c : Cf) (r : FRg) : St → Hp → (Int → Int → Hp → Prop) → Prop := fun σ H Q => ∃ G S, Rel c G S σ H ∧ PostRg c G S σ H Q (r S)
theorem prgI {t t' : St → Hp → (Int → Int → Hp → Prop) → Prop} (h : PRg X e t) (i : ∀ σ H Q, t' σ H Q → t σ H Q) : PRg X e t' := fun pins s σ H Q I q => h pins s σ H Q I (i σ H Q q)
theorem d_rg1 (hm : X.mg "range" = none) (ha : PE' X c k1 a f) (hg : Gl X "range" := by rfl) (na : starEach [a] X.env = (false, eval a X.env) :: starEach [] X.env := by rfl) : PRg X (.Call (.Name "range" p) [a] [] pos) (RdRg c (rg1 f)) :=
  prgI (prg_1 hg hm ha na) fun σ H Q ⟨G, S, rel, q⟩ => by
    refine rdE_go (g := fun x => match x with | .int n => .ok ((0 : Int), n) | _ => .fail) (Post := PostRg c G S σ H Q) rel q (fun _ z => z) (fun z => z) fun d v G' H' s r p1 => ?_
    cases d with
    | int n => exact ⟨n, r.now.int, p1 G' H' s⟩
    | _ => exact p1.elim
theorem d_rg2 (hm : X.mg "range" = none) (ha : PE' X c k1 a f) (hb : PE' X c k2 b g) (hg : Gl X "range" := by rfl) (na : starEach [a, b] X.env = (false, eval a X.env) :: starEach [b] X.env := by rfl)
    (nb : starEach [b] X.env = (false, eval b X.env) :: starEach [] X.env := by rfl) (hp : (backTo pos (starEach [b] X.env)).any (·.1) = false := by rfl) : PRg X (.Call (.Name "range" p) [a, b] [] pos) (RdRg c (rg2 f g)) :=
  prgI (prg_2 hg hm ha hb na nb hp) fun σ H Q ⟨G, S, rel, q⟩ => by
    refine rdE_go (g := fun x => g S >>= fun y => match x, y with | .int i, .int j => .ok (i, j) | _, _ => .fail) (Post := PostRg c G S σ H Q) rel q (fun _ z => z) (fun z => z) fun d v G' H' s r p1 => ?_
    refine rdE_go (g := fun y => match d, y with | .int i, .int j => .ok (i, j) | _, _ => .fail) (Post := PostRg c G S σ H Q) (rel.grow s) p1 (fun _ z => z) (fun z => z) fun d2 v2 G2 H2 s2 r2 p2 => ?_
    cases d with
    | int n =>
      cases d2 with
      | int m => exact ⟨n, m, (r.now.grow s2).int, r2.now.int, p2 G2 H2 (s.trans s2)⟩
      | _ => exact p2.elim
    | _ => cases d2 <;> exact p2.elim
def rgD (a b : Int) : List D := (List.range (b - a).toNat).map fun (i : Nat) => .int (a + i)
theorem RDs.rg {G : Hp} (a b : Int) : RDs k G (rgD a b) (rgV a b) := by
  unfold rgD rgV
  induction (List.range (b - a).toNat) with
  | nil => exact .nil
  | cons x xs ih => exact .cons (.int _) ih
def eLstRg (r : FRg) : FE := fun S => r S >>= fun z => if RgOk z.1 z.2 then .ok (.lst (rgD z.1 z.2)) else .fail
def eTupRg (r : FRg) : FE := fun S => r S >>= fun z => if RgOk z.1 z.2 then .ok (.tup (rgD z.1 z.2)) else .fail
theorem d_lstRg {r : FRg} (hc : X.calm = true) (hm : X.mg "list" = none) (he : PRg X e (RdRg c r)) (hg : Gl X "list" := by rfl) (na : starEach [e] X.env = (false, eval e X.env) :: starEach [] X.env := by rfl) : PE' X c .fr (.Call (.Name "list" p) [e] [] pos) (eLstRg r) :=
  peI (pe_listRg hc hg hm he na) fun σ H Q ⟨G, S, rel, q⟩ => by
    refine ⟨G, S, rel, ?_⟩
    have q : PostE c .fr G S σ H Q (r S >>= fun z => if RgOk z.1 z.2 then .ok (.lst (rgD z.1 z.2)) else .fail) := q
    cases e1 : r S with
    | exc x => rw [e1] at q; exact q
    | fail => rw [e1] at q; exact q
    | ok z =>
      rw [e1, R.ok_bind] at q
      intro G' H' s
      by_cases hl : RgOk z.1 z.2
      · rw [if_pos hl] at q
        exact ⟨hl, fun w hw => q _ G' _ (s.trans (Step.new' s.gh hw)) ⟨w, _, rfl, s.gh.free hw, s.h.free hw, upd_same, .lst (RDs.rg _ _)⟩⟩
      · rw [if_neg hl] at q; exact q.elim
theorem d_tupRg {r : FRg} (hc : X.calm = true) (hm : X.mg "tuple" = none) (he : PRg X e (RdRg c r)) (hg : Gl X "tuple" := by rfl) (na : starEach [e] X.env = (false, eval e X.env) :: starEach [] X.env := by rfl) : PE' X c .st (.Call (.Name "tuple" p) [e] [] pos) (eTupRg r) :=
  peI (pe_tupRg hc hg hm he na) fun σ H Q ⟨G, S, rel, q⟩ => by
    refine ⟨G, S, rel, ?_⟩
    have q : PostE c .st G S σ H Q (r S >>= fun z => if RgOk z.1 z.2 then .ok (.tup (rgD z.1 z.2)) else .fail) := q
    cases e1 : r S with
    | exc x => rw [e1] at q; exact q
    | fail => rw [e1] at q; exact q
    | ok z =>
      rw [e1, R.ok_bind] at q
      intro G' H' s
      by_cases hl : RgOk z.1 z.2
      · rw [if_pos hl] at q
        exact ⟨hl, fun w hw => q _ _ _ (s.trans (Step.new s.gh hw)) (.tup (SqU.of upd_same) (RDs.rg _ _))⟩
      · rw [if_neg hl] at q; exact q.elim
end
end M
set_option Elab.async false
set_option linter.all false
set_option maxRecDepth 100000
set_option maxHeartbeats 4000000
namespace M
open PySem L2
/-! ### a written dict of the module: texts to ints -/
def tabGet (tab : List (Str × Int)) (z : Str) : Option Int := (tab.find? fun p => p.1 == z).map (·.2)
/-- the name x is such a dict -/
structure KTab (K : PySem.W.Frag) (w : World) (mg : Str → Option Value) (x : Str) (tab : List (Str × Int)) : Prop where
  ex : ∃ d es n, mg x = some (.ref d) ∧ KDict K w d es n ∧ ∀ z, ∃ r, PySem.W.nsIn K d z = some r ∧ match tabGet tab z with
    | some i => ∃ t, r = some (.int i t)
    | none => r = none
section
variable {X : Cx} {c : Cf} {kd k1 k2 : Kd} {a b e o : Expr} {f g : FE} {pos apos cpos p : Pos} {k : Kn} {x : Str} {tab : List (Str × Int)}
/-- the name itself -/
theorem pe_ktab {d : Addr} (hm : X.mg x = some (.ref d)) (hg : Gl X x := by rfl) (hd : (x == ("__debug__" : Str)) = false := by decide) : PE X (.Name x p) (tC (.ref d)) := pe_glob (v := .ref d) hg hm rfl hd
def kgetD (tab : List (Str × Int)) : D → R D
  | .str z => match tabGet tab z with | some i => .ok (.int i) | none => .ok .non
  | _ => .fail
def kixD (tab : List (Str × Int)) : D → R D
  | .str z => match tabGet tab z with | some i => .ok (.int i) | none => .fail
  | _ => .fail
def kinD (neg : Bool) (tab : List (Str × Int)) : D → R D
  | .str z => .ok (.bl (if neg then !(tabGet tab z).isSome else (tabGet tab z).isSome))
  | _ => .fail
theorem d_kget (T : KTab X.K X.w X.mg x tab) (he : PE' X c k1 e f) (hg : Gl X x := by rfl) (hd : (x == ("__debug__" : Str)) = false := by decide) (m : M1 X (.Name x p) "get" apos e cpos := by first | exact ⟨rfl, rfl, rfl, rfl⟩ | exact ⟨rfl, rfl, rfl⟩) :
    PE' X c .st (.Call (.Attribute (.Name x p) "get" apos) [e] [] cpos) (e1 (kgetD tab) f) := by
  obtain ⟨d, es, n, hm, KD, hv⟩ := T.ex
  refine ⟨fun pins s σ H Q I h => ?_⟩
  refine wpAny_Call_method m.base m.few m.line PySem.F.plainAttrs_dict PySem.F.slot_dict_get PySem.F.type_dict_get (thn ((pe_ktab (p := p) hm hg hd).run pins s σ H (fun v H1 => v = .ref d ∧ H1 = H) I ⟨rfl, rfl⟩) fun u s1 ⟨y, H1, I1, ry, ey, eH⟩ => ?_)
  subst ey; subst eH
  obtain rfl : u = Value.ref d := ry
  refine ⟨kd_type KD I1, fun b q => ?_, ?_⟩
  · cases q
    exact ⟨_, I1.kIn _ _ KD.at_, rfl⟩
  rw [m.trees]
  refine Calls.callWith_builtin rfl (Calls.evalArgs_plain (Calls.spliced_cons (thn (he.run pins s1 σ _ (fun v H2 => ∃ z r, v = .str z ∧ PySem.W.nsIn X.K d z = some r ∧ ∃ v0, RelV v0 (r.getD .none) ∧ Q v0 H2) I1 ?_) fun iv s2 ⟨y, H2, I2, ry, q2⟩ => Calls.spliced_nil ?_)))
  · obtain ⟨G, S, rel, p⟩ := h
    refine rdE_go (g := fun x => (kgetD tab x).nox) (Post := PostE c .st G S σ _ Q) rel p (fun _ z => z) (fun z => z) fun d1 v1 G1 H1 s1 q1 p1 => ?_
    cases d1 with
    | str z =>
      obtain rfl := q1.now.str
      obtain ⟨r, hr, hz⟩ := hv z
      refine ⟨z, r, rfl, hr, ?_⟩
      simp only [kgetD] at p1
      cases ht : tabGet tab z with
      | some i =>
        rw [ht] at p1 hz
        obtain ⟨t, rfl⟩ := hz
        exact ⟨.int i, ⟨t, rfl⟩, p1 _ G1 H1 s1 (.int i)⟩
      | none =>
        rw [ht] at p1 hz
        subst hz
        exact ⟨.non, rfl, p1 _ G1 H1 s1 .non⟩
    | _ => exact p1.elim
  · obtain ⟨z, r, rfl, hr, v0, rv, qv⟩ := q2
    obtain ⟨t, rfl⟩ := ry
    refine call_meetsIn PySem.F.slot_dict_get (kd_type KD I2) PySem.F.entry_dict_get (PySem.F.args_dict_get_2 _ _) (meets_dict_get (PySem.strKind X.prog X.w) d (PySem.strKind_is X.prog X.w z t) KD.low) ⟨_, PySem.W.mapOf_K (prog := X.prog) I2.kIn KD.at_ KD.lit, ?_⟩
    rw [PySem.W.find_K KD.at_ hr]
    exact ⟨v0, H2, I2.tok _, rv, qv⟩
theorem kin_go {neg : Bool} {σ : St} {H : Hp} {Q : VK} {r : R2} {d : Addr} (hv : ∀ z, ∃ r, PySem.W.nsIn X.K d z = some r ∧ match tabGet tab z with | some i => ∃ t, r = some (.int i t) | none => r = none)
    (hr : ∀ z r' H Q, PySem.W.nsIn X.K d z = some r' → Q (.bl (if neg then !r'.isSome else r'.isSome)) H → r (.str z) (.ref d) H Q) (q : RdE c .st (e1 (kinD neg tab) f) σ H Q) : RdE c k1 f σ H fun x H1 => tC (.ref d) σ H1 fun y H2 => r x y H2 Q := by
  obtain ⟨G, S, rel, p⟩ := q
  refine rdE_go (g := fun x => (kinD neg tab x).nox) (Post := PostE c .st G S σ H Q) rel p (fun _ z => z) (fun z => z) fun d1 v1 G1 H1 s1 q1 p1 => ?_
  cases d1 with
  | str z =>
    obtain rfl := q1.now.str
    obtain ⟨r', hr', hz⟩ := hv z
    refine hr z r' H1 Q hr' ?_
    have e : r'.isSome = (tabGet tab z).isSome := by
      cases ht : tabGet tab z with
      | some i => rw [ht] at hz; obtain ⟨t, rfl⟩ := hz; rfl
      | none => rw [ht] at hz; subst hz; rfl
    rw [e]
    exact p1 _ G1 H1 s1 (.bl _)
  | _ => exact p1.elim
theorem d_kin (T : KTab X.K X.w X.mg x tab) (he : PE' X c k1 e f) (hg : Gl X x := by rfl) (hd : (x == ("__debug__" : Str)) = false := by decide) (hm2 : behindInMarks .In (.Name x p) = false := by rfl) : PE' X c .st (.Compare e [.In] [.Name x p] pos) (e1 (kinD false tab) f) := by
  obtain ⟨d, es, n, hm, KD, hv⟩ := T.ex
  exact peI (pe_cmpR (op_in_kd KD) he (pe_ktab hm hg hd) hm2) fun σ H Q q => kin_go (neg := false) (r := fun x y H Q => ∃ (z : Str) (r : Option Value), x = .str z ∧ y = .ref d ∧ PySem.W.nsIn X.K d z = some r ∧ Q (.bl r.isSome) H) hv (fun z r' H Q h1 h2 => ⟨z, r', rfl, rfl, h1, h2⟩) q
theorem d_knotin (T : KTab X.K X.w X.mg x tab) (he : PE' X c k1 e f) (hg : Gl X x := by rfl) (hd : (x == ("__debug__" : Str)) = false := by decide) (hm2 : behindInMarks .NotIn (.Name x p) = false := by rfl) : PE' X c .st (.Compare e [.NotIn] [.Name x p] pos) (e1 (kinD true tab) f) := by
  obtain ⟨d, es, n, hm, KD, hv⟩ := T.ex
  exact peI (pe_cmpR (op_notIn_kd KD) he (pe_ktab hm hg hd) hm2) fun σ H Q q => kin_go (neg := true) (r := fun x y H Q => ∃ (z : Str) (r : Option Value), x = .str z ∧ y = .ref d ∧ PySem.W.nsIn X.K d z = some r ∧ Q (.bl (!r.isSome)) H) hv (fun z r' H Q h1 h2 => ⟨z, r', rfl, rfl, h1, h2⟩) q
theorem d_kix (T : KTab X.K X.w X.mg x tab) (he : PE' X c k1 e f) (hg : Gl X x := by rfl) (hd : (x == ("__debug__" : Str)) = false := by decide) (hi : PlainIx e := by exact fun _ _ => rfl) : PE' X c .st (.Subscript (.Name x p) e pos) (e1 (kixD tab) f) := by
  obtain ⟨d, es, n, hm, KD, hv⟩ := T.ex
  refine peI (pe_ix ix_kdict (pe_ktab hm hg hd) he hi) fun σ H Q ⟨G, S, rel, p⟩ => ?_
  show RdE c k1 f σ H fun y H2 => _
  refine rdE_go (g := fun x => (kixD tab x).nox) (Post := PostE c .st G S σ H Q) rel p (fun _ z => z) (fun z => z) fun d1 v1 G1 H1 s1 q1 p1 => ?_
  cases d1 with
  | str z =>
    obtain rfl := q1.now.str
    obtain ⟨r, hr, hz⟩ := hv z
    simp only [kixD] at p1
    cases ht : tabGet tab z with
    | some i =>
      rw [ht] at p1 hz
      obtain ⟨t, rfl⟩ := hz
      exact ⟨d, z, .int i, rfl, rfl, ⟨es, n, _, KD.at_, KD.lit, hr, ⟨t, rfl⟩⟩, p1 _ G1 H1 s1 (.int i)⟩
    | none => rw [ht] at p1; exact p1.elim
  | _ => exact p1.elim
/-! ### match of an int by written ints -/
structure PMc (X : Cx) (cs : List MatchCase) (t : Int → TS) : Prop where
  run : ∀ (pins : List (Addr × Obj)) (s : Shared) (σ : St) (H : Hp) (D : Ends) (n : Int) (tk : Tok) (first : Bool), L2.Inv X pins σ H s → t n D σ H → wpAny (model X.prog X.w) X.A (matchCases cs X.env (.int n tk) first) (SP X pins D) X.xe s
theorem pmc_nil : PMc X [] (fun _ D σ H => D.nx σ H) := ⟨fun pins s σ H D n tk first I h => wpAny_matchCases_nil ⟨σ, H, I, h⟩⟩
theorem pmc_any {body : List Stmt} {rest : List MatchCase} {t : TS} (hb : PSs X body t) : PMc X (⟨.MatchAs none none p, none, body⟩ :: rest) (fun _ => t) :=
  ⟨fun pins s σ H D n tk first I h => wpAny_matchCases_cons (wpAny_matchPattern_Capture (wpAny_assignInOrder_none (hb.run pins s σ H D I h)))⟩
theorem pmc_val {i : Int} {j} {vp : Pos} {body : List Stmt} {rest : List MatchCase} {t : TS} {u : Int → TS} (hb : PSs X body t) (hr : PMc X rest u) : PMc X (⟨.MatchValue (.Constant (.int i) j vp) p, none, body⟩ :: rest) (fun n D σ H => if n = i then t D σ H else u n D σ H) :=
  ⟨fun pins s σ H D n tk first I h => by
    refine wpAny_matchCases_cons (wpAny_matchPattern_Value (thn (pe_int.run pins s σ H (fun v H1 => v = .int i ∧ H1 = H) I ⟨rfl, rfl⟩) fun v s1 ⟨y, H1, I1, ry, ey, eH⟩ => ?_))
    subst ey; subst eH
    refine thn (op_eq pins s1 σ _ (.int n) (.int i) _ v (fun z H2 => z = .bl (decide (n = i)) ∧ H2 = H1) I1 ⟨tk, rfl⟩ ry ?_) fun cv s2 ⟨z, H2, I2, rz, ez, eH2⟩ => ?_
    · refine ⟨rfl, ?_, rfl⟩
      simp [V.int.injEq]
    · subst ez; subst eH2
      obtain rfl : cv = .bool (decide (n = i)) := rz
      refine wpAny_truthy_bool ?_
      by_cases hn : n = i
      · rw [if_pos (decide_eq_true hn)]
        rw [if_pos hn] at h
        exact wpAny_assignInOrder_none (hb.run pins s2 σ H2 D I2 h)
      · rw [if_neg (by simpa using hn)]
        rw [if_neg hn] at h
        exact hr.run pins s2 σ H2 D n tk false I2 h⟩
def mcF : List (Option Int × FS) → Int → FS
  | [], _ => sNil
  | (none, s) :: _, _ => s
  | (some i, s) :: r, n => if n = i then s else mcF r n
def PMc' (X : Cx) (c : Cf) (fr : Bool) (as : List Nat) (cs : List MatchCase) (l : List (Option Int × FS)) : Prop := PMc X cs (fun n => RdS c fr as (mcF l n))
theorem m_nil {fr : Bool} : PMc' X c fr [] [] [] := ⟨fun pins s σ H D n tk first I ⟨G, S, rel, q⟩ => pmc_nil.run pins s σ H D n tk first I (q G σ H (Ex.refl _) rel (Frm.refl _ _ _ _))⟩
theorem m_any {fr : Bool} {as : List Nat} {body : List Stmt} {s : FS} (hb : PB' X c fr as body s) : PMc' X c fr as [⟨.MatchAs none none p, none, body⟩] [(none, s)] := pmc_any hb
theorem PostS.up {fr : Bool} {as bs : List Nat} {G H : Hp} {S : Env} {σ : St} {Dn : Ends} {r : R (Fl × Env)} (h : ∀ i, i ∈ as → i ∈ bs) (p : PostS c fr bs G S σ H Dn r) : PostS c fr as G S σ H Dn r := by
  cases r with
  | ok z =>
    obtain ⟨fl, S'⟩ := z
    cases fl with
    | nx => exact fun G' σ' H' e rel fm => p G' σ' H' e rel (fm.mono h)
    | bk => exact fun G' σ' H' e rel fm => p G' σ' H' e rel (fm.mono h)
    | ct => exact fun G' σ' H' e rel fm => p G' σ' H' e rel (fm.mono h)
    | rt d => exact p
  | exc x => exact p
  | fail => exact p
theorem m_val {fr : Bool} {as bs : List Nat} {i : Int} {j} {vp : Pos} {body : List Stmt} {rest : List MatchCase} {s : FS} {l : List (Option Int × FS)} (hb : PB' X c fr as body s) (hr : PMc' X c fr bs rest l) : PMc' X c fr (as ++ bs) (⟨.MatchValue (.Constant (.int i) j vp) p, none, body⟩ :: rest) ((some i, s) :: l) :=
  ⟨fun pins s' σ H D n tk first I ⟨G, S, rel, q⟩ => (pmc_val hb hr).run pins s' σ H D n tk first I (by
    have q : PostS c fr (as ++ bs) G S σ H D ((if n = i then s else mcF l n) S) := q
    by_cases hn : n = i
    · rw [if_pos hn] at q ⊢
      exact ⟨G, S, rel, PostS.up (fun z hz => List.mem_append_left _ hz) q⟩
    · rw [if_neg hn] at q ⊢
      exact ⟨G, S, rel, PostS.up (fun z hz => List.mem_append_right _ hz) q⟩)⟩
def sMatch (f : FE) (l : List (Option Int × FS)) : FS := fun S => f S >>= fun d => match d with
  | .int n => mcF l n S
  | _ => .fail
theorem s_match {fr : Bool} {as : List Nat} {cs : List MatchCase} {l : List (Option Int × FS)} (he : PE' X c k1 e f) (hc : PMc' X c fr as cs l) : PS' X c fr as (.Match e cs pos) (sMatch f l) :=
  ⟨fun pins s σ H D I ⟨G, S, rel, p⟩ => by
    refine wpAny_Match (thn (he.run pins s σ H (fun v H1 => ∃ n, v = .int n ∧ RdS c fr as (mcF l n) D σ H1) I ?_) fun v s1 ⟨y, H1, I1, ry, n, ey, q⟩ => ?_)
    · refine rdE_go (g := fun d => match d with | .int n => mcF l n S | _ => .fail) (Post := PostS c fr as G S σ H D) rel p (fun _ z => z _) (fun z => z) fun d v G1 H1 s1 q1 p1 => ?_
      cases d with
      | int n =>
        refine ⟨n, q1.now.int, G1, S, rel.grow s1, ?_⟩
        have p1 : PostS c fr as G S σ H D (mcF l n S) := p1
        cases hm : mcF l n S with
        | ok z =>
          rw [hm] at p1
          obtain ⟨fl, S'⟩ := z
          have fmx : ∀ {S' σ' H'}, Frm as S σ H1 S' σ' H' → Frm as S σ H S' σ' H' := fun fm => ((Frm.step (as := []) rel s1).trans fm).mono fun z hz => by simpa using hz
          cases fl with
          | nx => exact fun G' σ' H' e r fm => p1 G' σ' H' (s1.g.trans e) r (fmx fm)
          | bk => exact fun G' σ' H' e r fm => p1 G' σ' H' (s1.g.trans e) r (fmx fm)
          | ct => exact fun G' σ' H' e r fm => p1 G' σ' H' (s1.g.trans e) r (fmx fm)
          | rt d => exact p1
        | exc x => rw [hm] at p1; exact p1
        | fail => rw [hm] at p1; exact p1
      | _ => exact p1.elim
    · subst ey
      obtain ⟨tk, rfl⟩ := ry
      exact hc.run pins s1 σ H1 D n tk true I1 q⟩
end
end M
namespace M
open PySem L2
section
variable {X : Cx} {c : Cf} {k1 : Kd} {e : Expr} {f : FE} {pos p tp q1 q2 : Pos} {k : Kn} {x y z : Str}
/-- isinstance(e, (T1, T2)) -/
def isi2D (b1 b2 : String) (d : D) : R D := match tyN d with
  | some a => match kitB a b1, kitB a b2 with
    | some r1, some r2 => .ok (.bl (r1 || r2))
    | _, _ => .fail
  | none => .fail
theorem d_isi2 {kk} (b1 b2 : String) (hk : c.k.K = X.K) (hm : X.mg x = none) (hm1 : X.mg y = none) (hm2 : X.mg z = none) (he : PE' X c k1 e f) (hv : bootBuiltins x = some (.builtin "isinstance") := by decide +kernel) (hv1 : bootBuiltins y = some (.type b1) := by decide +kernel) (hv2 : bootBuiltins z = some (.type b2) := by decide +kernel) (hg : Gl X x := by rfl) (hg1 : Gl X y := by rfl) (hg2 : Gl X z := by rfl)
    (hn : x ≠ "__name__" := by decide) (hdb : (x == ("__debug__" : Str)) = false := by decide) (hn1 : y ≠ "__name__" := by decide) (hdb1 : (y == ("__debug__" : Str)) = false := by decide) (hn2 : z ≠ "__name__" := by decide) (hdb2 : (z == ("__debug__" : Str)) = false := by decide)
    (hs : starEach [e, .Tuple [.Name y q1, .Name z q2] kk tp] X.env = (false, eval e X.env) :: starEach [.Tuple [.Name y q1, .Name z q2] kk tp] X.env := by rfl) (hs2 : ((backTo pos (starEach [.Tuple [.Name y q1, .Name z q2] kk tp] X.env)).any fun x => x.1) = false := by rfl) :
    PE' X c .st (.Call (.Name x p) [e, .Tuple [.Name y q1, .Name z q2] kk tp] [] pos) (e1 (isi2D b1 b2) f) := by
  have ht : PE X (.Tuple [.Name y q1, .Name z q2] kk tp) _ := pe_tup (pa_cons (pe_bltn (v := .ty b1) hg1 hm1 hv1 rfl hn1 hdb1) (pa_cons (pe_bltn (v := .ty b2) hg2 hm2 hv2 rfl hn2 hdb2) pa_nil rfl) rfl)
  refine peI (pe_callB call_isiT hg hm hv (pa_cons he (pa_cons ht pa_nil rfl) hs) hn hdb hs hs2) fun σ H Q ⟨G, S, rel, p⟩ => ?_
  refine rdE_go (g := fun x => (isi2D b1 b2 x).nox) (Post := PostE c .st G S σ H Q) rel p (fun _ z => z) (fun z => z) fun d v G1 H1 s1 r1 p1 => ?_
  refine ⟨by show 2 ≤ sizeLine; have := sizeLine_eq; omega, fun t ht => ?_⟩
  have s2 : Step G1 H1 G1 (upd H1 t (.tup [.ty b1, .ty b2])) := Step.new' s1.gh ht
  have nn := r1.now.grow s2
  unfold isi2D at p1
  cases hty : tyN d with
  | none => rw [hty] at p1; exact p1.elim
  | some a =>
    rw [hty] at p1
    dsimp only at p1
    cases h1 : kitB a b1 with
    | none => rw [h1] at p1; exact p1.elim
    | some r1' =>
      cases h2 : kitB a b2 with
      | none => rw [h1, h2] at p1; exact p1.elim
      | some r2' =>
        rw [h1, h2] at p1
        refine ⟨v, t, [.ty b1, .ty b2], .type a, [.type b1, .type b2], r1' || r2', rfl, upd_same, .cons (.ty _) (.cons (.ty _) .nil), nn.tyX hk s2.gh hty, ?_, p1 _ G1 _ (s1.trans s2) (.bl _)⟩
        have e1 := kit_ty (K := X.K) h1
        have e2 := kit_ty (K := X.K) h2
        simp only [PySem.W.kitAny, e1, e2]
        cases r1' <;> cases r2' <;> rfl
end
end M
namespace M
open PySem L2
theorem b_fail {X : Cx} {c : Cf} {fr : Bool} {as : List Nat} {body : List Stmt} : PB' X c fr as body (fun _ => .fail) := pssI pss_never fun Dn σ H ⟨G, S, rel, p⟩ => p.elim
end M
namespace M
open PySem L2
theorem d_tv {X : Cx} {c : Cf} {a : Expr} {f : FE} (h : PE' X c .st a f) (he : ∀ whole, isTrue a X.env whole = (do let v ← whole; standAt a.pos; holding [v] (truthy v)) := by intro _; rfl) : PT' X c a (tB' f) := ptI (pt_val h he) fun σ H Q q => tB_go (t := RdE c .st f) (fun _ _ _ z => z) q
end M
set_option Elab.async false
set_option linter.all false
set_option maxRecDepth 100000
set_option maxHeartbeats 4000000
namespace M
open PySem L2
/-! ### tables in the hook -/
abbrev TabI := Str × List (Str × Int)
def valI (K : PySem.W.Frag) (t : TabI) : Bool := t.2.all fun q => match PySem.W.nsIn K (He.ga K t.1) q.1 with
  | some (some (.int i _)) => decide (i = q.2)
  | _ => false
theorem keys_none {P : Params} {z : Str} : ∀ {l : List DictEntry} {ks : List Str}, l.map He.keyOf = He.keysIn P ks → z ∉ ks → l.find? (·.key.isStr z) = none ∧ l.any (·.refKey) = false
  | [], _, _, _ => ⟨rfl, rfl⟩
  | e :: l, [], h, _ => by simp [He.keysIn] at h
  | e :: l, k :: ks, h, hz => by
    have h1 : He.keyOf e = some (k, PyData.keyHash P k) := by
      have := congrArg List.head? h; simpa [He.keysIn] using this
    have h2 : l.map He.keyOf = He.keysIn P ks := by
      have := congrArg List.tail h; simpa [He.keysIn] using this
    obtain ⟨i1, i2⟩ := keys_none h2 (fun w => hz (List.mem_cons_of_mem _ w))
    have hk : ∃ t, e.key = .str k t := by
      unfold He.keyOf at h1
      split at h1
      · rename_i x t hx
        simp only [Option.some.injEq, Prod.mk.injEq] at h1
        exact ⟨t, by rw [hx, h1.1]⟩
      · cases h1
    obtain ⟨t, hk⟩ := hk
    constructor
    · rw [List.find?_cons, hk]
      have : (Value.str k t).isStr z = false := by
        show (k == z) = false
        simpa using fun w : k = z => hz (by rw [w]; exact List.mem_cons_self)
      rw [this]; exact i1
    · rw [List.any_cons, i2]
      simp [DictEntry.refKey, hk]
theorem ktab_ok {K : PySem.W.Frag} {w : World} {mg : Str → Option Value} {t : TabI} (hg : mg t.1 = some (.ref (He.ga K t.1))) (hd : He.dicW K (He.ga K t.1) = some (He.keysIn w.params (t.2.map (·.1)))) (hv : valI K t = true) : KTab K w mg t.1 t.2 := by
  obtain ⟨es, n, KD⟩ := He.dicW_ok hd
  refine ⟨_, es, n, hg, KD, fun z => ?_⟩
  unfold tabGet
  cases hf : t.2.find? fun p => p.1 == z with
  | some q =>
    have hq := List.mem_of_find?_eq_some hf
    have he : q.1 = z := by have := List.find?_some hf; simpa using this
    have h2 := List.all_eq_true.mp hv q hq
    rw [he] at h2
    split at h2
    · rename_i i tk hn
      refine ⟨_, hn, ?_⟩
      have := of_decide_eq_true h2
      subst this
      exact ⟨tk, rfl⟩
    · cases h2
  | none =>
    refine ⟨none, ?_, rfl⟩
    have hz : z ∉ t.2.map (·.1) := fun hm => by
      obtain ⟨q, hq, e⟩ := List.mem_map.mp hm
      have := List.find?_eq_none.mp hf q hq
      simp [e] at this
    unfold He.dicW at hd
    rw [KD.at_] at hd
    dsimp only at hd
    split at hd
    · simp only [Option.some.injEq] at hd
      obtain ⟨h1, h2⟩ := keys_none hd hz
      unfold PySem.W.nsIn
      rw [KD.at_]
      dsimp only
      rw [h1, h2]; rfl
    · cases hd
abbrev AlZ : Type := He.AlD × List (Option (List (Option (Str × Int))))
def obsZ (x : Fy) (ts : List TabI) (fn : List Dx) (K : PySem.W.Frag) : AlZ := (((x.ok K && ts.all fun t => valI K t) && fn.all fun d => d.good K, fn.map fun d => d.seen K), ts.map fun t => He.dicW K (He.ga K t.1))
def valZ (ts : List TabI) (fn : List Dx) (w : World) : AlZ := ((true, fn.map fun d => d.d.val), ts.map fun t => some (He.keysIn w.params (t.2.map (·.1))))
def SaysZ (x : Fy) (ts : List TabI) (fn : List Dx) (w : World) (K : PySem.W.Frag) : Prop := obsZ x ts fn K = valZ ts fn w
def obsZG (n : Nat) (x : Fy) (ts : List TabI) (fn : List Dx) (g : Addr → Option Obj) : AlZ := obsZ x ts fn (He.frG g (He.asD g n))
def hookZ (n : Nat) (x : Fy) (ts : List TabI) (fn : List Dx) : PySem.W.Hook where
  α := AlZ
  obs := fun s => obsZG n x ts fn s.heap.get?
  val := fun w => valZ ts fn w
  says := fun w h => ∃ K : PySem.W.Frag, K.In h ∧ SaysZ x ts fn w K
  of := fun _ _ e => ⟨_, He.frG_in, e⟩
  keeps := fun _ _ _ ⟨K, hK, c⟩ k => ⟨K, PySem.W.Frag.In.keeps hK k, c⟩
theorem obsZG_eq {n : Nat} {x : Fy} {ts : List TabI} {fn : List Dx} {g : Addr → Option Obj} {s : Shared} (h : ∀ a, g a = s.heap.get? a) : obsZG n x ts fn g = (hookZ n x ts fn).obs s := by
  have q : g = s.heap.get? := funext h
  subst q; rfl
section
variable {x : Fy} {ts : List TabI} {fn : List Dx} {K : PySem.W.Frag} {w : World}
theorem SaysZ.all (c : SaysZ x ts fn w K) : ((x.ok K && ts.all fun t => valI K t) && fn.all fun d => d.good K) = true := congrArg (fun z : AlZ => z.1.1) c
theorem SaysZ.y (c : SaysZ x ts fn w K) : SaysY x fn K := by
  have h1 := He.ba c.all
  have e : fn.map (fun d => d.seen K) = fn.map fun d => d.d.val := congrArg (fun z : AlZ => z.1.2) c
  show (x.ok K && fn.all fun d => d.good K, fn.map fun d => d.seen K) = (true, _)
  rw [e, (He.ba h1.1).1, h1.2]; rfl
theorem SaysZ.tab (c : SaysZ x ts fn w K) (i : Nat) {t : TabI} (h : ts[i]? = some t := by rfl) : He.dicW K (He.ga K t.1) = some (He.keysIn w.params (t.2.map (·.1))) ∧ valI K t = true := by
  have e : ts.map (fun t => He.dicW K (He.ga K t.1)) = ts.map fun t => some (He.keysIn w.params (t.2.map (·.1))) := congrArg (fun z : AlZ => z.2) c
  have e2 := congrArg (fun l : List (Option (List (Option (Str × Int)))) => l[i]?) e
  simp only [List.getElem?_map, h, Option.map_some, Option.some.injEq] at e2
  exact ⟨e2, List.all_eq_true.mp (He.ba (He.ba c.all).1).2 t (List.mem_of_getElem? h)⟩
end
end M
set_option Elab.async false
set_option linter.all false
set_option maxRecDepth 100000
set_option maxHeartbeats 4000000
namespace M
open PySem L2
/-! ### dicts: keys that are ints or texts, or tuples of such -/
def keyD : D → Option Key
  | .int i => some (.inl i)
  | .str x => some (.inr x)
  | _ => none
def keysD : List D → Option (List Key)
  | [] => some []
  | d :: ds => match keyD d, keysD ds with
    | some k, some ks => some (k :: ks)
    | _, _ => none
section
variable {k : Kn} {G H : Hp}
theorem keyD_now {d : D} {v : V} {q : Key} (h : keyD d = some q) (n : Now k G H d v) : v = kV q := by
  cases d <;> simp only [keyD] at h <;> first | (cases h; done) | skip
  · cases h; exact n.int
  · cases h; exact n.str
theorem keyD_rd {d : D} {v : V} {q : Key} (h : keyD d = some q) (n : RD k G d v) : v = kV q := keyD_now (H := G) h (.inl n)
theorem keysD_rd : ∀ {ds : List D} {vs : List V} {qs : List Key}, keysD ds = some qs → RDs k G ds vs → vs = qs.map kV
  | _, _, qs, h, .nil => by cases h; rfl
  | d :: ds, _, qs, h, .cons a b => by
    simp only [keysD] at h
    split at h
    · rename_i q qs' h1 h2
      cases h
      rw [keyD_rd h1 a, keysD_rd h2 b]; rfl
    · cases h
/-- the value at a key -/
def getL {κ : Type} [DecidableEq κ] : List κ → List D → κ → Option D
  | x :: ks, d :: ds, q => if x = q then some d else getL ks ds q
  | _, _, _ => none
def putL {κ : Type} [DecidableEq κ] (ks : List κ) (ds : List D) (q : κ) (d : D) : List κ × List D := match ks.idxOf? q with
  | some i => (ks, ds.set i d)
  | none => (ks ++ [q], ds ++ [d])
theorem getL_val {κ : Type} [DecidableEq κ] {q : κ} : ∀ {ks : List κ} {ds : List D} {vs : List V}, ks.length = ds.length → RDs k G ds vs → (∀ d, getL ks ds q = some d → ∃ v, valV (ks.zip vs) q = some v ∧ RD k G d v) ∧ (getL ks ds q = none → valV (ks.zip vs) q = none)
  | [], _, _, _, _ => ⟨(fun d h => by simp [getL] at h), fun _ => by simp [valV]⟩
  | x :: ks, [], _, h, _ => by simp at h
  | x :: ks, d :: ds, _, h, .cons a b => by
    have ih := getL_val (q := q) (ks := ks) (by simpa using h) b
    simp only [getL, List.zip_cons_cons]
    by_cases e : x = q
    · rw [if_pos e]
      exact ⟨fun d' h' => ⟨_, valV_pos e, by cases h'; exact a⟩, fun h' => by cases h'⟩
    · rw [if_neg e]
      have e2 : ∀ r : List (κ × V), ∀ v, valV ((x, v) :: r) q = valV r q := fun r v => by
        unfold valV; rw [List.find?_cons]; simp [e]
      rw [e2]; exact ih
theorem any_zip {κ : Type} [DecidableEq κ] {q : κ} : ∀ {ks : List κ} {vs : List V}, ks.length = vs.length → ((ks.zip vs).any fun kv => decide (kv.1 = q)) = (ks.idxOf? q).isSome
  | [], _, _ => by simp
  | x :: ks, [], h => by simp at h
  | x :: ks, v :: vs, h => by
    rw [List.zip_cons_cons, List.any_cons, any_zip (by simpa using h), List.idxOf?_cons]
    by_cases e : x = q
    · simp [e]
    · have : (x == q) = false := by simpa using e
      simp [e]
theorem map_zip {κ : Type} [DecidableEq κ] {q : κ} {v : V} : ∀ {ks : List κ} {vs : List V} {i : Nat}, ks.Nodup → ks.length = vs.length → ks.idxOf? q = some i → ((ks.zip vs).map fun kv => if kv.1 = q then (kv.1, v) else kv) = ks.zip (vs.set i v)
  | [], _, _, _, _, h => by simp at h
  | x :: ks, [], _, _, h, _ => by simp at h
  | x :: ks, u :: vs, i, nd, hl, h => by
    rw [List.idxOf?_cons] at h
    obtain ⟨n1, n2⟩ := List.nodup_cons.mp nd
    by_cases e : x = q
    · subst e
      simp at h
      subst h
      rw [List.zip_cons_cons, List.map_cons, if_pos rfl, List.set_cons_zero, List.zip_cons_cons]
      congr 1
      have : ∀ p ∈ ks.zip vs, (if p.1 = x then (p.1, v) else p) = p := fun p hp => by
        rw [if_neg]
        intro e
        exact n1 (by rw [← e]; exact (List.of_mem_zip hp).1)
      rw [List.map_congr_left this, List.map_id']
    · have e' : (x == q) = false := by simpa using e
      rw [e'] at h
      cases h2 : ks.idxOf? q with
      | none => rw [h2] at h; simp at h
      | some j =>
        rw [h2] at h; simp at h; subst h
        rw [List.zip_cons_cons, List.map_cons, if_neg e, List.set_cons_succ, List.zip_cons_cons, map_zip n2 (by simpa using hl) h2]
theorem putL_zip {κ : Type} [DecidableEq κ] {q : κ} {ks : List κ} {ds : List D} {d : D} {vs : List V} {v : V} (nd : ks.Nodup) (hl : ks.length = ds.length) (r : RDs k G ds vs) (rd : RD k G d v) :
    ∃ vs', putK (ks.zip vs) q v = (putL ks ds q d).1.zip vs' ∧ RDs k G (putL ks ds q d).2 vs' ∧ (putL ks ds q d).1.length = (putL ks ds q d).2.length := by
  have hv := r.length
  unfold putK putL
  rw [any_zip (by omega)]
  cases h : ks.idxOf? q with
  | none =>
    refine ⟨vs ++ [v], ?_, r.append (.cons rd .nil), by simp [hl]⟩
    rw [if_neg (by simp)]
    show _ = (ks ++ [q]).zip (vs ++ [v])
    rw [List.zip_append (by omega)]; rfl
  | some i =>
    refine ⟨vs.set i v, ?_, r.set i rd, by simp [hl]⟩
    rw [if_pos (by simp)]
    exact map_zip nd (by omega) h
end
section
variable {X : Cx} {c : Cf} {kd k1 k2 k3 : Kd} {a b e o : Expr} {f g h : FE} {pos apos cpos : Pos} {fr : Bool} {x : Str}
/-- d[k], d.get(k), d.get(k, x), k in d: the keys ints or texts -/
def dgetD (d y : D) : R D := match d with
  | .dic ks ds => match keyD y with
    | some q => match getL ks ds q with | some r => .ok r | none => .fail
    | none => .fail
  | _ => .fail
theorem d_dget (hu : X.A.units + 1 < cLine) (ho : PE' X c k1 o f) (hi : PE' X c k2 e g) (hs : NoSl e := by exact fun _ _ => rfl) : PE' X c .st (.Subscript o e pos) (e2 dgetD f g) :=
  peI (pe_dget hu ho hi hs) fun σ H Q q => e2_go (r := fun x y H Q => ∃ a v, x = .ref a ∧ DGet H a y (some v) ∧ Q v H) (fun G H x y u v d ex nx ny hg Q p => by
    cases x with
    | dic ks ds =>
      simp only [dgetD] at hg
      split at hg
      · rename_i q hq
        split at hg
        · rename_i r hr
          cases hg
          obtain ⟨ad, vs, rfl, ha, hl, rr⟩ := nx.dic ex
          obtain rfl := keyD_now hq ny
          obtain ⟨w, hw, rw⟩ := (getL_val hl rr).1 _ hr
          refine ⟨ad, w, rfl, ?_, p w G H (Step.refl ex) rw⟩
          have := DGet.k (k := q) ha
          rw [hw] at this
          exact this
        · cases hg
      · cases hg
    | _ => simp [dgetD] at hg) q
/-- the keys tuples, written in place -/
def dgetT (d : D) (ys : List D) : R D := match d with
  | .dit ks ds => match keysD ys with
    | some q => match getL ks ds q with | some r => .ok r | none => .fail
    | none => .fail
  | _ => .fail
def dgetT2 (d : D) (ys : List D) (z : D) : R D := match d with
  | .dit ks ds => match keysD ys with
    | some q => match getL ks ds q with | some r => .ok r | none => .ok z
    | none => .fail
  | _ => .fail
/-- a display of a tuple: what it asks -/
theorem tup_ask {es : List Expr} {fa : FA} {kk} (h : PA' X c false es fa) : PE X (.Tuple es kk pos) (fun σ H Q => RdA c false fa σ H fun vs H1 => vs.length ≤ sizeLine ∧ ∀ p, H1 p = none → Q (.ref p) (upd H1 p (.tup vs))) :=
  peI (pe_tup h) fun σ H Q q => q
def isDct : D → Bool
  | .dic _ _ => true
  | .dit _ _ => true
  | _ => false
def eGetT2 (f : FE) (fa : FA) (h : FE) : FE := fun S => do
  let d ← f S
  if isDct d then do
    let ys ← fa S
    if ys.length ≤ sizeLine then do
      let z ← h S
      (dgetT2 d ys z).nox
    else .fail
  else .fail
theorem d_getT2 {es : List Expr} {fa : FA} {kk} {tp : Pos} {dx : Expr} (hu : X.A.units + 1 < cLine) (ho : PE' X c k1 o f) (hi : PA' X c false es fa) (hz : PE' X c .st dx h) (m : M2 X o "get" apos (.Tuple es kk tp) dx cpos := by first | exact ⟨rfl, rfl, rfl, rfl⟩ | exact ⟨rfl, rfl, rfl⟩) :
    PE' X c .st (.Call (.Attribute o "get" apos) [.Tuple es kk tp, dx] [] cpos) (eGetT2 f fa h) :=
  peI (pe_dget2 hu ho (tup_ask hi) hz m) fun σ H Q ⟨G, S, rel, p⟩ => by
    refine rdE_go (g := fun d => if isDct d then (fa S >>= fun ys => if ys.length ≤ sizeLine then (h S >>= fun z => (dgetT2 d ys z).nox) else .fail) else .fail) (Post := PostE c .st G S σ H Q) rel p (fun _ z => z) (fun z => z) fun d v G1 H1 s1 q1 p1 => ?_
    by_cases hd : isDct d = true
    · rw [if_pos hd] at p1
      have at_ : ∃ a, v = .ref a ∧ IsD H1 a := by
        cases d with
        | dic ks ds =>
          obtain ⟨a, vs, rfl, ha, hl, r⟩ := q1.now.dic s1.gh
          exact ⟨a, rfl, .inl ⟨_, .inl ha⟩⟩
        | dit ks ds =>
          obtain ⟨a, vs, rfl, ha, hl, r⟩ := q1.now.dit s1.gh
          exact ⟨a, rfl, .inr ⟨_, .inl ha⟩⟩
        | _ => simp [isDct] at hd
      obtain ⟨ad, rfl, isd⟩ := at_
      refine ⟨ad, rfl, isd, ?_⟩
      refine rdA_go (g := fun ys => if ys.length ≤ sizeLine then (h S >>= fun z => (dgetT2 d ys z).nox) else .fail) (Post := PostE c .st G S σ H Q) (rel.grow s1) p1 (fun _ z => z) (fun z => z) fun ys ws G2 H2 s2 q2 p2 => ?_
      have q2 : RDs c.k G2 ys ws := q2
      by_cases hl : ys.length ≤ sizeLine
      · rw [if_pos hl] at p2
        refine ⟨by rw [← q2.length]; exact hl, fun tp htp => ?_⟩
        have s3 : Step G2 H2 (upd G2 tp (.tup ws)) (upd H2 tp (.tup ws)) := Step.new s2.gh htp
        have sA := (s1.trans s2).trans s3
        refine rdE_go (g := fun z => (dgetT2 d ys z).nox) (Post := PostE c .st G S σ H Q) (rel.grow sA) p2 (fun _ z => z) (fun z => z) fun dz vz G4 H4 s4 q4 p4 => ?_
        have sB := sA.trans s4
        cases d with
        | dit ks ds =>
          have nd := (q1.now.grow s2).grow (s3.trans s4)
          obtain ⟨ad', vs, e', ha, hkl, r⟩ := nd.dit s4.gh
          cases e'
          simp only [dgetT2] at p4
          have htk : H4 tp = some (.tup ws) := s4.h _ _ upd_same
          cases hk : keysD ys with
          | none => rw [hk] at p4; exact p4.elim
          | some qs =>
            rw [hk] at p4
            dsimp only at p4
            obtain rfl := keysD_rd hk q2
            have dg := DGet.t (k := qs) ha htk
            cases hg : getL ks ds qs with
            | some rr =>
              rw [hg] at p4
              obtain ⟨w, hw, rw_⟩ := (getL_val hkl r).1 _ hg
              rw [hw] at dg
              exact ⟨some w, dg, p4 w G4 H4 sB rw_⟩
            | none =>
              rw [hg] at p4
              have hw := (getL_val hkl r).2 hg
              rw [hw] at dg
              exact ⟨none, dg, p4 vz G4 H4 sB q4⟩
        | dic ks ds => simp only [dgetT2] at p4; exact p4.elim
        | _ => simp [isDct] at hd
      · rw [if_neg hl] at p2; exact p2.elim
    · rw [if_neg hd] at p1; exact p1.elim
/-- {} -/
theorem d_dnewK : PE' X c .fr (.Dict [] [] pos) (fun _ => .ok (.dic [] [])) :=
  peI pe_dnewK fun σ H Q ⟨G, S, rel, p⟩ => fun q hq => p _ G _ (Step.new' rel.st.gh hq) ⟨q, _, rfl, rel.st.gh.free hq, hq, upd_same, .dic (vs := []) rfl .nil⟩
theorem d_dnewT : PE' X c .fr (.Dict [] [] pos) (fun _ => .ok (.dit [] [])) :=
  peI pe_dnewT fun σ H Q ⟨G, S, rel, p⟩ => fun q hq => p _ G _ (Step.new' rel.st.gh hq) ⟨q, _, rfl, rel.st.gh.free hq, hq, upd_same, .dit (vs := []) rfl .nil⟩
end
end M
set_option Elab.async false
set_option linter.all false
set_option maxRecDepth 100000
set_option maxHeartbeats 4000000
namespace M
open PySem L2
section
variable {X : Cx} {c : Cf} {kd k1 k2 k3 : Kd} {a b e o : Expr} {f g h : FE} {pos apos cpos : Pos} {fr : Bool} {x : Str}
/-! ### d[k] = e, the slot owns the dict -/
def ownDic (i : Nat) (S : Env) : R (List Key × List D) := match S[i]? with
  | some (some ⟨true, .dic ks ds⟩) => .ok (ks, ds)
  | _ => .fail
def ownDit (i : Nat) (S : Env) : R (List (List Key) × List D) := match S[i]? with
  | some (some ⟨true, .dit ks ds⟩) => .ok (ks, ds)
  | _ => .fail
theorem ownDic_of {i : Nat} {S : Env} {z : List Key × List D} (h : ownDic i S = .ok z) : S[i]? = some (some ⟨true, .dic z.1 z.2⟩) := by
  unfold ownDic at h
  split at h
  · cases h; assumption
  · cases h
theorem ownDit_of {i : Nat} {S : Env} {z : List (List Key) × List D} (h : ownDit i S = .ok z) : S[i]? = some (some ⟨true, .dit z.1 z.2⟩) := by
  unfold ownDit at h
  split at h
  · cases h; assumption
  · cases h
theorem ownDic_exc {i : Nat} {S : Env} {x : Exc} : ownDic i S ≠ .exc x := by unfold ownDic; split <;> intro h <;> cases h
theorem ownDit_exc {i : Nat} {S : Env} {x : Exc} : ownDit i S ≠ .exc x := by unfold ownDit; split <;> intro h <;> cases h
def putD (i : Nat) (S : Env) (z : List Key × List D) (d y : D) : R (Fl × Env) := match keyD y with
  | some q => if z.1.Nodup ∧ z.1.length < sizeLine then .ok (.nx, S.set i (some ⟨true, .dic (putL z.1 z.2 q d).1 (putL z.1 z.2 q d).2⟩)) else .fail
  | none => .fail
def sDPutK (i : Nat) (fy f : FE) : FS := fun S => ownDic i S >>= fun z => f S >>= fun d => fy S >>= fun y => putD i S z d y
theorem s_dputK (i : Nat) {ix : Expr} {fy : FE} {px ps : Pos} (hu : X.A.units + 1 < cLine) (he : PE' X c .st e f) (hj : PE' X c k1 ix fy) (hN : X.N[i]? = some x := by rfl) (hv : Vis X.env.scope x := by first | exact Or.inl rfl | exact Or.inr (Or.inl rfl) | exact Or.inr (Or.inr rfl)) (hd : (x == ("__debug__" : Str)) = false := by decide)
    (hcd : (x == ("__classdict__" : Str)) = false := by decide) (hs : swapsWith e (some (.Subscript (.Name x px) ix ps)) pos.line X.env = pure false := by rfl) :
    PS' X c fr [i + 1000] (.Assign [.Subscript (.Name x px) ix ps] e pos) (sDPutK i fy f) :=
  psI (ps_dput hu (pe_var hN hv hd hcd) hj he hs) fun Dn σ H ⟨G, S, rel, p⟩ => by
    have p : PostS c fr [i + 1000] G S σ H Dn (ownDic i S >>= fun z => f S >>= fun d => fy S >>= fun y => putD i S z d y) := p
    cases e0 : ownDic i S with
    | exc x => exact absurd e0 ownDic_exc
    | fail => rw [e0] at p; exact p.elim
    | ok z =>
      rw [e0, R.ok_bind] at p
      have hS := ownDic_of e0
      obtain ⟨l, ob, es, hg, h0, ho, ct⟩ := rel.ow i _ hS
      have ow : OwnAt S σ i l := ⟨⟨_, hS⟩, es⟩
      cases ct with
      | @dic _ _ vs hl r =>
        refine rdE_go (Post := PostS c fr [i + 1000] G S σ H Dn) rel p (fun _ z => z _) (fun z => z) fun d v G1 H1 s1 q1 p1 => ?_
        refine ⟨_, es, ?_⟩
        refine rdE_go (Post := PostS c fr [i + 1000] G S σ H Dn) (rel.grow s1) p1 (fun _ z => z _) (fun z => z) fun y u G2 H2 s2 q2 p2 => ?_
        unfold putD at p2
        cases hk : keyD y with
        | none => rw [hk] at p2; exact p2.elim
        | some q =>
          rw [hk] at p2
          dsimp only at p2
          by_cases hc : z.1.Nodup ∧ z.1.length < sizeLine
          · rw [if_pos hc] at p2
            have sp := s1.trans s2
            have rel' := rel.grow sp
            obtain rfl := keyD_now hk q2.now
            obtain ⟨vs', e1, r', l'⟩ := putL_zip (q := q) hc.1 hl (r.mono sp.g) (RD.mono s2.g q1)
            have hz : (z.1.zip vs).length < sizeLine := by rw [List.length_zip]; exact Nat.lt_of_le_of_lt (Nat.min_le_left _ _) hc.2
            refine ⟨l, _, rfl, DPut.k (sp.h _ _ ho) hz, ?_⟩
            rw [e1]
            exact p2 G2 σ _ sp.g (rel'.mut ow (.dic l' r')) ((Frm.step (as := []) rel sp).trans (Frm.mut rel' ow))
          · rw [if_neg hc] at p2; exact p2.elim
def putT (i : Nat) (S : Env) (z : List (List Key) × List D) (d : D) (ys : List D) : R (Fl × Env) := match keysD ys with
  | some q => if ys.length ≤ sizeLine ∧ z.1.Nodup ∧ z.1.length < sizeLine then .ok (.nx, S.set i (some ⟨true, .dit (putL z.1 z.2 q d).1 (putL z.1 z.2 q d).2⟩)) else .fail
  | none => .fail
def sDPutT (i : Nat) (fa : FA) (f : FE) : FS := fun S => ownDit i S >>= fun z => f S >>= fun d => fa S >>= fun ys => putT i S z d ys
theorem s_dputT (i : Nat) {ixs : List Expr} {fa : FA} {kk} {tp px ps : Pos} (hu : X.A.units + 1 < cLine) (he : PE' X c .st e f) (hj : PA' X c false ixs fa) (hN : X.N[i]? = some x := by rfl) (hv : Vis X.env.scope x := by first | exact Or.inl rfl | exact Or.inr (Or.inl rfl) | exact Or.inr (Or.inr rfl)) (hd : (x == ("__debug__" : Str)) = false := by decide)
    (hcd : (x == ("__classdict__" : Str)) = false := by decide) (hs : swapsWith e (some (.Subscript (.Name x px) (.Tuple ixs kk tp) ps)) pos.line X.env = pure false := by rfl) :
    PS' X c fr [i + 1000] (.Assign [.Subscript (.Name x px) (.Tuple ixs kk tp) ps] e pos) (sDPutT i fa f) :=
  psI (ps_dput hu (pe_var hN hv hd hcd) (tup_ask hj) he hs) fun Dn σ H ⟨G, S, rel, p⟩ => by
    have p : PostS c fr [i + 1000] G S σ H Dn (ownDit i S >>= fun z => f S >>= fun d => fa S >>= fun ys => putT i S z d ys) := p
    cases e0 : ownDit i S with
    | exc x => exact absurd e0 ownDit_exc
    | fail => rw [e0] at p; exact p.elim
    | ok z =>
      rw [e0, R.ok_bind] at p
      have hS := ownDit_of e0
      obtain ⟨l, ob, es, hg, h0, ho, ct⟩ := rel.ow i _ hS
      have ow : OwnAt S σ i l := ⟨⟨_, hS⟩, es⟩
      cases ct with
      | @dit _ _ vs hl r =>
        refine rdE_go (Post := PostS c fr [i + 1000] G S σ H Dn) rel p (fun _ z => z _) (fun z => z) fun d v G1 H1 s1 q1 p1 => ?_
        refine ⟨_, es, ?_⟩
        refine rdA_go (g := fun ys => putT i S z d ys) (Post := PostS c fr [i + 1000] G S σ H Dn) (rel.grow s1) p1 (fun _ z => z _) (fun z => z) fun ys ws G2 H2 s2 q2 p2 => ?_
        have q2 : RDs c.k G2 ys ws := q2
        unfold putT at p2
        cases hk : keysD ys with
        | none => rw [hk] at p2; exact p2.elim
        | some q =>
          rw [hk] at p2
          dsimp only at p2
          by_cases hc : ys.length ≤ sizeLine ∧ z.1.Nodup ∧ z.1.length < sizeLine
          · rw [if_pos hc] at p2
            refine ⟨by rw [← q2.length]; exact hc.1, fun t ht => ?_⟩
            have s3 : Step G2 H2 (upd G2 t (.tup ws)) (upd H2 t (.tup ws)) := Step.new s2.gh ht
            have sp := (s1.trans s2).trans s3
            have rel' := rel.grow sp
            obtain rfl := keysD_rd hk q2
            obtain ⟨vs', e1, r', l'⟩ := putL_zip (q := q) hc.2.1 hl (r.mono sp.g) (RD.mono (s2.trans s3).g q1)
            have hz : (z.1.zip vs).length < sizeLine := by rw [List.length_zip]; exact Nat.lt_of_le_of_lt (Nat.min_le_left _ _) hc.2.2
            refine ⟨l, _, rfl, .inr ⟨_, q, t, sp.h _ _ ho, rfl, upd_same, hz, rfl⟩, ?_⟩
            rw [e1]
            exact p2 _ σ _ sp.g (rel'.mut ow (.dit l' r')) ((Frm.step (as := []) rel sp).trans (Frm.mut rel' ow))
          · rw [if_neg hc] at p2; exact p2.elim
/-! ### a display with text keys -/
/-- the pairs of a display: the keys written, the values by fa -/
def PD' (X : Cx) (c : Cf) (pos : Pos) (keys : List (Option Expr)) (values : List Expr) (ks : List Str) (fa : FA) : Prop :=
  ∃ trs, PPs X pos keys values trs ∧ ∀ σ H (Q : List (V × V) → Hp → Prop), RdA c false fa σ H (fun vs H' => vs.length = ks.length ∧ Q ((ks.map fun k => V.str k).zip vs) H') → tPairs trs σ H Q
theorem d_pn : PD' X c pos [] [] [] aN := ⟨[], pps_nil, fun σ H Q ⟨G, S, rel, p⟩ => (p [] G H (Step.refl rel.st.gh) .nil).2⟩
theorem d_pc {kx : Str} {j} {kp : Pos} {v : Expr} {keys : List (Option Expr)} {values : List Expr} {ks : List Str} {fa : FA} (hv : PE' X c .st v f) (hr : PD' X c pos keys values ks fa) : PD' X c pos (some (.Constant (.str kx) j kp) :: keys) (v :: values) (kx :: ks) (aC f fa) := by
  obtain ⟨trs, h1, h2⟩ := hr
  refine ⟨_, pps_cons pe_str hv h1, fun σ H Q ⟨G, S, rel, p⟩ => ?_⟩
  show RdE c .st f σ H fun y H2 => tPairs trs σ H2 fun ps H3 => Q ((V.str kx, y) :: ps) H3
  refine rdE_go (g := fun x => do let xs ← fa S; .ok (x :: xs)) (Post := PostA c false G S σ H _) rel p (fun _ z => z) (fun z => z) fun d1 v1 G1 H1 s1 q1 p1 => ?_
  refine h2 σ H1 _ ?_
  refine rdA_go (g := fun xs => .ok (d1 :: xs)) (Post := PostA c false G S σ H _) (rel.grow s1) p1 (fun _ z => z) (fun z => z) fun d2 v2 G2 H2 s2 q2 p2 => ?_
  have z := p2 _ G2 H2 (s1.trans s2) (.cons (RD.mono s2.g q1) q2)
  exact ⟨by simpa using z.1, z.2⟩
def eDisp (ks : List Str) (fa : FA) : FE := fun S => fa S >>= fun ds => if ds.length = ks.length ∧ ks.Nodup ∧ ks.length ≤ 15 then .ok (.dic (ks.map .inr) ds) else .fail
theorem nodup_inr : ∀ {ks : List Str}, ks.Nodup → (ks.map (Sum.inr : Str → Key)).Nodup
  | [], _ => by simp
  | x :: ks, h => by
    obtain ⟨h1, h2⟩ := List.nodup_cons.mp h
    rw [List.map_cons, List.nodup_cons]
    exact ⟨fun hm => (by obtain ⟨y, hy, e⟩ := List.mem_map.mp hm; cases e; exact h1 hy), nodup_inr h2⟩
theorem merge_nodup {ks : List Key} {vs : List V} : ∀ {acc : List (Key × V)}, ks.Nodup → ks.length = vs.length → (∀ k ∈ ks, ∀ p ∈ acc, p.1 ≠ k) → mergeK acc (ks.zip vs) = acc ++ ks.zip vs := by
  induction ks generalizing vs with
  | nil => intro acc _ _ _; simp [mergeK]
  | cons k ks ih =>
    intro acc nd hl ha
    cases vs with
    | nil => simp at hl
    | cons v vs =>
      obtain ⟨n1, n2⟩ := List.nodup_cons.mp nd
      rw [List.zip_cons_cons]
      show mergeK (putK acc k v) (ks.zip vs) = _
      have e : putK acc k v = acc ++ [(k, v)] := by
        unfold putK
        rw [if_neg]
        simp only [List.any_eq_true, decide_eq_true_eq, not_exists, not_and]
        exact fun p hp => ha k (by simp) p hp
      rw [e, ih n2 (by simpa using hl)]
      · simp
      · intro k' hk' p hp
        rcases List.mem_append.mp hp with h | h
        · exact ha k' (by simp [hk']) p h
        · rw [List.mem_singleton] at h; subst h
          intro z
          subst z
          exact n1 hk'
theorem d_disp {keys : List (Option Expr)} {values : List Expr} {ks : List Str} {fa : FA} (h : PD' X c pos keys values ks fa) (hall : keys.all (·.isSome) = true := by rfl) (hl : keys.length = values.length := by rfl) (h0 : keys ≠ [] := by exact fun z => nomatch z) (h15 : keys.length ≤ 15 := by decide) :
    PE' X c .fr (.Dict keys values pos) (eDisp ks fa) := by
  obtain ⟨trs, h1, h2⟩ := h
  refine peI (pe_disp h1 hall hl h0 h15) fun σ H Q ⟨G, S, rel, p⟩ => ?_
  intro q hq
  have s0 : Step G H G (upd H q (.dK [])) := Step.new' rel.st.gh hq
  have hgq : G q = none := rel.st.gh.free hq
  refine h2 σ _ _ ?_
  refine rdA_go (g := fun ds => if ds.length = ks.length ∧ ks.Nodup ∧ ks.length ≤ 15 then .ok (D.dic (ks.map .inr) ds) else .fail) (Post := PostE c .fr G S σ H Q) (rel.grow s0) p (fun _ z => z) (fun z => z) fun ds vs G1 H1 s1 q1 p1 => ?_
  have q1 : RDs c.k G1 ds vs := q1
  by_cases hc : ds.length = ks.length ∧ ks.Nodup ∧ ks.length ≤ 15
  · rw [if_pos hc] at p1
    have hvl : vs.length = ks.length := by rw [← q1.length]; exact hc.1
    have hq1 : H1 q = some (.dK []) := s1.h _ _ upd_same
    refine ⟨hvl, hq1, (ks.map Sum.inr).zip vs, ?_, by rw [List.length_zip, List.length_map]; omega, ?_⟩
    · rw [List.zip_map_left, List.zip_map_left, List.map_map]; rfl
    · have nd2 : (ks.map (Sum.inr : Str → Key)).Nodup := nodup_inr hc.2.1
      rw [merge_nodup nd2 (by rw [List.length_map, hvl]) (fun _ _ p hp => by cases hp), List.nil_append]
      have hg1 : G1 q = none := by
        cases z : G1 q with
        | none => rfl
        | some u =>
          rcases s1.gr q u z with w | w
          · rw [hgq] at w; cases w
          · rw [upd_same] at w; cases w
      refine p1 _ G1 _ ⟨s1.g, fun b u hb => ?_, fun b u hb => ?_, fun b u hb => ?_⟩ ⟨q, _, rfl, hg1, hq, upd_same, .dic (by rw [List.length_map]; exact hc.1.symm) q1⟩
      · rw [upd_ne (ne_of_none hb hq)]; exact s1.h b u (by rw [upd_ne (ne_of_none hb hq)]; exact hb)
      · rw [upd_ne (ne_of_none hb hg1)]; exact s1.gh b u hb
      · rcases s1.gr b u hb with w | w
        · exact .inl w
        · right
          by_cases hbq : b = q
          · subst hbq; exact hq
          · rw [upd_ne hbq] at w; exact w
  · rw [if_neg hc] at p1; exact p1.elim
end
end M
set_option Elab.async false
set_option linter.all false
set_option maxRecDepth 100000
set_option maxHeartbeats 4000000
namespace M
open PySem PySem.Spec PyProof.Rows L2
/-! ### set(t), t a tuple: the update's loop over any kind of set -/
def titer (l : Addr) : Obj := { cls := .type "tuple_iterator", data := .fields #[.ref l, .int 0 0] }
def preSet (s : Shared) (w : World) : Shared := { s with heap := s.heap.push (freshSet w) }
def midSet (s : Shared) (w : World) (l : Addr) : Shared := { s with heap := (s.heap.push (freshSet w)).push (titer l) }
section
variable {P : Program} {w : World} {A : Around} {E : Value → Shared → Prop} {s : Shared}
theorem call_setT {l : Addr} {items : Array Value} {Q : Value → Shared → Prop} {Good : Heap → Prop} (hl : s.heap.IsTuple l items)
    (loop : ∀ R : Result → Shared → Prop, (∀ h' tk, Good h' → (∀ b o, s.heap.get? b = some o → h'.get? b = some o) → R (.ok (.ret .none)) { s with heap := h', toks := tk }) →
      codeAny (model P w) A.in1.in1 (.builtin "set.update.loop" ⟨[.ref s.heap.objs.size, .ref (s.heap.push (freshSet w)).objs.size], []⟩) R (midSet s w l))
    (fin : ∀ h' tk, Good h' → (∀ b o, s.heap.get? b = some o → h'.get? b = some o) → Q (.ref s.heap.objs.size) { s with heap := h', toks := tk }) :
    wpAny (model P w) A (call (.type "set") [.ref l]) Q E s := by
  obtain ⟨cq, tq, m1⟩ := F.called_set.mro
  have m2 := F.called_set.made
  have m3 := F.called_set.sub
  refine wpAny_call (codeAny_of_tree (?_ : wpAny _ _ (callAny (.type "set") _) _ _ _))
  refine wpAny_pure ⟨Code.quiet_builtin _ (by decide +kernel), codeAny_builtin F.entry_type_call ?_⟩
  rw [Around.under_plain (weight_type_call_type "set" [.ref l] []) rfl]
  have m4 := F.called_set.notType
  have m5 := F.called_set.canCreate
  have m6 := F.typeCall_set_1 (.ref l)
  repeat (any_goals (first | assumption | wp_step))
  refine codeAny_mono (code_set_led1 (.ref l) (E := E) (Q₁ := fun ob z => ob = .ref s.heap.objs.size ∧ z = preSet s w) ⟨rfl, rfl⟩) fun r z hr => ?_
  cases r with
  | error e => exact hr
  | ok fl =>
    cases fl with
    | ret ob =>
      obtain ⟨rfl, rfl⟩ := hr
      have g1 : (preSet s w).heap.get? s.heap.objs.size = some (freshSet w) := Heap.get?_push_size _ rfl
      have g2 : Shared.TypeIs (preSet s w) (.ref s.heap.objs.size) "set" := ⟨_, g1, rfl⟩
      have g3 := F.called_set.init.lookup
      have g4 := F.called_set.init.bind (.ref s.heap.objs.size)
      repeat (any_goals (first | assumption | wp_step))
      refine codeAny_mono (codeAny_call_builtin (R := wants (fun r y => r = .none ∧ ∃ h' tk, y = { s with heap := h', toks := tk } ∧ Good h' ∧ ∀ b o, s.heap.get? b = some o → h'.get? b = some o) E) F.called_set.init.plain F.entry_set_init (check_set_init_1 g2 ?_)) fun r2 y hr2 => ?_
      · obtain ⟨ol, e1, e2, nl, e3⟩ := hl
        obtain ⟨o1, o2, o3, o4⟩ := ol
        simp only at e2 e3
        subst e2; subst e3
        have e4 : (preSet s w).heap.get? l = some { cls := .type "tuple", dict := o2, data := .seq items nl, slots := o4 } := Heap.get?_push_of_some _ e1
        have q1 := F.sub_tuple_set
        have q2 := F.sub_tuple_frozenset
        have q3 : (Value.type "tuple" == Value.type "dict") = false := by decide
        have q4 : (preSet s w).heap.IsTuple l items := ⟨_, e4, rfl, nl, rfl⟩
        unfold Builtin.«set.__init__» noKeywords Builtin.Frozenset.updateFrom
        generalize hPI : pyIter = PI
        wp_walk
        subst hPI
        refine wpAny_pyIter_tuple q4 (wpAny_bind (wpAny_runValue ?_))
        refine loop _ fun h' tk hg hk => ?_
        show wpAny _ _ _ _ _ _
        refine wpAny_pure ?_
        show wpAny _ _ (ret Value.none) _ _ _
        exact wpAny_pure ⟨rfl, h', tk, rfl, hg, hk⟩
      · cases r2 with
        | error e => exact hr2
        | ok f2 =>
          cases f2 with
          | ret r =>
            obtain ⟨rfl, h', tk, rfl, hg, hk⟩ := hr2
            repeat (any_goals (first | assumption | wp_step))
            exact fin _ _ hg hk
          | _ => exact hr2.elim
    | _ => exact hr.elim
/-- a set of n items -/
def SetN (S : Addr) (n : Nat) (h : Heap) : Prop := ∃ o es ep t, h.get? S = some o ∧ o.ExactSet ∧ o.data = .set es ep t ∧ t.fits es.size = true ∧ es.size = n
def nubG {κ : Type} [DecidableEq κ] (ks : List κ) : List κ := ks.foldl (fun acc k => if k ∈ acc then acc else k :: acc) []
theorem nubG_fold {κ : Type} [DecidableEq κ] : ∀ (ks acc : List κ), acc.Nodup → (ks.foldl (fun acc k => if k ∈ acc then acc else k :: acc) acc).Nodup ∧ ∀ x, x ∈ ks.foldl (fun acc k => if k ∈ acc then acc else k :: acc) acc ↔ x ∈ acc ∨ x ∈ ks
  | [], acc, h => ⟨h, fun x => by simp⟩
  | k :: ks, acc, h => by
    rw [List.foldl_cons]
    by_cases hk : k ∈ acc
    · rw [if_pos hk]
      obtain ⟨h1, h2⟩ := nubG_fold ks acc h
      refine ⟨h1, fun x => ?_⟩
      rw [h2, List.mem_cons]
      constructor
      · rintro (a | a)
        · exact .inl a
        · exact .inr (.inr a)
      · rintro (a | a | a)
        · exact .inl a
        · subst a; exact .inl hk
        · exact .inr a
    · rw [if_neg hk]
      obtain ⟨h1, h2⟩ := nubG_fold ks (k :: acc) (List.nodup_cons.mpr ⟨hk, h⟩)
      refine ⟨h1, fun x => ?_⟩
      rw [h2, List.mem_cons, List.mem_cons]
      constructor
      · rintro ((a | a) | a)
        · exact .inr (.inl a)
        · exact .inl a
        · exact .inr (.inr a)
      · rintro (a | a | a)
        · exact .inl (.inr a)
        · exact .inl (.inl a)
        · exact .inr a
theorem nubG_nd {κ : Type} [DecidableEq κ] (ks : List κ) : (nubG ks).Nodup := (nubG_fold ks [] List.nodup_nil).1
theorem nubG_mem {κ : Type} [DecidableEq κ] (ks : List κ) (x : κ) : x ∈ nubG ks ↔ x ∈ ks := by
  have := (nubG_fold ks [] List.nodup_nil).2 x
  unfold nubG
  rw [this]; simp
theorem nd_len_le {κ : Type} [DecidableEq κ] : ∀ {a b : List κ}, a.Nodup → (∀ x ∈ a, x ∈ b) → a.length ≤ b.length
  | [], b, _, _ => by simp
  | x :: a, b, h, hs => by
    obtain ⟨h1, h2⟩ := List.nodup_cons.mp h
    have hx := hs x (by simp)
    have := nd_len_le (a := a) (b := b.erase x) h2 (fun y hy => (List.mem_erase_of_ne (fun e => h1 (by rw [← e]; exact hy))).mpr (hs y (by simp [hy])))
    rw [List.length_erase_of_mem hx] at this
    have hp : 0 < b.length := List.length_pos_of_mem hx
    rw [List.length_cons]; omega
theorem nub_len {κ : Type} [DecidableEq κ] {a ks : List κ} (h : a.Nodup) (hm : ∀ x, x ∈ a ↔ x ∈ ks) : a.length = (nubG ks).length :=
  Nat.le_antisymm (nd_len_le h fun x hx => (nubG_mem ks x).mpr ((hm x).mp hx)) (nd_len_le (nubG_nd ks) fun x hx => (hm x).mpr ((nubG_mem ks x).mp hx))
/-- what is walked, apart from the set -/
theorem apart {l : Addr} (hlt : l < s.heap.objs.size) : l ≠ (s.heap.push (freshSet w)).objs.size ∧ s.heap.objs.size ∉ [(s.heap.push (freshSet w)).objs.size, l] := by
  rw [Heap.size_push]
  refine ⟨Nat.ne_of_lt (Nat.lt_succ_of_lt hlt), ?_⟩
  simp only [List.mem_cons, List.not_mem_nil, or_false, not_or]
  exact ⟨Nat.ne_of_lt (Nat.lt_succ_self _), Nat.ne_of_gt hlt⟩
theorem kept_of {G : Array GenState → Array GenState → Prop} {s' : Shared} {l : Addr} (hm : Moved (s.heap.objs.size :: [(s.heap.push (freshSet w)).objs.size]) G (midSet s w l) s') : ∀ b o, s.heap.get? b = some o → s'.heap.get? b = some o := fun b o e => by
  have hb := Heap.lt_size e
  refine hm.heap b o ?_ (Heap.get?_push_of_some _ (Heap.get?_push_of_some _ e))
  rw [Heap.size_push]
  simp only [List.mem_cons, List.not_mem_nil, or_false, not_or]
  exact ⟨Nat.ne_of_lt hb, Nat.ne_of_lt (Nat.lt_succ_of_lt hb)⟩
theorem back_of {s' : Shared} {wr : List Addr} {l : Addr} (hm : Moved wr (fun a b => b = a) (midSet s w l) s') : s' = { s with heap := s'.heap, toks := s'.toks } := by
  obtain ⟨h', g', d', t', o'⟩ := s'
  have h1 : g' = s.gens := hm.gens
  have h2 : d' = s.drawn := hm.drawn
  have h3 : o' = s.os := hm.os
  subst h1; subst h2; subst h3; rfl
/-- of ints -/
theorem call_setTI {l : Addr} {items : Array Value} (ns : List Int) {Q : Value → Shared → Prop} (hh : A.handled = none) (hl : s.heap.IsTuple l items) (hit : IntsAre items.toList ns) (hb : ns.length + 1 < scanBound)
    (fin : ∀ h' tk, SetN s.heap.objs.size (nubG ns).length h' → (∀ b o, s.heap.get? b = some o → h'.get? b = some o) → Q (.ref s.heap.objs.size) { s with heap := h', toks := tk }) : wpAny (model P w) A (call (.type "set") [.ref l]) Q E s := by
  have hlt : l < s.heap.objs.size := by obtain ⟨o, ho, _⟩ := hl; exact Heap.lt_size ho
  obtain ⟨n1, n2⟩ := apart (w := w) hlt
  have hz : items.size = ns.length := by have := IntsAre.length hit; rwa [Array.length_toList] at this
  have g1 : (midSet s w l).heap.get? s.heap.objs.size = some (freshSet w) := Heap.get?_push_of_some _ (Heap.get?_push_size _ rfl)
  refine call_setT (Good := SetN s.heap.objs.size (nubG ns).length) hl (fun R hR => ?_) fin
  refine set_update_ints ((Walks.tuple (by simp [hh]) _ l n1 items).toS) s.heap.objs.size n2 ns hz hb (fun i v hv => ?_) items.size 0 _ (by omega) (Nat.zero_le _) ⟨⟨_, Heap.get?_push_size _ rfl, rfl, rfl⟩, ((hl.push _).push _)⟩ ⟨0, Nat.le_refl 0, setR_new_at g1⟩ fun s' c hm hc hS => ?_
  · have hi : i < ns.length := by rw [← hz]; exact (Array.getElem?_eq_some_iff.mp hv).1
    obtain ⟨t, e⟩ := IntsAre.int_at hit i v (by rw [Array.getElem?_toList]; exact hv)
    refine ⟨ns[i], t, List.getElem?_eq_getElem hi, ?_⟩
    rw [e, List.getD_eq_getElem?_getD, List.getElem?_eq_getElem hi]; rfl
  · rw [back_of hm]
    refine hR _ _ ?_ (kept_of hm)
    obtain ⟨o, es, ep, t, ho, hx, hd, _, hn, hmem, _, hf, hsz, _⟩ := hS
    refine ⟨o, es, ep, t, ho, hx, hd, hf, ?_⟩
    have := nub_len (a := es.toList.map L2.keyOf) (ks := ns) hn (fun x => by rw [← hmem x]; simp)
    rw [← this, List.length_map, Array.length_toList]
/-- of tuples of ints -/
theorem call_setTT {l : Addr} {items : Array Value} (ks : List (Addr × List Int)) {Q : Value → Shared → Prop} (hh : A.handled = none) (hl : s.heap.IsTuple l items) (hit : items.toList = ks.map fun p => Value.ref p.1) (hk : ∀ p ∈ ks, IsT P w s.heap p.2 p.1) (hf : ks.length < 64) (hu : A.units + 3 < cLine)
    (fin : ∀ h' tk, SetN s.heap.objs.size (nubG (ks.map (·.2))).length h' → (∀ b o, s.heap.get? b = some o → h'.get? b = some o) → Q (.ref s.heap.objs.size) { s with heap := h', toks := tk }) : wpAny (model P w) A (call (.type "set") [.ref l]) Q E s := by
  have hlt : l < s.heap.objs.size := by obtain ⟨o, ho, _⟩ := hl; exact Heap.lt_size ho
  obtain ⟨n1, n2⟩ := apart (w := w) hlt
  have hz : items.size = ks.length := by have := congrArg List.length hit; rwa [Array.length_toList, List.length_map] at this
  have g1 : (midSet s w l).heap.get? s.heap.objs.size = some (freshSet w) := Heap.get?_push_of_some _ (Heap.get?_push_size _ rfl)
  have free : ∀ b, s.heap.objs.size ≤ b → s.heap.get? b = none := fun b hb => by
    cases q : s.heap.get? b with
    | none => rfl
    | some o => exact absurd (Nat.lt_of_lt_of_le (Heap.lt_size q) hb) (Nat.lt_irrefl _)
  refine call_setT (Good := SetN s.heap.objs.size (nubG (ks.map (·.2))).length) hl (fun R hR => ?_) fin
  refine set_update_tups ((Walks.tuple (by simp [hh]) _ l n1 items).toS) s.heap.objs.size n2 ks hz hf (fun i v hv => ?_) s.heap hk (free _ (Nat.le_refl _)) (fun b hb => free b (by rw [List.mem_singleton.mp hb, Heap.size_push]; exact Nat.le_succ _)) (by simp only [Around.in1]; first | omega | exact (by omega)) items.size 0 _ (by omega) (Nat.zero_le _) ⟨⟨_, Heap.get?_push_size _ rfl, rfl, rfl⟩, ((hl.push _).push _)⟩ (fun b o e => Heap.get?_push_of_some _ (Heap.get?_push_of_some _ e)) ⟨[], _, _, _, setTR_fresh g1, Got.zero ks⟩ fun s' L es ep t hm hS hg _ => ?_
  · have q : items.toList[i]? = some v := by rw [Array.getElem?_toList]; exact hv
    rw [hit, List.getElem?_map] at q
    obtain ⟨p, hp, e⟩ := Option.map_eq_some_iff.mp q
    exact ⟨p, hp, e.symm⟩
  · rw [back_of hm]
    refine hR _ _ ?_ (kept_of hm)
    obtain ⟨o, ho, hx, hd⟩ := hS.ob
    refine ⟨o, es, ep, t, ho, hx, hd, hS.fits, ?_⟩
    rw [hS.size]
    have := nub_len (a := L.map (·.2)) (ks := ks.map (·.2)) hS.nd (fun x => ?_)
    · rw [← this, List.length_map]
    · constructor
      · intro h
        obtain ⟨p, hp, rfl⟩ := List.mem_map.mp h
        exact List.mem_map.mpr ⟨p, List.mem_of_mem_take (hg.sub p hp), rfl⟩
      · intro h
        obtain ⟨p, hp, rfl⟩ := List.mem_map.mp h
        exact hg.all p (by rw [hz, List.take_length]; exact hp)
/-! of texts -/
theorem nubG_snoc {κ : Type} [DecidableEq κ] (l : List κ) (x : κ) : (nubG (l ++ [x])).length = if x ∈ l then (nubG l).length else (nubG l).length + 1 := by
  have e : nubG (l ++ [x]) = if x ∈ nubG l then nubG l else x :: nubG l := by unfold nubG; rw [List.foldl_append]; rfl
  rw [e]
  by_cases h : x ∈ l
  · rw [if_pos ((nubG_mem l x).mpr h), if_pos h]
  · rw [if_neg (fun q => h ((nubG_mem l x).mp q)), if_neg h]; rfl
theorem loopTx {I : Addr} {fp wr : List Addr} {G : Array GenState → Array GenState → Prop} {n : Nat} {Pv : Nat → Value → Prop} {St : Nat → Shared → Prop} {R : Result → Shared → Prop}
    (W : WalksS P w A.in1 I fp wr G n Pv St) (S : Addr) (hSf : S ∉ fp) (xs : List Str) (hn : n = xs.length) (hb : xs.length + 1 < scanBound) (hval : ∀ i v, Pv i v → ∃ x t, xs[i]? = some x ∧ v = .str x t) :
    ∀ (k i : Nat) (s : Shared), n - i = k → i ≤ n → St i s → s.heap.SetOf (PySem.strKind P w) S (fun q => decide (q ∈ xs.take i)) (nubG (xs.take i)).length →
      (∀ z, Moved (S :: wr) G s z → z.heap.SetOf (PySem.strKind P w) S (fun q => decide (q ∈ xs)) (nubG xs).length → R (.ok (.ret .none)) z) → codeAny (model P w) A (.builtin "set.update.loop" ⟨[.ref S, .ref I], []⟩) R s := by
  have o1 : S ∉ wr := fun h => hSf (W.sub _ h)
  have o2 : ∀ b ∈ wr, b ∈ S :: wr := fun b hb => List.mem_cons_of_mem _ hb
  have stay : ∀ {s s' : Shared} {f : Str → Bool} {c : Nat}, Moved wr G s s' → s.heap.SetOf (PySem.strKind P w) S f c → s'.heap.SetOf (PySem.strKind P w) S f c := fun hm hS => by
    obtain ⟨o, es, ep, t, ho, rest⟩ := hS
    exact ⟨o, es, ep, t, hm.heap S _ o1 ho, rest⟩
  intro k
  induction k with
  | zero =>
    intro i s hk hi hst hS hR
    obtain rfl : i = n := by omega
    refine codeAny_builtin PyProof.Rows.F.entry_set_update_loop ?_
    rw [Around.under_plainId PyProof.Rows.F.plain_set_update_loop _]
    refine (wpAny_bind (W.done s _ _ hst fun z hm => ?_) : wpAny _ A.in1 (pyNext (.ref I) >>= _) _ _ s)
    rw [hn, List.take_length] at hS
    show wpAny _ A.in1 (ret .none) _ _ z
    exact wpAny_pure (hR z (hm.mono o2) (stay hm hS))
  | succ k ih =>
    intro i s hk hi hst hS hR
    have hlt : i < n := by omega
    refine codeAny_builtin PyProof.Rows.F.entry_set_update_loop ?_
    rw [Around.under_plainId PyProof.Rows.F.plain_set_update_loop _]
    refine (wpAny_bind (W.item i s _ _ hlt hst fun v z hP hst' hm => ?_) : wpAny _ A.in1 (pyNext (.ref I) >>= _) _ _ s)
    obtain ⟨x, t, hx, rfl⟩ := hval i v hP
    have hS' := stay hm hS
    have tk : xs.take (i + 1) = xs.take i ++ [x] := by rw [List.take_add_one, hx]; rfl
    have cnt : (nubG (xs.take i)).length ≤ i := by
      have := nd_len_le (nubG_nd (xs.take i)) (fun y hy => (nubG_mem _ y).mp hy)
      rw [List.length_take] at this
      omega
    refine (wpAny_bind (wpAny_holding ?_) : wpAny _ A.in1 (holding [Value.str x t] (setAdd S (.str x t)) >>= _) _ _ z)
    unfold setAdd
    refine wpAny_holding (wpAny_bind ((PySem.strKind P w).pyHash (k := x) (strKind_is _ _ _ _) ?_))
    refine wpAny_setAddHashed_of (knd := PySem.strKind P w) (s := { z with toks := z.toks + 1 }) (strKind_is _ _ _ _) rfl hS' (by omega) fun h' hsb hS2 => ?_
    have hS3 : h'.SetOf (PySem.strKind P w) S (fun q => decide (q ∈ xs.take (i + 1))) (nubG (xs.take (i + 1))).length := by
      refine SetOf_congr hS2 (fun q => ?_) ?_
      · rw [tk]
        simp only [List.mem_append, List.mem_singleton]
        by_cases q1 : q ∈ xs.take i <;> by_cases q2 : q = x <;> simp [q1, q2]
      · rw [tk, nubG_snoc]
        by_cases q1 : x ∈ xs.take i <;> simp [q1]
    refine wpAny_pure ⟨plainId_quiet PyProof.Rows.F.plain_set_update_loop _, ih (i + 1) _ (by omega) hlt (W.frame _ z _ _ hst' (Nat.le_succ _) fun b hb o e => ?_) hS3 fun y hy hq => ?_⟩
    · rw [hsb.2 b (fun q : b = S => hSf (by rw [← q]; exact hb))]; exact e
    · refine hR y (Moved.trans W.gtrans ((hm.mono o2).then_heap (Nat.le_succ _) fun b o hb e => ?_) hy) hq
      rw [hsb.2 b (fun q : b = S => hb (by rw [q]; exact List.mem_cons_self))]; exact e
theorem call_setTS {l : Addr} {items : Array Value} (xs : List Str) {Q : Value → Shared → Prop} (hh : A.handled = none) (hl : s.heap.IsTuple l items) (hit : Vals (xs.map V.str) items.toList) (hb : xs.length + 1 < scanBound)
    (fin : ∀ h' tk, SetN s.heap.objs.size (nubG xs).length h' → (∀ b o, s.heap.get? b = some o → h'.get? b = some o) → Q (.ref s.heap.objs.size) { s with heap := h', toks := tk }) : wpAny (model P w) A (call (.type "set") [.ref l]) Q E s := by
  have hlt : l < s.heap.objs.size := by obtain ⟨o, ho, _⟩ := hl; exact Heap.lt_size ho
  obtain ⟨n1, n2⟩ := apart (w := w) hlt
  have hz : items.size = xs.length := by have := hit.length; rw [List.length_map, Array.length_toList] at this; exact this.symm
  have g1 : (midSet s w l).heap.get? s.heap.objs.size = some (freshSet w) := Heap.get?_push_of_some _ (Heap.get?_push_size _ rfl)
  have at_ : ∀ {xs : List Str} {us : List Value}, Vals (xs.map V.str) us → ∀ (i : Nat) (v : Value), us[i]? = some v → ∃ x t, xs[i]? = some x ∧ v = .str x t := by
    intro xs
    induction xs with
    | nil => intro us h i v hv; cases h; simp at hv
    | cons x xs ih =>
      intro us h i v hv
      cases h with
      | cons r rs =>
        obtain ⟨t, rfl⟩ := r
        cases i with
        | zero => simp at hv; subst hv; exact ⟨x, t, rfl, rfl⟩
        | succ i => exact ih rs i v (by simpa using hv)
  refine call_setT (Good := SetN s.heap.objs.size (nubG xs).length) hl (fun R hR => ?_) fin
  refine loopTx ((Walks.tuple (by simp [hh]) _ l n1 items).toS) s.heap.objs.size n2 xs hz hb (fun i v hv => at_ hit i v (by rw [Array.getElem?_toList]; exact hv)) items.size 0 _ (by omega) (Nat.zero_le _) ⟨⟨_, Heap.get?_push_size _ rfl, rfl, rfl⟩, ((hl.push _).push _)⟩ ⟨freshSet w, #[], 0, _, g1, ⟨rfl, rfl, rfl⟩, rfl, (fun e he => by simp at he), by simp, by decide, rfl, rfl⟩ fun s' hm hS => ?_
  rw [back_of hm]
  refine hR _ _ ?_ (kept_of hm)
  obtain ⟨o, es, ep, t, ho, hx, hd, _, _, _, hf, hsz⟩ := hS
  exact ⟨o, es, ep, t, ho, hx, hd, hf, hsz⟩
end
/-! ### len(set(t)) -/
section
variable {X : Cx} {c : Cf} {k1 : Kd} {e : Expr} {f : FE} {pos p p2 q : Pos} {k : Kn}
def SetLen (K : PySem.W.Frag) (H : Hp) (l : Addr) (n : Nat) : Prop :=
  (∃ ns : List Int, SqT K H l (ns.map V.int) ∧ ns.length ≤ 1000 ∧ n = (nubG ns).length) ∨ (∃ ks : List (Addr × List Int), SqT K H l (ks.map fun p => V.ref p.1) ∧ (∀ p ∈ ks, SqT K H p.1 (p.2.map V.int)) ∧ ks.length < 64 ∧ n = (nubG (ks.map (·.2))).length) ∨
  ∃ xs : List Str, SqT K H l (xs.map V.str) ∧ xs.length ≤ 1000 ∧ n = (nubG xs).length
theorem refs_vals : ∀ {as : List Addr} {us : List Value}, Vals (as.map V.ref) us → us = as.map Value.ref
  | [], _, .nil => rfl
  | a :: as, _, .cons r rs => by rw [refs_vals rs]; cases r; rfl
theorem pe_lenSetG {a : Expr} {ta : TE} (hc : X.calm = true) (hu : X.A.units + 64 < cLine) (hm : X.mg "len" = none) (hm2 : X.mg "set" = none) (ha : PE X a ta) (hg : Gl X "len") (hg2 : Gl X "set") (na : starEach [a] X.env = (false, eval a X.env) :: starEach [] X.env) :
    PE X (.Call (.Name "len" p) [.Call (.Name "set" p2) [a] [] q] [] pos) (fun σ H Q => ta σ H fun x H1 => ∃ l n, x = .ref l ∧ SetLen X.K H1 l n ∧ Q (.int n) H1) := by
  refine ⟨fun pins s σ H Q I h => ?_⟩
  refine Call_ (ld_blt I hg hm PySem.boot_len (PyProof.Rows.callWith_builtin1 (PyProof.Rows.args_cons (Call_ (ld_blt I hg2 hm2 PyProof.Rows.boot_set ?_)) rfl) rfl rfl))
  refine PyProof.Rows.callWith_type1 (PyProof.Rows.args_cons (thn (ha.run pins s σ H _ I h) fun v s1 ⟨x, H1, I1, r1, l, n, ex, hq, q1⟩ => PyProof.Rows.args_nil ?_) na) na rfl
  subst ex
  cases r1
  have fin : ∀ (h' : Heap) (tk : Nat), SetN s1.heap.objs.size n h' → (∀ b o, s1.heap.get? b = some o → h'.get? b = some o) →
      wpAny (model X.prog X.w) X.A (spliced (backTo pos (starEach [] X.env))) (fun vs z => wpAny (model X.prog X.w) X.A (call (.builtin "len") (Value.ref s1.heap.objs.size :: vs)) (EP X pins σ Q) X.xe z) X.xe { s1 with heap := h', toks := tk } := fun h' tk hS hk => by
    refine PyProof.Rows.args_nil ?_
    obtain ⟨o, es, ep, t, ho, hx, hd, hf, hsz⟩ := hS
    have I2 : L2.Inv X pins σ H1 { s1 with heap := h', toks := tk } := I1.kept hk
    have hfit : (es.size : Int) < 2 ^ 63 := by
      have : es.size ≤ 1000 := by
        rw [hsz]
        rcases hq with ⟨ns, _, h1, e1⟩ | ⟨ks, _, _, h1, e1⟩ | ⟨xs, _, h1, e1⟩
        · rw [e1]; exact Nat.le_trans (nd_len_le (nubG_nd ns) fun y hy => (nubG_mem _ y).mp hy) h1
        · rw [e1]; exact Nat.le_trans (nd_len_le (nubG_nd _) fun y hy => (nubG_mem _ y).mp hy) (by rw [List.length_map]; omega)
        · rw [e1]; exact Nat.le_trans (nd_len_le (nubG_nd xs) fun y hy => (nubG_mem _ y).mp hy) h1
      omega
    exact call_len_set ho hx hd hf hfit ⟨.int n, H1, I2.tok _, ⟨_, by rw [hsz]⟩, q1⟩
  have hsb : (1003 : Nat) < scanBound := by decide
  rcases hq with ⟨ns, hT, hl, rfl⟩ | ⟨ks, hT, hk, hl, rfl⟩ | ⟨xs, hT, hl, rfl⟩
  · obtain ⟨its, r, ⟨o, h1, h2, m, h3⟩, _⟩ := I1.tuple hT
    exact call_setTI ns (I1.ok.hd hc) ⟨o, h1, h2, m, h3⟩ (by simpa using r.ints) (by omega) fin
  · obtain ⟨its, r, ⟨o, h1, h2, m, h3⟩, _⟩ := I1.tuple hT
    refine call_setTT ks (I1.ok.hd hc) ⟨o, h1, h2, m, h3⟩ ?_ (fun p hp => I1.isT (hk p hp)) hl (by omega) fin
    have := refs_vals (as := ks.map (·.1)) (by rw [List.map_map]; exact r)
    rw [List.map_map] at this
    exact (by simpa using this : its = ks.map (Value.ref ∘ fun x => x.1))
  · obtain ⟨its, r, ⟨o, h1, h2, m, h3⟩, _⟩ := I1.tuple hT
    exact call_setTS xs (I1.ok.hd hc) ⟨o, h1, h2, m, h3⟩ (by simpa using r) (by omega) fin
def lenSetD : D → R D
  | .tup ds => match asI ds with
    | some ns => if ns.length ≤ 1000 then .ok (.int (nubG ns).length) else .fail
    | none => match asTs ds with
      | some ks => if ks.length < 60 then .ok (.int (nubG ks).length) else .fail
      | none => match asS ds with
        | some xs => if xs.length ≤ 1000 then .ok (.int (nubG xs).length) else .fail
        | none => .fail
  | _ => .fail
theorem asTs_rds {G : Hp} : ∀ {ds : List D} {vs : List V} {ks : List (List Int)}, RDs k G ds vs → asTs ds = some ks → ∃ ps : List (Addr × List Int), vs = ps.map (fun p => V.ref p.1) ∧ ps.map (·.2) = ks ∧ ∀ p ∈ ps, SqU k.K G p.1 (p.2.map V.int)
  | _, _, ks, .nil, h => by cases h; exact ⟨[], rfl, rfl, by simp⟩
  | d :: ds, _, ks, .cons a b, h => by
    simp only [asTs] at h
    split at h
    · rename_i x xs h1 h2
      cases h
      obtain ⟨ad, rfl, hs⟩ := RD.asT a h1
      obtain ⟨ps, rfl, rfl, hp⟩ := asTs_rds b h2
      refine ⟨(ad, x) :: ps, rfl, rfl, fun p hp' => ?_⟩
      rcases List.mem_cons.mp hp' with rfl | hp'
      · exact hs
      · exact hp p hp'
    · cases h
theorem d_lenSet (hk : c.k.K = X.K) (hc : X.calm = true) (hu : X.A.units + 64 < cLine) (hm : X.mg "len" = none) (hm2 : X.mg "set" = none) (he : PE' X c k1 e f) (hg : Gl X "len" := by rfl) (hg2 : Gl X "set" := by rfl) (na : starEach [e] X.env = (false, eval e X.env) :: starEach [] X.env := by rfl) :
    PE' X c .st (.Call (.Name "len" p) [.Call (.Name "set" p2) [e] [] q] [] pos) (e1 lenSetD f) :=
  peI (pe_lenSetG hc hu hm hm2 he hg hg2 na) fun σ H Q z => e1_go (r := fun x H1 Q => ∃ l n, x = .ref l ∧ SetLen X.K H1 l n ∧ Q (.int n) H1) (fun G H x u d ex n hg Q p => by
    cases x with
    | tup ds =>
      obtain ⟨ad, vs, rfl, ha, r⟩ := n.tup
      have ha' : SqT X.K H ad vs := hk ▸ ex.sqT ha.t
      simp only [lenSetD] at hg
      split at hg
      · rename_i ns hn
        split at hg
        · rename_i hl
          cases hg
          have := asI_of r hn; subst this
          exact ⟨ad, _, rfl, .inl ⟨ns, ha', hl, rfl⟩, p _ G H (Step.refl ex) (.int _)⟩
        · cases hg
      · split at hg
        · rename_i ks hn
          split at hg
          · rename_i hl
            cases hg
            obtain ⟨ps, rfl, rfl, hp⟩ := asTs_rds r hn
            rw [List.length_map] at hl
            exact ⟨ad, _, rfl, .inr (.inl ⟨ps, ha', fun q hq => hk ▸ ex.sqT (hp q hq).t, by omega, rfl⟩), p _ G H (Step.refl ex) (.int _)⟩
          · cases hg
        · split at hg
          · rename_i xs hn
            split at hg
            · rename_i hl
              cases hg
              have := asS_of r hn; subst this
              exact ⟨ad, _, rfl, .inr (.inr ⟨xs, ha', hl, rfl⟩), p _ G H (Step.refl ex) (.int _)⟩
            · cases hg
          · cases hg
    | _ => simp [lenSetD] at hg) z
end
end M
set_option Elab.async false
set_option linter.all false
set_option maxRecDepth 100000
set_option maxHeartbeats 4000000
namespace M
open PySem L2
/-! ### sets of ints and texts -/
section
instance lawK : LawfulBEq Key where
  eq_of_beq := by
    intro a b h
    cases a with
    | inl x => cases b with
      | inl y => exact congrArg Sum.inl (by simpa using (show (x == y) = true from h))
      | inr y => cases h
    | inr x => cases b with
      | inl y => cases h
      | inr y => exact congrArg Sum.inr (by simpa using (show (x == y) = true from h))
  rfl := by
    intro a
    cases a with
    | inl x => show (x == x) = true; simp
    | inr x => show (x == x) = true; simp
theorem scan_ok {n : Nat} (h : n ≤ 1000) : n + 1 < scanBound := by
  have : (1003 : Nat) < scanBound := by decide
  omega
def kset (P : Program) (w : World) (t : List Key) (a : Addr) : HO := SetK P w a (fun q => decide (q ∈ t)) t.length
def nubK (acc : List Key) (k : Key) : List Key := if k ∈ acc then acc else k :: acc
theorem nubG_eq (ks : List Key) : nubG ks = ks.foldl nubK [] := by
  unfold nubG
  congr
  funext acc k
  unfold nubK
  by_cases h : k ∈ acc
  · rw [if_pos h, if_pos h]
  · rw [if_neg h, if_neg h]
def famK (P : Program) (w : World) (K : PySem.W.Frag) : Fam P w K (List Key) Key where
  ob := fun t a => kset P w t a
  t0 := []
  pre := fun t y k H => y = kV k ∧ t.length + 1 < scanBound
  post := fun t y k t' => t' = if k ∈ t then t else k :: t
  new := fun H h a e => setK_new ⟨freshSet w, #[], 0, _, e, ⟨rfl, rfl, rfl⟩, rfl, (fun e he => by simp at he), by simp, by decide, rfl, rfl⟩
  add := by
    intro X hP hw hK hu pins s σ H S t y k u Q E I hS ry hp hq
    subst hP hw hK
    obtain ⟨rfl, h2⟩ := hp
    have R := setK_get I hS
    refine call_set_add (knd := mixKind X.prog X.w) (kV_is ry) (key_scan ry) R h2 fun h' sb R' => ?_
    refine hq _ _ rfl (I.write (e := S) (by rw [hS]; trivial) (.inl rfl) (fun b u hb hu => (sb.2 b hb).trans hu) (by obtain ⟨o, _, _, _, ho, _⟩ := R'; exact ⟨o, ho⟩) (setK_new (PyProof.Rows.SetOf_congr R' (fun q => ?_) ?_)))
    · by_cases h : k ∈ t
      · rw [if_pos h]
        by_cases q1 : q ∈ t
        · simp [q1]
        · have : q ≠ k := fun e => q1 (by rw [e]; exact h)
          simp [q1, this]
      · rw [if_neg h]
        by_cases q1 : q ∈ t <;> by_cases q2 : q = k <;> simp [q1, q2]
    · by_cases h : k ∈ t <;> simp [h]
theorem call_lenK {X : Cx} : CallR X (.builtin "len") (fun xs H Q => ∃ a L, xs = [V.ref a] ∧ H a = some (kset X.prog X.w L a) ∧ Q (.int L.length) H) := by
  intro pins s σ H xs us Q I r h
  obtain ⟨a, L, rfl, ha, q⟩ := h
  rw [Vals.ref1 r]
  obtain ⟨o, es, ep, t, ho, hx, hd, _, _, hb, hf, hsz⟩ := setK_get I ha
  have hs : (scanBound : Int) < 2 ^ 63 := by decide
  exact call_len_set ho hx hd hf (by omega) ⟨.int L.length, H, I.tok _, ⟨_, by rw [hsz]⟩, q⟩
/-- len({elt for ..}), the elements ints or texts -/
def lenScK (fi : FI) (ga : FG) (t : FT) (fe : FE) (vs : List Nat) : FE := fun S => fi S >>= fun ds => if ds.length < 60 then lcF ga t fe (wipeS S vs) ds >>= fun ys => (match keysD ys with
  | some ks => .ok (.int (nubG ks).length)
  | none => .fail) else .fail
theorem lenScK_go {X : Cx} {c : Cf} {t : FT} {ki gs vs : List Nat} {fi : FI} {ga : FG} {fe : FE} {σ : L2.St} {H : Hp} {Q : VK} {gi : TG} {tt : TT} {te : TE} (hk : c.k.K = X.K) (hg : ∀ v σ H Q, RdG c.nx gs ga v σ H Q → gi v σ H Q) (ht : ∀ σ H Q, RdT c.nx t σ H Q → tt σ H Q) (he : ∀ σ H Q, RdE c.nx .st fe σ H Q → te σ H Q)
    (hgs : ∀ i, i ∈ gs → i ∈ vs) (q : RdE c .st (lenScK fi ga t fe vs) σ H Q) :
    tScG (famK X.prog X.w X.K) (RdI c ki fi) gi tt te vs σ H fun v H1 => ∃ a L, [v] = [V.ref a] ∧ H1 a = some (kset X.prog X.w L a) ∧ Q (.int L.length) H1 := by
  obtain ⟨G, S, rel, p⟩ := q
  refine ⟨G, S, rel, ?_⟩
  have p : PostE c .st G S σ H Q (fi S >>= fun ds => if ds.length < 60 then lcF ga t fe (wipeS S vs) ds >>= fun ys => (match keysD ys with
    | some ks => .ok (.int (nubG ks).length)
    | none => .fail) else .fail) := p
  cases e0 : fi S with
  | exc x => rw [e0] at p; exact p
  | fail => rw [e0] at p; exact p
  | ok ds =>
    rw [e0, R.ok_bind] at p
    by_cases hz : ds.length < 60
    · rw [if_pos hz] at p
      intro J G1 H1 sp it Dl hD
      have relb := ((rel.grow sp).wipe vs).cw (W := liftX E0)
      refine ⟨fun i m H2 => m = ds.length - i ∧ i ≤ ds.length ∧ ∃ G2 ac, Step G1 H1 G2 H2 ∧ G2 Dl = none ∧ H2 Dl = some (kset X.prog X.w ac Dl) ∧ ac.length ≤ i ∧
          PostE c .st G S σ H Q (lcF ga t fe (wipeS S vs) (ds.drop i) >>= fun ys => (match keysD ys with
            | some ks => .ok (.int (ks.foldl nubK ac).length)
            | none => .fail)),
        ⟨_, rfl, Nat.zero_le _, G1, [], Step.new' sp.gh hD, sp.gh.free hD, upd_same, Nat.zero_le _, by simpa [nubG_eq] using p⟩, ?_⟩
      rintro i m H2 ⟨rfl, hle, G2, ac, sp2, hGD, hHD, hal, p2⟩
      have rel2 : Rel c.nx G2 (wipeS S vs) (L2.wipe σ vs) H2 := relb.grow sp2
      have itm := it G2 H2 sp2.g sp2.gh fun j hj x ow => by
        obtain ⟨_, _, o, _, ho, _⟩ := (rel.grow sp).own ow
        rw [ho, sp2.h _ _ ho]
      have nD : ∀ {G6 H6 : Hp}, Step G2 H2 G6 H6 → G6 Dl = none ∧ H6 Dl = some (kset X.prog X.w ac Dl) := fun {G6 H6} z => by
        refine ⟨?_, z.h _ _ hHD⟩
        cases q : G6 Dl with
        | none => rfl
        | some o =>
          rcases z.gr _ _ q with w | w
          · rw [hGD] at w; cases w
          · rw [hHD] at w; cases w
      by_cases hlt : i < ds.length
      · obtain ⟨d, hd⟩ : ∃ d, ds[i]? = some d := ⟨ds[i], List.getElem?_eq_getElem hlt⟩
        have hdrop : ds.drop i = d :: ds.drop (i + 1) := by
          rw [List.drop_eq_getElem_cons hlt]; congr 1; rw [List.getElem?_eq_getElem hlt] at hd; exact Option.some.inj hd
        rw [hdrop] at p2
        obtain ⟨hgo, hy⟩ := itm.2 i d hd
        refine .inr ⟨hgo, fun H' => ∃ G3 ac, Step G1 H1 G3 H' ∧ G3 Dl = none ∧ H' Dl = some (kset X.prog X.w ac Dl) ∧ ac.length ≤ i + 1 ∧
          PostE c .st G S σ H Q (lcF ga t fe (wipeS S vs) (ds.drop (i + 1)) >>= fun ys => (match keysD ys with
            | some ks => .ok (.int (ks.foldl nubK ac).length)
            | none => .fail)), fun H' ⟨G3, r3⟩ => ⟨_, by omega, rfl, hlt, G3, r3⟩, fun x H3 hx => ?_⟩
        obtain ⟨G3, sp3, hd3⟩ := hy x H3 hx
        refine hg x _ H3 _ ⟨G3, wipeS S vs, d, rel2.grow sp3, hd3, ?_⟩
        unfold lcF at p2
        cases e1 : ga d (wipeS S vs) with
        | exc x => rw [e1] at p2; exact p2.elim
        | fail => rw [e1] at p2; exact p2.elim
        | ok S1 =>
          rw [e1, R.nox_ok, R.ok_bind] at p2
          intro G4 σ4 H4 sp4 rel4 f4
          refine ⟨wipe_eq (by rw [f4.len, wipe_length]) fun j hj => f4.sg j fun z => hj (hgs j z), ht σ4 H4 _ ⟨G4, S1, rel4, ?_⟩⟩
          cases e2 : t S1 with
          | exc x => rw [e2] at p2; exact p2.elim
          | fail => rw [e2] at p2; exact p2.elim
          | ok b =>
            rw [e2, R.nox_ok, R.ok_bind] at p2
            intro G5 H5 sp5
            have spA : Step G2 H2 G5 H5 := (sp3.trans sp4).trans sp5
            cases b with
            | false =>
              rw [if_neg Bool.false_ne_true] at p2 ⊢
              exact ⟨G5, ac, sp2.trans spA, (nD spA).1, (nD spA).2, by omega, p2⟩
            | true =>
              rw [if_pos rfl] at p2 ⊢
              refine he σ4 H5 _ ⟨G5, S1, rel4.grow sp5, ?_⟩
              cases e3 : fe S1 with
              | exc x => rw [e3] at p2; exact p2.elim
              | fail => rw [e3] at p2; exact p2.elim
              | ok y =>
                rw [e3, R.nox_ok, R.ok_bind] at p2
                intro v G6 H6 sp6 hv
                have hv : RD c.k G6 y v := hv
                have spB := spA.trans sp6
                cases e4 : lcF ga t fe (wipeS S vs) (ds.drop (i + 1)) with
                | exc x => exact absurd e4 (lcF_exc _)
                | fail => rw [e4] at p2; exact p2.elim
                | ok ys =>
                  rw [e4] at p2
                  have p2 : PostE c .st G S σ H Q (match keysD (y :: ys) with
                    | some ks => .ok (.int (ks.foldl nubK ac).length)
                    | none => .fail) := p2
                  simp only [keysD] at p2
                  cases ek : keyD y with
                  | none => rw [ek] at p2; exact p2.elim
                  | some kk =>
                    cases es : keysD ys with
                    | none => rw [ek, es] at p2; exact p2.elim
                    | some ks =>
                      rw [ek, es] at p2
                      obtain rfl := keyD_rd ek hv
                      refine ⟨ac, kk, (nD spB).2, ⟨rfl, scan_ok (by omega)⟩, ?_⟩
                      rintro L' rfl
                      have spC : ∀ L' : List Key, Step G1 H1 G6 (upd H6 Dl (kset X.prog X.w L' Dl)) := fun L' => by
                        have z := sp2.trans spB
                        exact ⟨z.g, z.h.upd hD, z.gh.upd (nD spB).1, z.gr⟩
                      by_cases hm : kk ∈ ac
                      · rw [if_pos hm]
                        refine ⟨G6, ac, spC ac, (nD spB).1, upd_same, by omega, ?_⟩
                        rw [R.ok_bind, es]
                        simpa only [List.foldl_cons, nubK, if_pos hm] using p2
                      · rw [if_neg hm]
                        refine ⟨G6, kk :: ac, spC _, (nD spB).1, upd_same, by simp only [List.length_cons]; omega, ?_⟩
                        rw [R.ok_bind, es]
                        simpa only [List.foldl_cons, nubK, if_neg hm] using p2
      · have hi : i = ds.length := by omega
        subst hi
        rw [List.drop_length] at p2
        refine .inl ⟨itm.1 _ (Nat.le_refl _), Dl, ac, rfl, hHD, ?_⟩
        have p2 : PostE c .st G S σ H Q (.ok (.int ac.length)) := p2
        exact p2 _ G2 H2 (sp.trans sp2) (.int _)
    · rw [if_neg hz] at p; exact p.elim
/-- len({elt for target in iter if ..}) -/
theorem d_lenScK {X : Cx} {c : Cf} {t : FT} {tg elt iter : Expr} {ifs : List Expr} {scope : Scope} {p1 p2 pos : Pos} {x : Str} (own : List (Str × Nat)) {ki gs : List Nat} {fi : FI} {ga : FG} {fe : FE} (hk : c.k.K = X.K) (hu : X.A.units + 64 < cLine) (hm : X.mg x = none) (hc : X.calm = true) (hN : X.N.Nodup) (hi : PI' X c ki tg iter fi) (ok : BlkOk X.N X.env.scope scope own)
    (hg : ∀ (s : Shared) (H : Hp) (C : Addr) (cl : List (Str × Addr)) (fp : List Addr), PG' (X.blk s H scope (compEnvC scope cl C X.env) fp) c.nx gs tg ga) (ht : ∀ (s : Shared) (H : Hp) (C : Addr) (cl : List (Str × Addr)) (fp : List Addr), PTs' (X.blk s H scope (compEnvC scope cl C X.env) fp) c.nx ifs t)
    (he : ∀ (s : Shared) (H : Hp) (C : Addr) (cl : List (Str × Addr)) (fp : List Addr), PE' (X.blk s H scope (compEnvC scope cl C X.env) fp) c.nx .st elt fe) (hgs : ∀ i, i ∈ gs → i ∈ own.map (·.2) := by decide) (hs : ∀ x, foldedSetIterable iter X.env x = pure x := by intro _; rfl)
    (hv : bootBuiltins x = some (.builtin "len") := by decide +kernel) (hgl : Gl X x := by rfl) (hn : x ≠ "__name__" := by decide) (hdb : (x == ("__debug__" : Str)) = false := by decide) :
    PE' X c .st (.Call (.Name x p1) [.SetComp elt [⟨tg, iter, ifs, 0⟩] scope p2] [] pos) (lenScK fi ga t fe (own.map (·.2))) :=
  peI (pe_callB call_lenK hgl hm hv (pa_cons (pe_scG (famK X.prog X.w X.K) hu hc hN hi ok hg ht he hs) pa_nil rfl) hn hdb rfl rfl) fun σ H Q q => lenScK_go hk (fun _ _ _ _ z => z) (fun _ _ _ z => z) (fun _ _ _ z => z) hgs q
end
end M
set_option Elab.async false
set_option linter.all false
set_option maxRecDepth 100000
set_option maxHeartbeats 4000000
namespace M
open PySem L2 PySem.W PyProof.Rows
section
variable {prog : Program} {w : World} {A : Around} {E : Value → Shared → Prop} {s : Shared} {a kS : Addr} {b : Bool} {vs : List Value} {e1 : Nat} {P : PySem.Fin → Shared → Prop}
/-- the calls of the key, under any invariant -/
theorem kg_rest {f : Value} (J : Nat → Array Value → Nat → Shared → Prop) (h0 : J 0 #[] 0 s) (hZ : vs.length ≤ sizeLine)
    (at' : ∀ i ks e s', J i ks e s' → s'.heap.get? kS = some (seqObj "list" ks e) ∧ ks.size = i)
    (turn : ∀ i v ks e s', vs[i]? = some v → J i ks e s' → wpAny (model prog w) A (call f [v]) (fun u s2 => s2.heap.get? kS = some (seqObj "list" ks e) ∧ ∀ c, (s2.heap.update kS (Obj.mapSeq (·.push u))).get? kS = some (seqObj "list" (ks.push u) c) → J (i + 1) (ks.push u) c { s2 with heap := s2.heap.update kS (Obj.mapSeq (·.push u)) }) (fun _ _ => False) s')
    (done : ∀ ks e s', J vs.length ks e s' → wpAny (model prog w) A (ksk_end a b vs.toArray e1 (.ref kS) ks) P E s') :
    wpAny (model prog w) A (ksk_rest a f b vs.toArray e1 (.ref kS)) P E s := by
  unfold ksk_rest
  refine wpAny_bind (wpAny_rule (?_))
  first | rw [List.forIn_toArray] | (rw [← Array.forIn_toList]; simp only [List.toList_toArray])
  refine wpAny_bind (ksk_fold (fun i s' => ∃ ks e, J i ks e s') vs 0 s ⟨#[], 0, h0⟩ (fun j x s' hx hJ => ?_) fun s' hJ => ?_)
  · obtain ⟨ks, e, hJ⟩ := hJ
    rw [Nat.zero_add] at hJ
    rw [Nat.zero_add]
    have hj : j < vs.length := (List.getElem?_eq_some_iff.mp hx).1
    have hz := (at' _ _ _ _ hJ).2
    refine wpAny_bind (wpAny_attempt (wpAny_mono (turn j x ks e s' hx hJ) (fun u s2 he => ?_) fun _ _ hF => hF.elim))
    obtain ⟨n2, k2⟩ := he
    have z2 := get?_update_seq n2 (·.push u)
    refine wpAny_bind (listUpdate_at n2 rfl ?_ (by omega) (by rw [Array.size_push]; omega))
    exact wpAny_pure ⟨rfl, _, _, k2 _ z2⟩
  · obtain ⟨ks, e, hJ⟩ := hJ
    rw [Nat.zero_add] at hJ
    refine wpAny_bind (listItems_at (at' _ _ _ _ hJ).1 rfl ?_)
    exact done _ _ _ hJ
end
/-- a heap without one object -/
def dropAt (h : Heap) (x : Addr) : Heap := h.update x fun o => { o with data := .freed }
theorem dropAt_none {h : Heap} {x : Addr} {o : Obj} (ho : h.get? x = some o) : (dropAt h x).get? x = none := by
  cases e : (dropAt h x).get? x with
  | none => rfl
  | some o' =>
    obtain ⟨e1, e2⟩ := Heap.get?_some_iff.mp e
    obtain ⟨e3, _⟩ := Heap.get?_some_iff.mp ho
    unfold dropAt at e1
    obtain ⟨objs, l⟩ := h
    simp only [Heap.update, Array.getElem?_modify, if_true] at e1
    simp only at e3
    rw [e3] at e1
    cases e1
    cases e2
theorem dropAt_ne {h : Heap} {x b : Addr} (hb : b ≠ x) : (dropAt h x).get? b = h.get? b := Heap.get?_update_ne _ _ _ _ hb
section
variable {X : Cx} {k : Nat} {f : Addr} {fd : FuncData} {ps : List Str} {sp : Sp}
/-- what sorted(xs, key=f) asks and gives -/
def rSrtK (X : Cx) (f : Addr) (sp : Sp) : List V → List V → Hp → VK → Prop := fun vs zs H Q => ∃ a xs, vs = [V.ref a] ∧ zs = [V.ref f] ∧ SqL X.K H a xs ∧ ∃ T : Nat → Hp → List V → Prop, T 0 H [] ∧
  (∀ i x H1 kv, xs[i]? = some x → T i H1 kv → sp [x] H1 (fun v H2 => T (i + 1) H2 (kv ++ [v])) E0) ∧
  ∀ H1 kv, T xs.length H1 kv → kv.length = xs.length ∧ ∃ ds, DpAll X.K H1 kv ds ∧ PySem.W.AllAlike ds ∧ PySem.W.Sortable ds ∧ (∀ d, d ∈ ds → d.depth ≤ 60) ∧
    ∀ p, H1 p = none → Q (.ref p) (upd H1 p (.lst (((xs.zip ds).mergeSort (PySem.W.dataLe false (·.2))).map (·.1))))
theorem run_in2 {pins : List (Addr × Obj)} {σ : L2.St} {H : Hp} {s : Shared} {Q : VK} {us : List Value} {vs : List V} (F : FnOk X.prog X.w X.K X.mg X.base CX0 k f fd ps sp) (hr : Room k X.A.in1.in1) (hb : Binds X.K fd ps [])
    (I : Inv X pins σ H s) (r : Vals vs us) (h : sp vs H Q E0) : wpAny (model X.prog X.w) X.A.in1.in1 (call (.ref f) us) (EP X pins σ Q) (fun _ _ => False) s := by
  have hl : (us ++ []).length = ps.length := by rw [List.append_nil, ← r.length]; exact F.len _ _ _ _ h
  have hq := hb s us I.kIn hl
  rw [List.append_nil] at hq
  refine wpAny_call (codeAny_mono (F.run X.A.in1.in1 X.stack s H ⟨us, []⟩ us vs Q E0 hr I.env0.in1.in1 hq r h) fun r s' z => ?_)
  cases r with
  | error e => exact z
  | ok fl =>
    cases fl with
    | ret u => exact I.after z
    | next => exact False.elim z
    | brk => exact False.elim z
    | cont => exact False.elim z
theorem pin2 {pins : List (Addr × Obj)} {σ : L2.St} {H : Hp} {s : Shared} {x y : Addr} {ox oy : Obj} (I : Inv X pins σ H s) (fx : FpOk X pins H x) (fy : FpOk X pins H y) (nx : s.heap.get? x = some ox) (ny : s.heap.get? y = some oy)
    (dx : ∀ v, ox.data ≠ .cell v) (dy : ∀ v, oy.data ≠ .cell v) : Inv X ((x, ox) :: (y, oy) :: pins) σ H s :=
  I.pins_of fun p hp => by
    rcases List.mem_cons.mp hp with rfl | hp
    · exact ⟨nx, fx.1, fx.2.1, fx.2.2.1, dx⟩
    rcases List.mem_cons.mp hp with rfl | hp
    · exact ⟨ny, fy.1, fy.2.1, fy.2.2.1, dy⟩
    · exact I.pin p (List.mem_append_right _ hp)
theorem unpin2 {pins : List (Addr × Obj)} {σ : L2.St} {H : Hp} {s : Shared} {p q : Addr × Obj} (I : Inv X (p :: q :: pins) σ H s) : Inv X pins σ H s :=
  I.pins_of fun z hz => I.pin z (List.mem_append_right _ (.tail _ (.tail _ hz)))
theorem each_reads {pins : List (Addr × Obj)} {σ : L2.St} {H : Hp} {s : Shared} (I : Inv X pins σ H s) : ∀ {xs : List V} {ds : List PyData}, DpAll X.K H xs ds → ∀ {us : List Value}, Vals xs us → PySem.W.EachIs (fun u d => ∃ as, Reads s.heap u d as) us ds
  | _, _, .nil, _, .nil => .nil
  | _, _, .cons a b, _, .cons r t => .cons (Dp.reads I _ _ _ a r) (each_reads I b t)
theorem vals_at : ∀ {xs : List V} {us : List Value}, Vals xs us → ∀ {i : Nat} {u : Value}, us[i]? = some u → ∃ x, xs[i]? = some x ∧ RelV x u
  | _, _, .nil, _, _, h => by simp at h
  | _, _, .cons r t, 0, _, h => by
    simp at h; subst h; exact ⟨_, rfl, r⟩
  | _, _, .cons r t, i + 1, _, h => by
    rw [List.getElem?_cons_succ] at h ⊢; exact vals_at t h
theorem each_zip : ∀ {xs : List V} {ds : List PyData} {us : List Value}, Vals xs us → xs.length = ds.length → PySem.W.EachIs (fun (u : Value) (b : V × PyData) => RelV b.1 u) us (xs.zip ds)
  | _, [], _, .nil, _ => .nil
  | _, _ :: _, _, .nil, h => by cases h
  | _, [], _, .cons _ _, h => by cases h
  | _, _ :: _, _, .cons r t, h => .cons r (each_zip t (Nat.succ.inj h))
theorem cr_srtK (F : FnOk X.prog X.w X.K X.mg X.base CX0 k f fd ps sp) (hr : Room k X.A.in1.in1) (hb : Binds X.K fd ps []) (hu : X.A.units + 64 < cLine) : CallRK X (.builtin "sorted") [Str.ofString "key"] (rSrtK X f sp) := by
  intro pins s σ H vs zs us ws Q I r rz h
  obtain ⟨a0, xs, rfl, rfl, hs, T, t0, ts, te⟩ := h
  obtain rfl := Vals.ref1 r
  obtain rfl := Vals.ref1 rz
  obtain ⟨its, rv, pl, hz⟩ := I.list hs
  have hlen : its.length = xs.length := rv.length.symm
  have hZ : its.length ≤ sizeLine := by omega
  show wpAny _ _ (call (.builtin "sorted") [.ref a0] [(Str.ofString "key", .ref f)]) _ _ _
  refine sorted_of_sort pl.isList hZ (ksk_s1 _ _) (fun x => ksk_l1 _ _) fun E' => ?_
  rw [ksk_t1]
  have hoA := copyHeap_at s.heap its
  obtain ⟨a, ea⟩ : ∃ a, s.heap.objs.size + 1 = a := ⟨_, rfl⟩
  rw [ea] at hoA ⊢
  have oldA : ∀ b o, s.heap.get? b = some o → b ≠ a := fun b o q => Nat.ne_of_lt (by rw [← ea]; exact Nat.lt_succ_of_lt (Heap.lt_size q))
  have fpa : FpOk X pins H a := I.fpOk (by omega) (I.hok.fresh (by omega))
  have nA := get?_update_seq hoA fun _ => (#[] : Array Value)
  obtain ⟨e1, hE1⟩ : ∃ e1, ((copyHeap s.heap its).update a (Obj.mapSeq fun _ => (#[] : Array Value))).get? a = some (seqObj "list" #[] e1) := ⟨_, nA⟩
  have hszC : s.heap.objs.size + 1 < (copyHeap s.heap its).objs.size := by rw [ea]; exact Heap.lt_size hoA
  unfold ksk_tree
  refine wpAny_bind (listItems_at hoA rfl (?_))
  refine wpAny_bind (listUpdate_at hoA rfl ?_ (by rw [List.size_toArray]; omega) (Nat.zero_le _))
  refine wpAny_bind (seqEpoch_at hE1 rfl ?_)
  refine wpAny_bind (wpAny_newTuple ?_ (by show its.length ≤ _; omega))
  refine wpAny_bind (wpAny_newList ?_ (Nat.zero_le _))
  refine wpAny_holding ?_
  obtain ⟨kS, ek⟩ : ∃ kS, (((copyHeap s.heap its).update a (Obj.mapSeq fun _ => (#[] : Array Value))).push (seqObj "tuple" its.toArray 0)).objs.size = kS := ⟨_, rfl⟩
  have ekS : kS = (copyHeap s.heap its).objs.size + 1 := by rw [← ek, size_push', Heap.size_update]
  have hka : kS ≠ a := by omega
  have fpk : FpOk X pins H kS := I.fpOk (by omega) (I.hok.fresh (by omega))
  have keep1 : ∀ b o, s.heap.get? b = some o → (sortingHeap (copyHeap s.heap its) a its).get? b = some o := fun b o q => sortingHeap_old (oldA b o q) (copyHeap_old q)
  have I1 : Inv X pins σ H { s with heap := sortingHeap (copyHeap s.heap its) a its } := I.kept (t' := s.toks) keep1
  have nK : (sortingHeap (copyHeap s.heap its) a its).get? kS = some (seqObj "list" #[] 0) := by rw [← ek]; exact Heap.get?_push_size _ rfl
  have nA1 : (sortingHeap (copyHeap s.heap its) a its).get? a = some (seqObj "list" #[] e1) := Heap.get?_push_of_some _ (Heap.get?_push_of_some _ hE1)
  rw [ek]
  have nc : ∀ (q : Array Value) (n : Nat) (v : Option Value), (seqObj "list" q n).data ≠ .cell v := fun q n v z => by cases z
  refine kg_rest (kS := kS) (fun i ks e s' => ks.size = i ∧ ∃ H' kv, Inv X ((kS, seqObj "list" ks e) :: (a, seqObj "list" #[] e1) :: pins) σ H' s' ∧ Vals kv ks.toList ∧ T i H' kv)
    ⟨rfl, H, [], pin2 I1 fpk fpa nK nA1 (nc _ _) (nc _ _), .nil, t0⟩ hZ (fun i ks e s' hJ => ?_) (fun i v ks e s' hv hJ => ?_) fun ks e s' hJ => ?_
  · obtain ⟨h1, H', kv, I2, _⟩ := hJ
    exact ⟨(I2.pin (kS, seqObj "list" ks e) (List.mem_append_right _ List.mem_cons_self)).1, h1⟩
  · obtain ⟨h1, H', kv, I2, rk, tt⟩ := hJ
    obtain ⟨x, hx, rx⟩ := vals_at rv hv
    refine wpAny_mono (run_in2 F hr hb I2 (.cons rx .nil) (ts i x H' kv hx tt)) (fun u s2 hq => ?_) fun _ _ z => z
    obtain ⟨v', H2, I3, r3, t3⟩ := hq
    have p1 := I3.pin (kS, seqObj "list" ks e) (List.mem_append_right _ List.mem_cons_self)
    have p2 := I3.pin (a, seqObj "list" #[] e1) (List.mem_append_right _ (.tail _ List.mem_cons_self))
    refine ⟨p1.1, fun c hc => ⟨by rw [Array.size_push, h1], H2, kv ++ [v'], ?_, ?_, t3⟩⟩
    · have sb := Heap.SameBut.update s2.heap kS (Obj.mapSeq (·.push u))
      have fk : FpOk X pins H2 kS := ⟨p1.2.1, fpk.2⟩
      have I4 : Inv X pins σ H2 { s2 with heap := s2.heap.update kS (Obj.mapSeq (·.push u)) } := (unpin2 I3).turnedL (t' := s2.toks) (ch := [kS]) (fun b o hb' q => (sb.2 b (fun z => hb' (by simp [z]))).trans q) fun b hb' => by rw [List.mem_singleton.mp hb']; exact fk
      exact pin2 I4 fk ⟨p2.2.1, fpa.2⟩ hc ((sb.2 a hka.symm).trans p2.1) (nc _ _) (nc _ _)
    · rw [Array.toList_push]
      exact rk.append (.cons r3 .nil)
  · obtain ⟨h1, H', kv, I2, rk, tt⟩ := hJ
    rw [hlen] at tt
    obtain ⟨hkl, ds, hd, hal, hso, hdp, q⟩ := te H' kv tt
    have hdl := DpAll.length hd
    have p1 := I2.pin (kS, seqObj "list" ks e) (List.mem_append_right _ List.mem_cons_self)
    have p2 := I2.pin (a, seqObj "list" #[] e1) (List.mem_append_right _ (.tail _ List.mem_cons_self))
    have hk := each_reads I2 hd rk
    have hm : (xs.zip ds).map (·.2) = ds := by rw [List.map_snd_zip]; omega
    refine keyH_end (κ := dataKind s'.heap ds) (h₁ := dropAt s'.heap kS) (fun b o hb' q' => ?_) (dropAt_none p1.1) p1.1 p2.1 hka (SortsAt.data hk hal hso fun d hd' => ?_) h1 hZ fun h' tk c kp nA' => ⟨rfl, ?_⟩
    · by_cases z : b = kS
      · rw [z, dropAt_none p1.1] at q'; cases q'
      · rw [dropAt_ne z] at q'; exact q'
    · have := hdp d hd'
      show X.A.units + 2 + d.depth < cLine
      omega
    · have fk : FpOk X pins H' kS := ⟨p1.2.1, fpk.2⟩
      have fa : FpOk X pins H' a := ⟨p2.2.1, fpa.2⟩
      have I4 : Inv X pins σ H' { s' with heap := h', toks := tk } := (unpin2 I2).turnedL (ch := [kS, a]) (fun b o hb' q' => kp b o (fun z => hb' (by simp [z])) (by rw [dropAt_ne fun z => hb' (by simp [z])]; exact q')) fun b hb' => by
        rcases List.mem_cons.mp hb' with rfl | hb'
        · exact fk
        · rw [List.mem_singleton.mp hb']; exact fa
      have hko : KeyedOut false ((xs.zip ds).map (·.2)) its (sortVals (dataKind s'.heap ds) false ks.toList its) := by
        rw [hm]; exact ⟨s'.heap, ks.toList, hal, rfl, hk⟩
      have hv := each_vals (keyedOut_each (fun b : V × PyData => b.2) hko (each_zip rv (by omega)))
      refine ⟨.ref a, _, I4.take (t' := tk) (h' := h') (o := .lst _) (fun _ _ _ z => z) fa ⟨?_, _, c, hv, nA'⟩, rfl, q a fa.1⟩
      rw [List.length_map, List.length_mergeSort, List.length_zip]; omega
end
end M
set_option Elab.async false
set_option linter.all false
set_option maxRecDepth 100000
set_option maxHeartbeats 4000000
namespace M
open PySem L2
/-- the keys -/
def keysU (den : List D → R D) : List D → R (List D)
  | [] => .ok []
  | x :: xs => (den [x]).nox >>= fun y => keysU den xs >>= fun ys => .ok (y :: ys)
def srtBy (ds ks : List D) : List D := ((ds.zip ks).mergeSort fun p q => dle p.2 q.2).map (·.1)
def srtKD (den : List D → R D) : D → R D
  | .lst ds => keysU den ds >>= fun ks => if srtOk ks then .ok (.lst (srtBy ds ks)) else .fail
  | _ => .fail
theorem keysD_at {den : List D → R D} : ∀ {ds ks : List D}, keysU den ds = .ok ks → ds.length = ks.length ∧ ∀ (i : Nat) (d : D), ds[i]? = some d → ∃ y, ks[i]? = some y ∧ den [d] = .ok y
  | [], ks, h => by cases h; exact ⟨rfl, fun i d q => by simp at q⟩
  | x :: xs, ks, h => by
    unfold keysU at h
    cases e1 : den [x] with
    | exc x => rw [e1] at h; cases h
    | fail => rw [e1] at h; cases h
    | ok y =>
      rw [e1] at h
      have h : (keysU den xs >>= fun ys => R.ok (y :: ys)) = .ok ks := h
      cases e2 : keysU den xs with
      | exc x => rw [e2] at h; cases h
      | fail => rw [e2] at h; cases h
      | ok ys =>
        rw [e2] at h
        cases h
        obtain ⟨h1, h2⟩ := keysD_at e2
        refine ⟨by simp [h1], fun i d q => ?_⟩
        cases i with
        | zero => simp at q; subst q; exact ⟨y, by simp, e1⟩
        | succ i => rw [List.getElem?_cons_succ] at q ⊢; exact h2 i d q
section
variable {X : Cx} {k : Kn} {c : Cf} {e : Expr} {pos : Pos} {den : List D → R D}
theorem RDs.srtBy {G : Hp} {ds ks : List D} {vs : List V} (r : RDs k G ds vs) (hk : ds.length = ks.length) : RDs k G (M.srtBy ds ks) (((vs.zip (D.toPs ks)).mergeSort (PySem.W.dataLe false (·.2))).map (·.1)) := by
  have key : ∀ (bs : List (D × V × D)), (∀ b, b ∈ bs → RD k G b.1 b.2.1) → RDs k G (bs.map (·.1)) (bs.map (·.2.1)) := fun bs => by
    induction bs with
    | nil => intro _; exact .nil
    | cons b bs ih => intro h; exact .cons (h b (by simp)) (ih fun x hx => h x (by simp [hx]))
  have mem : ∀ b, b ∈ ds.zip (vs.zip ks) → RD k G b.1 b.2.1 := by
    clear key
    intro b hb
    obtain ⟨i, hi, rfl⟩ := List.mem_iff_getElem.mp hb
    have hi' := hi
    rw [List.length_zip, List.length_zip] at hi'
    obtain ⟨v, hv, rv⟩ := r.get (List.getElem?_eq_getElem (show i < ds.length by omega))
    rw [List.getElem?_eq_getElem (show i < vs.length by omega)] at hv; cases hv
    rw [List.getElem_zip, List.getElem_zip]
    exact rv
  have hl := r.length
  have z1 : ds.zip ks = (ds.zip (vs.zip ks)).map fun b => (b.1, b.2.2) := by
    clear r key mem
    induction ds generalizing vs ks with
    | nil => simp
    | cons d ds ih =>
      cases vs with
      | nil => simp at hl
      | cons v vs =>
        cases ks with
        | nil => simp at hk
        | cons y ks => simp only [List.zip_cons_cons, List.map_cons]; rw [ih (by simpa using hk) (by simpa using hl)]
  have z2 : vs.zip (D.toPs ks) = (ds.zip (vs.zip ks)).map fun b => (b.2.1, b.2.2.toP) := by
    clear r key mem z1
    induction ds generalizing vs ks with
    | nil => cases vs <;> simp at hl ⊢
    | cons d ds ih =>
      cases vs with
      | nil => simp at hl
      | cons v vs =>
        cases ks with
        | nil => simp at hk
        | cons y ks => simp only [D.toPs, List.zip_cons_cons, List.map_cons]; rw [ih (by simpa using hk) (by simpa using hl)]
  have e1 : M.srtBy ds ks = ((ds.zip (vs.zip ks)).mergeSort fun a b => dle a.2.2 b.2.2).map (·.1) := by
    unfold M.srtBy
    rw [z1, ← List.map_mergeSort (r := fun a b => dle a.2.2 b.2.2) (f := fun (b : D × V × D) => (b.1, b.2.2)) (fun a _ b _ => rfl), List.map_map]
    rfl
  have e2 : ((vs.zip (D.toPs ks)).mergeSort (PySem.W.dataLe false (·.2))).map (·.1) = ((ds.zip (vs.zip ks)).mergeSort fun a b => dle a.2.2 b.2.2).map (·.2.1) := by
    rw [z2, ← List.map_mergeSort (r := fun a b => dle a.2.2 b.2.2) (f := fun (b : D × V × D) => (b.2.1, b.2.2.toP)) (fun a _ b _ => by rw [PySem.W.dataLe_eq]; rfl), List.map_map]
    rfl
  rw [e1, e2]
  exact key _ fun b hb => mem b (List.mem_mergeSort.mp hb)
theorem d_srtK {x y : Str} {p q : Pos} {kp : Pos} {fa : FA} {lv m : Nat} (F : Callee X.prog X.w X.K X.mg X.base c.k lv y 1 false den) (hr : Room m X.A) (hle : lv + 1 ≤ m) (hkn : c.k.K = X.K) (hu : X.A.units + 64 < cLine) (hm : X.mg x = none) (ha : PA' X c true [e] fa) (hl : Len 1 fa)
    (hv : bootBuiltins x = some (.builtin "sorted") := by decide +kernel) (hg : Gl X x := by rfl) (hgy : Gl X y := by rfl) (hn : x ≠ "__name__" := by decide) (hdb : (x == ("__debug__" : Str)) = false := by decide) (hdy : (y == ("__debug__" : Str)) = false := by decide)
    (he : backTo pos (starEach [e] X.env) = (false, eval e X.env) :: backTo pos (starEach [] X.env) := by rfl) (hpl : (backTo pos (starEach [e] X.env)).any (·.1) = false := by rfl)
    (hall : (backToKw pos (keywordEach [⟨some (Str.ofString "key"), .Name y q, kp⟩] X.env)).all (·.1.isSome) = true := by rfl) (hnone : (backToKw pos (keywordEach [⟨some (Str.ofString "key"), .Name y q, kp⟩] X.env)).any (·.1.isNone) = false := by rfl) (hks : (backToKw pos (keywordEach [⟨some (Str.ofString "key"), .Name y q, kp⟩] X.env)).filterMap (·.1) = [Str.ofString "key"] := by rfl) :
    PE' X c .fr (.Call (.Name x p) [e] [⟨some (Str.ofString "key"), .Name y q, kp⟩] pos) (eC (f1 (srtKD den)) fa) := by
  obtain ⟨f, fd, ps, hn1, ok, hmy, hky, hb⟩ := F.ex
  have hr2 : Room lv X.A.in1.in1 := ⟨hr.hd, by have := hr.dp; show X.A.depth + 3 * lv + 5 < _; omega, by have := hr.un; show X.A.units + 1 + 1 + 16 * lv + 200 < _; omega⟩
  refine peI (pe_callBK (cr_srtK ok hr2 hb hu) hg hm hv ha (pk_cons (pe_glob (v := .ref f) hgy hmy rfl hdy) pk_nil) hn hdb he hpl hall hnone hks) fun σ H Q ⟨G, S, rel, p⟩ => ?_
  have p : PostE c .fr G S σ H Q (fa S >>= fun ds => (f1 (srtKD den) ds).nox) := p
  refine ⟨G, S, rel, ?_⟩
  cases e1 : fa S with
  | exc x => rw [e1] at p; exact p
  | fail => rw [e1] at p; exact p
  | ok as =>
    rw [e1] at p
    simp only [R.ok_bind] at p
    intro vs G1 H1 s1 q1
    have q1 : Nows c.k G1 H1 as vs := q1
    have l1 := hl S as e1
    obtain ⟨a0, rfl⟩ : ∃ a0, as = [a0] := by
      match as, l1 with
      | [a0], _ => exact ⟨a0, rfl⟩
    replace p : PostE c .fr G S σ H Q (srtKD den a0).nox := p
    cases q1 with
    | cons n0 n1 =>
    cases n1
    obtain ⟨ds, rfl⟩ : ∃ ds, a0 = .lst ds := by cases a0 <;> first | exact ⟨_, rfl⟩ | exact p.elim
    simp only [srtKD] at p
    cases e2 : keysU den ds with
    | exc x => rw [e2] at p; exact p.elim
    | fail => rw [e2] at p; exact p.elim
    | ok ks =>
      rw [e2] at p
      simp only [R.ok_bind] at p
      split at p
      · rename_i hok
        have p : ∀ v G' H', Step G H G' H' → Res c.k H G' H' (.lst (srtBy ds ks)) v .fr → Q v H' := p
        obtain ⟨hlk, hat⟩ := keysD_at e2
        obtain ⟨a, xs, rfl, haH, r⟩ := n0.lst s1.gh
        have hlx := r.length
        show rSrtK X f _ [V.ref a] [V.ref f] H1 Q
        refine ⟨a, xs, rfl, rfl, SqL.of haH, fun i H2 kv => ∃ G2, Step G1 H1 G2 H2 ∧ RDs c.k G2 (ks.take i) kv, ⟨G1, Step.refl s1.gh, by rw [List.take_zero]; exact .nil⟩, fun i x H2 kv hx ⟨G2, s2, r2⟩ => ?_, fun H2 kv ⟨G2, s2, r2⟩ => ?_⟩
        · have hi : i < ds.length := by rw [hlx]; exact (List.getElem?_eq_some_iff.mp hx).1
          obtain ⟨v, hv', rv⟩ := r.get (List.getElem?_eq_getElem hi)
          rw [hx] at hv'; cases hv'
          obtain ⟨y, hy, hd⟩ := hat i _ (List.getElem?_eq_getElem hi)
          refine ⟨rfl, G2, [ds[i]], s2.gh, .cons (rv.mono s2.g) .nil, ?_⟩
          rw [hd]
          intro v G' H' s3 r3
          have r3 : RD c.k G' y v := r3
          refine ⟨G', s2.trans s3, ?_⟩
          rw [List.take_add_one, hy]
          exact (r2.mono s3.g).append (.cons r3 .nil)
        · have et : ks.take xs.length = ks := List.take_of_length_le (by omega)
          rw [et] at r2
          have hd : doks 59 ks = true := (by unfold srtOk at hok; simp only [Bool.and_eq_true] at hok; exact hok.1.1)
          refine ⟨by rw [← r2.length]; omega, _, hkn ▸ (r2.mono s2.gh).dp 59 hd, fun p hp q hq => ?_, srt_sortable hok, fun q hq => ?_, fun pp hp => p _ _ _ ((s1.trans s2).trans (Step.new' s2.gh hp)) ⟨pp, _, rfl, s2.gh.free hp, (s1.trans s2).h.free hp, upd_same, .lst ((r.mono s2.g).srtBy hlk)⟩⟩
          · obtain ⟨d1, h1, rfl⟩ := toPs_mem hp
            obtain ⟨d2, h2, rfl⟩ := toPs_mem hq
            unfold srtOk at hok
            simp only [Bool.and_eq_true, List.all_eq_true] at hok
            exact alikeD_of _ _ (hok.1.2 d1 h1 d2 h2)
          · obtain ⟨d1, h1, rfl⟩ := toPs_mem hq
            have := (dok_lay 59 d1 (doks_mem hd h1)).2
            omega
      · exact p.elim
end
end M
set_option Elab.async false
set_option linter.all false
set_option maxRecDepth 100000
set_option maxHeartbeats 4000000
namespace M
open PySem L2 PySem.W PySem.Calls PyProof.Rows
section
variable {prog : Program} {w : World} {A : Around} {E : Value → Shared → Prop} {s : Shared}
theorem collect_tup {l : Addr} {vs : List Value} {Q : List Value → Shared → Prop} (hl : IsTup s.heap l vs.toArray)
    (h : Q vs { s with heap := (s.heap.push (seqObj "list" #[] 0)).update s.heap.objs.size (Obj.mapSeq (· ++ vs.toArray)) }) (hsz : vs.length ≤ sizeLine) :
    wpAny (model prog w) A (collect (.ref l)) Q E s := by
  obtain ⟨o, ho, hc, n, hd⟩ := id hl
  unfold collect
  refine wpAny_bind (wpAny_runValue (codeAny_builtin entry_proto_collect' ?_))
  show wpAny _ _ (do again (.builtin "list.__iadd__" ⟨[← newList [], .ref l], []⟩)) _ _ s
  refine wpAny_bind (wpAny_newList (wpAny_pure ⟨Code.quiet_builtin _ (by decide +kernel), codeAny_builtin entry_list_iadd' ?_⟩))
  show wpAny _ _ (Builtin.List.listExtendWith (.ref s.heap.objs.size) (.ref l) (.ref s.heap.objs.size)) _ _ { s with heap := s.heap.push (seqObj "list" #[] 0) }
  unfold Builtin.List.listExtendWith
  have ho' : (s.heap.push (seqObj "list" #[] 0)).get? l = some o := Heap.get?_push_of_some _ ho
  refine wpAny_bind (wpAny_typeOf (T := "tuple") ⟨o, ho', hc⟩ ?_)
  have ht : (Value.type "tuple" == Value.type "tuple") = true := by rfl
  rw [if_pos (by rw [ht]; simp)]
  refine wpAny_bind (listItems_at ho' hd ?_)
  refine wpAny_bind (listItems_at (xs := #[]) (n := 0) (Heap.get?_push_size _ rfl) rfl ?_)
  rw [if_neg (by simp)]
  refine wpAny_bind (listUpdate_at (xs := #[]) (n := 0) (Heap.get?_push_size _ rfl) rfl ?_ (Nat.zero_le _) (by show (#[] ++ vs.toArray).size ≤ sizeLine + 1; simp only [Array.size_append, List.size_toArray, List.length_nil]; omega))
  refine wpAny_pure ?_
  show wpAny (model prog w) A (do
      let o ← load s.heap.objs.size
      match o.data with
      | .seq xs _ => pure xs.toList
      | _ => unsupported "internal:collect") Q E { s with heap := (s.heap.push (seqObj "list" #[] 0)).update s.heap.objs.size (Obj.mapSeq (· ++ vs.toArray)) }
  refine wpAny_bind (wpAny_load (get?_update_seq (Heap.get?_push_size _ rfl) _) ?_)
  show wpAny _ _ (pure ((#[] : Array Value) ++ vs.toArray).toList) Q E _
  rw [show ((#[] : Array Value) ++ vs.toArray).toList = vs by simp]
  exact wpAny_pure h
/-- sorted(t, ..) is list.sort(..) on a new list of t's items -/
theorem sortedT_of_sort {l : Addr} {vs : List Value} {kw : List (Str × Value)} {Q : Value → Shared → Prop} (hl : IsTup s.heap l vs.toArray) (hL : vs.length ≤ sizeLine) (ha1 : argsOk "sorted" ⟨[.ref l], kw⟩) (ha2 : ∀ x, argsOk "list.sort" ⟨[.ref x], kw⟩)
    (body : ∀ E' : Value → Shared → Prop, wpAny (model prog w) A.in1.in1 (Builtin.«list.sort» ⟨[.ref (s.heap.objs.size + 1)], kw⟩) (fun f s' => f = .done (.ret .none) ∧ Q (.ref (s.heap.objs.size + 1)) s') E' { s with heap := copyHeap s.heap vs }) :
    wpAny (model prog w) A (call (.builtin "sorted") [.ref l] kw) Q E s := by
  refine call_function_entry_kw kind_sorted plain_sorted entry_sorted ha1 ?_
  unfold Builtin.«sorted»
  refine wpAny_bind (m := checkCount "sorted" 1 1 _) (wpAny_pure ?_)
  refine wpAny_bind (collect_tup hl ?_ hL)
  refine wpAny_bind (wpAny_newList ?_ hL)
  have hsz : ((s.heap.push (seqObj "list" #[] 0)).update s.heap.objs.size (Obj.mapSeq (· ++ vs.toArray))).objs.size = s.heap.objs.size + 1 := by
    rw [Heap.size_update, size_push']
  show wpAny _ _ _ _ _ { s with heap := copyHeap s.heap vs }
  rw [hsz]
  refine wpAny_bind (wpAny_holding (wpAny_call_entry_kw slot_list_sort ⟨_, copyHeap_at s.heap vs, rfl⟩ entry_list_sort ?body (ha2 _)))
  case body =>
    show wpAny (model prog w) A.in1.in1 (Builtin.«list.sort» ⟨[.ref (s.heap.objs.size + 1)], kw⟩) _ _ _
    refine wpAny_mono (body _) (fun f s' hf => ?_) fun _ _ e => e
    obtain ⟨rfl, hq⟩ := hf
    exact ⟨_, rfl, wpAny_pure ⟨_, rfl, hq⟩⟩
variable {κ : KeyKind}
theorem sortedT_vals {l : Addr} {vs : List Value} {Q : Value → Shared → Prop} (hl : IsTup s.heap l vs.toArray) (S : SortsAt prog w A.in1.in1 { s with heap := sortingHeap (copyHeap s.heap vs) (s.heap.objs.size + 1) vs } κ vs) (hL : vs.length ≤ sizeLine)
    (h : Q (.ref (s.heap.objs.size + 1)) { s with heap := sortedAll s.heap vs (sortVals κ false vs vs).toArray }) : wpAny (model prog w) A (call (.builtin "sorted") [.ref l]) Q E s :=
  sortedT_of_sort hl hL (args_sorted1 _) (fun _ => args_list_sort _) fun _ => list_sort_vals (s := { s with heap := copyHeap s.heap vs }) (copyHeap_at s.heap vs) S hL ⟨rfl, h⟩
variable {β : Type} {R : Value → β → Prop} {vs : List Value} {bs : List β} {enc : β → PyData}
theorem sortedT_data {l : Addr} {Q : Value → Shared → Prop} (hl : IsTup s.heap l vs.toArray) (e : EachIs R vs bs) (er : EachIs (fun v b => ∃ as, Reads s.heap v (enc b) as) vs bs) (hal : AllAlike (bs.map enc)) (hk : Sortable (bs.map enc)) (hL : bs.length ≤ sizeLine)
    (hu : ∀ b, b ∈ bs → A.units + 2 + (enc b).depth < cLine) (h : ∀ out, out.length = bs.length → EachIs R out (bs.mergeSort (dataLe false enc)) → Q (.ref (s.heap.objs.size + 1)) { s with heap := sortedAll s.heap vs (List.toArray out) }) :
    wpAny (model prog w) A (call (.builtin "sorted") [.ref l]) Q E s := by
  have er' : EachIs (fun v b => ∃ as, Reads (sortingHeap (copyHeap s.heap vs) (s.heap.objs.size + 1) vs) v (enc b) as) vs bs := er.mono fun _ _ ⟨as, r⟩ => ⟨as, PyProof.Rows.Reads.keeps (fun _ _ => sorting_copy_old) r⟩
  exact sortedT_vals hl (SortsAt.data (s := { s with heap := sortingHeap (copyHeap s.heap vs) (s.heap.objs.size + 1) vs }) (each_map (R := fun v d => ∃ as, Reads (sortingHeap (copyHeap s.heap vs) (s.heap.objs.size + 1) vs) v d as) enc er') hal hk (bound_map hu)) (by rw [e.length]; exact hL)
    (h _ (by rw [sortVals_length false rfl]; exact e.length) (sortVals_data false e er' hal))
end
section
variable {X : Cx} {k : Kn}
/-- the sort's own answer, by values and data -/
def rSrtT (X : Cx) : List V → Hp → VK → Prop := fun vs H Q => ∃ a xs ds, vs = [V.ref a] ∧ SqT X.K H a xs ∧ DpAll X.K H xs ds ∧ PySem.W.AllAlike ds ∧ PySem.W.Sortable ds ∧ (∀ d, d ∈ ds → d.depth ≤ 60) ∧
  ∀ p, H p = none → Q (.ref p) (upd H p (.lst (((xs.zip ds).mergeSort (PySem.W.dataLe false (·.2))).map (·.1))))
theorem cr_srtT (hu : X.A.units + 64 < cLine) : CallR X (.builtin "sorted") (rSrtT X) := by
  intro pins s σ H vs us Q I r h
  obtain ⟨a, xs, ds, rfl, hs, hd, hal, hso, hdp, q⟩ := h
  obtain ⟨u, rfl, ru⟩ := vals1 r
  cases ru
  obtain ⟨its, rv, pl, hz⟩ := I.tuple hs
  have hlen := DpAll.length hd
  have hm : (xs.zip ds).map (·.2) = ds := by rw [List.map_snd_zip]; omega
  have ea := DpAll.zip hd rv
  refine sortedT_data (enc := fun (b : V × PyData) => b.2) (R := fun u (b : V × PyData) => RelV b.1 u) (bs := xs.zip ds) pl (EachIs.imp (fun _ _ z => z.1) ea) (EachIs.imp (fun u b z => Dp.reads I b.2 b.1 u z.2 z.1) ea) (by rw [hm]; exact hal) (by rw [hm]; exact hso) (by rw [List.length_zip]; omega) ?_ ?_
  · intro b hb
    have : b.2 ∈ ds := by rw [← hm]; exact List.mem_map.mpr ⟨b, hb, rfl⟩
    have := hdp _ this
    omega
  · intro out ho eo
    obtain ⟨m, F⟩ := I.fr
    obtain ⟨cn, _, N, _, kp⟩ := PySem.W.sorted_news (news := []) F (fun p hp => nomatch hp) its out
    have hobj := (N _ List.mem_cons_self).1
    have hv := each_vals eo
    refine ⟨.ref (s.heap.objs.size + 1), _, I.laid (a := s.heap.objs.size + 1) (t' := s.toks) (o := .lst _) kp (Nat.le_succ _) ⟨?_, out, cn, hv, hobj⟩, rfl, q _ (I.hok.fresh (Nat.le_succ _))⟩
    rw [List.length_map, List.length_mergeSort, List.length_zip]; omega
/-- sorted of a list or of a tuple -/
def srtAD : D → R D
  | .lst ds => if srtOk ds then .ok (.lst (srt ds)) else .fail
  | .tup ds => if srtOk ds then .ok (.lst (srt ds)) else .fail
  | _ => .fail
theorem c_srtA (hk : k.K = X.K) (hu : X.A.units + 64 < cLine) : ClR X k (.builtin "sorted") .fr (f1 srtAD) := cl1 ((cr_srt hu).or (cr_srtT hu)) fun G H x v d e n hg Q p => by
  cases x <;> simp only [srtAD] at hg <;> first | (cases hg; done) | skip
  · split at hg
    · rename_i ho
      cases hg; obtain ⟨a, vs, rfl, ha, r⟩ := n.tup
      have hd : doks 59 _ = true := (by unfold srtOk at ho; simp only [Bool.and_eq_true] at ho; exact ho.1.1)
      refine .inr ⟨a, vs, _, rfl, hk ▸ e.sqT ha.t, hk ▸ (r.mono e).dp 59 hd, fun p hp q hq => ?_, srt_sortable ho, fun q hq => ?_, fun pp hp => p _ _ _ (Step.new' e hp) ⟨pp, _, rfl, e.free hp, hp, upd_same, .lst r.srt⟩⟩
      · obtain ⟨d1, h1, rfl⟩ := toPs_mem hp
        obtain ⟨d2, h2, rfl⟩ := toPs_mem hq
        unfold srtOk at ho
        simp only [Bool.and_eq_true, List.all_eq_true] at ho
        exact alikeD_of _ _ (ho.1.2 d1 h1 d2 h2)
      · obtain ⟨d1, h1, rfl⟩ := toPs_mem hq
        have := (dok_lay 59 d1 (doks_mem hd h1)).2
        omega
    · cases hg
  · split at hg
    · rename_i ho
      cases hg; obtain ⟨a, vs, rfl, ha, r⟩ := n.lst e
      have hd : doks 59 _ = true := (by unfold srtOk at ho; simp only [Bool.and_eq_true] at ho; exact ho.1.1)
      refine .inl ⟨a, vs, _, rfl, SqL.of ha, hk ▸ (r.mono e).dp 59 hd, fun p hp q hq => ?_, srt_sortable ho, fun q hq => ?_, fun pp hp => p _ _ _ (Step.new' e hp) ⟨pp, _, rfl, e.free hp, hp, upd_same, .lst r.srt⟩⟩
      · obtain ⟨d1, h1, rfl⟩ := toPs_mem hp
        obtain ⟨d2, h2, rfl⟩ := toPs_mem hq
        unfold srtOk at ho
        simp only [Bool.and_eq_true, List.all_eq_true] at ho
        exact alikeD_of _ _ (ho.1.2 d1 h1 d2 h2)
      · obtain ⟨d1, h1, rfl⟩ := toPs_mem hq
        have := (dok_lay 59 d1 (doks_mem hd h1)).2
        omega
    · cases hg
end
end M
set_option Elab.async false
set_option linter.all false
set_option maxRecDepth 100000
set_option maxHeartbeats 4000000
/-! an own exception class whose __init__ says super().__init__('..') and then stores its parameters -/
namespace PySem
namespace SupX
open PySem.W PySem.Calls PyProof.Rows PySem.HandSPX
/-- the stores of the parameters, one by one -/
def Stores : List Str → List Stmt → Prop
  | [], [] => True
  | f :: fs, st :: sts => (∃ p1 p2 p3 p4 : Pos, st = .Assign [.Attribute (.Name "self" p1) f p2] (.Name f p3) p4) ∧ Stores fs sts
  | _, _ => False
def InitBody (fs : List Str) (body : List Stmt) : Prop :=
  ∃ (p0 p1 p2 p3 p4 p5 : Pos) (m : Str) (j : Nat) (sts : List Stmt), body = .Expr (.Call (.Attribute (.Call (.Name "super" p0) [] [] p1) "__init__" p2) [.Constant (.str m) j p3] [] p4) p5 :: sts ∧ (p2.endLine == p4.line) = true ∧ Stores fs sts
/-- what the written part says of the class at C -/
structure SupT (prog : Program) (K : Frag) (C fI : Addr) (fs : List Str) : Prop where
  cls : ∃ nm q N bs bm sn sub ab col dd k0 k1 k2 k3 k5, K.lookup C = some (excClassObj nm q C N bs bm true sn sub ab col dd k0 k1 k2 k3 k5 "ValueError.__new__") ∧ refsVE bm = true
  sa : findIn K (.ref C) "__setattr__" = some (some (.builtin "object.__setattr__"))
  noN : ∀ f, f ∈ fs → findIn K (.ref C) f = some none
  nd : ((("self" : Str)) :: fs).Nodup
  nod : ∀ f, f ∈ fs → (f == ("__debug__" : Str)) = false
  sup : ks_superIn K C C "__init__" = some (some (.builtin "ValueError.__init__"))
  isV : subIn K (.ref C) (.type "ValueError") = some true
  mro : mroIn K C (.ref C) = some true
  opq : nsIn K cStatics "thirdparty.any" = some none
  iC : findIn K (.ref C) "__init__" = some (some (.ref fI))
  tI : typeIn K (.ref fI) = some (.type "function")
  sup0 : nsIn K mainGlobals "super" = some none
  htop : (prog.main.scope.names.lookup ("super" : Str)).isSome = false
  fn : ∃ (oc : Value) (od : Option Addr) (qual : Str) (params : Arguments) (body : List Stmt) (scope : Scope) (dV kV doc pm : Value) (an : Option Addr) (ct : Value) (osl : Array (Option Value)) (cda cc : Addr)
      (ccl cl : Value) (cdd cld : Option Addr) (vs : Array Value) (ccs csl : Array (Option Value)) (file : Str) (tf : Tok) (ar : Arg),
    K.lookup fI = some ⟨oc, od, .func (ksFn "__init__" qual params body scope dV kV doc pm an (.ref cda) ct cc), osl⟩ ∧ codeIn K (.ref cda) qual = true ∧ K.lookup cda = some ⟨ccl, cdd, .fields vs, ccs⟩ ∧ vs[2]? = some (.str file tf) ∧
    ((prog.main.file : Str) == file) = true ∧ K.lookup cc = some ⟨cl, cld, .cell (some (.ref C)), csl⟩ ∧ InitBody fs body ∧ (params.posonlyargs ++ params.args).head? = some ar ∧ ar.arg = "self" ∧
    (∀ (s : Shared) (us : List Value), us.length = fs.length + 1 → BindsTo s (ksFn "__init__" qual params body scope dV kV doc pm an (.ref cda) ct cc) ⟨us, []⟩ ((("self" : Str) :: fs).zip us)) ∧
    scope.names.lookup ("super" : Str) = some .globalImplicit ∧ scope.names.lookup ("__class__" : Str) = some .free ∧ (∀ f, f ∈ ("self" : Str) :: fs → scope.names.lookup f = some .local) ∧ scope.kind = .function ∧ scope.isGenerator = false ∧ scope.isCoroutine = false ∧
    (∀ x ∈ scope.names, x.2 ≠ .cell)
/-- an exception object, its dict -/
def exD (C t : Addr) (d : Option Addr) : Obj := { cls := .ref C, dict := d, data := .fields #[.ref t, .none, .none, .none, .bool false, .none] }
section
variable {prog : Program} {w : World} {A : Around} {E : Value → Shared → Prop} {K : Frag} {C fI : Addr} {fs : List Str}
theorem clsIn_of (T : SupT prog K C fI fs) : ∃ cd, clsIn K C = some cd ∧ cd.hasDict = true ∧ refsVE cd.mro = true ∧ ∃ bm, cd.mro = .ref C :: bm := by
  obtain ⟨nm, q, N, bs, bm, sn, sub, ab, col, dd, k0, k1, k2, k3, k5, hC, hbm⟩ := T.cls
  refine ⟨{ name := nm, bases := bs, mro := .ref C :: bm, ns := N, qualname := q, hasDict := true, slotNames := sn, subclasses := sub, abstract := ab, collection := col, hasDel := false }, ?_, rfl, hbm, bm, rfl⟩
  unfold clsIn; rw [hC] <;> rfl
/-- super().__init__(..) bound, called -/
theorem call_mw {u x t : Addr} {h : Heap} {g : Array GenState} {d : Drawn} {tk : Nat} {os : OsState} {rest : List Value} {Q : Value → Shared → Prop} (T : SupT prog K C fI fs) (X : K.In h)
    (hu : h.get? u = some (kxs_mw "ValueError.__init__" x)) (he : h.get? x = some (exD C t none)) (hz : rest.length ≤ sizeLine)
    (fin : ∀ h' t', (∀ b o, b ≠ x → h.get? b = some o → h'.get? b = some o) → h'.get? x = some (exD C t' none) → Q .none ⟨h', g, d, tk, os⟩) :
    wpAny (model prog w) A (call (.ref u) rest) Q E ⟨h, g, d, tk, os⟩ := by
  obtain ⟨nm, q, N, bs, bm, sn, sub, ab, col, dd, k0, k1, k2, k3, k5, hC, hbm⟩ := T.cls
  refine wpAny_call (codeAny_of_tree ?_)
  show wpAny _ A.in1 (callAny (.ref u) ⟨rest, []⟩) _ _ _
  simp only [callAny]
  refine wpAny_bind (wpAny_load hu ?_)
  simp only [kxs_mw, show (Value.type "method-wrapper" == Value.type "method" || Value.type "method-wrapper" == Value.type "builtin_function_or_method" || Value.type "method-wrapper" == Value.type "method-wrapper") = true by decide, if_true]
  refine KFB.if_so (by decide) ?_
  refine wpAny_bind (check_bound_init F.excBase_ValueError.toExcCallFacts (X _ _ hC) he rfl ?_)
  refine wpAny_bind (wpAny_pure (wpAny_pure ?_))
  refine ⟨plainId_quiet F.excBase_ValueError.init.plain _, codeAny_builtin F.excBase_ValueError.initEntry ?_⟩
  exact exc_init_tree (cls := .ref C) (t0 := t) (dv := none) (c2 := .none) (c3 := .none) (b4 := .bool false) he hz fun h' k1 k2 _ => fin h' _ k1 k2
theorem call_shape {p0 p1 p2 p3 p4 : Pos} {m : Str} {j : Nat} (env : Env) (hpl : (p2.endLine == p4.line) = true) :
    eval (.Call (.Attribute (.Call (.Name "super" p0) [] [] p1) "__init__" p2) [.Constant (.str m) j p3] [] p4) env = (do
      let ov ← attributeBase (.Call (.Name "super" p0) [] [] p1) "__init__" env (eval (.Call (.Name "super" p0) [] [] p1) env)
      standAt p2.atName
      let (f, first) ← holding [ov] (getMethod ov "__init__" (do return (← importBound (.Call (.Name "super" p0) [] [] p1) env).getD true))
      callWith p4 f first (backTo p4 (starEach [.Constant (.str m) j p3] env)) []) := by
  have hmp : ∀ few, methodCallPos few (.Call (.Name "super" p0) [] [] p1) env p2 p4 = pure p4 := fun few => by
    unfold methodCallPos
    rw [hpl, Bool.or_true, if_pos rfl]
  show (attributeBase (.Call (.Name "super" p0) [] [] p1) "__init__" env (eval (.Call (.Name "super" p0) [] [] p1) env) >>= fun ov => standAt p2.atName >>= fun _ =>
    methodCall (.Call (.Name "super" p0) [] [] p1) "__init__" p2 p4 env ov _ _ _) = _
  refine congrArg (_ >>= ·) (funext fun ov => congrArg (_ >>= ·) (funext fun _ => ?_))
  unfold methodCall
  simp only [hmp, pure_bind]
  rfl
theorem kindOf_ks {qual : Str} {scope : Scope} {L cc : Addr} {cda : Value} {y : Str} (h : scope.names.lookup y = some .local) : (ksEnv qual scope L fI cda cc).kindOf y = some .local := h
/-- a local name is read -/
theorem ldK {M : Model} {s : Shared} {qual : Str} {scope : Scope} {L cc : Addr} {cda : Value} {m : Str → Option Value} {x : Str} {pos : Pos} {v : Value} {Q : Value → Shared → Prop} (hn : s.heap.Ns L m) (hv : m x = some v) (h : Q v s)
    (hk : scope.kind = .function) (hl : scope.names.lookup x = some .local) (hd : (x == ("__debug__" : Str)) = false) :
    wpAny M A (eval (.Name x pos) (ksEnv qual scope L fI cda cc)) Q E s := wpAny_Name (wpAny_loadName_local hk (kindOf_ks hl) hn hv h) hd
theorem ns_keep {h h' : Heap} {L : Addr} {m : Str → Option Value} (hn : h.Ns L m) (k : ∀ o, h.get? L = some o → h'.get? L = some o) : h'.Ns L m := by
  obtain ⟨oL, es, ep, hL, r⟩ := hn
  exact ⟨oL, es, ep, k _ hL, r⟩
def putAll (mD : Str → Option Value) : List Str → List Value → Str → Option Value
  | f :: fs, v :: vs => putAll (fun y => if y = f then some v else mD y) fs vs
  | _, _ => mD
/-- the further stores -/
theorem stores_rest {g : Array GenState} {d : Drawn} {os : OsState} {qual : Str} {scope : Scope} {L cc x t dx : Addr} {cda : Value} {m : Str → Option Value} (T : SupT prog K C fI fs) (hk : scope.kind = .function) (hself : m "self" = some (.ref x)) (hsl : scope.names.lookup ("self" : Str) = some .local)
    (hdL : dx ≠ L) (hdx : dx ≠ x) : ∀ (ys : List Str) (vs : List Value) (sts : List Stmt) (h : Heap) (tk : Nat) (mD : Str → Option Value) (nl : List Str) (Q : Flow → Shared → Prop), Stores ys sts → ys.length = vs.length → (∀ y, y ∈ ys → y ∈ fs ∧ scope.names.lookup y = some .local) →
    (∀ (i : Nat) (y : Str), ys[i]? = some y → m y = vs[i]?) → K.In h → (∀ b, b = dx → K.lookup b = none) → h.Ns L m → h.get? x = some (exD C t (some dx)) → h.Ns1 dx mD → Within mD nl → nl.length + ys.length ≤ 1000 →
    (∀ h' tk', (∀ b o, b ≠ dx → h.get? b = some o → h'.get? b = some o) → h'.Ns1 dx (putAll mD ys vs) → Q .next ⟨h', g, d, tk', os⟩) →
    wpAny (model prog w) A (execs sts (ksEnv qual scope L fI cda cc)) Q E ⟨h, g, d, tk, os⟩
  | [], [], [], h, tk, mD, nl, Q, _, _, _, _, _, _, _, _, hD, _, _, fin => wpAny_execs_nil (fin h tk (fun _ _ _ e => e) hD)
  | [], [], _ :: _, _, _, _, _, _, hs, _, _, _, _, _, _, _, _, _, _, _ => (by cases hs)
  | [], _ :: _, _, _, _, _, _, _, _, hl, _, _, _, _, _, _, _, _, _, _ => (by cases hl)
  | _ :: _, [], _, _, _, _, _, _, _, hl, _, _, _, _, _, _, _, _, _, _ => (by cases hl)
  | _ :: _, _ :: _, [], _, _, _, _, _, hs, _, _, _, _, _, _, _, _, _, _, _ => (by cases hs)
  | y :: ys, v :: vs, st :: sts, h, tk, mD, nl, Q, hs, hl, hy, hm, X, hKd, hn, hx, hD, hw, hz, fin => by
    obtain ⟨⟨p1, p2, p3, p4, rfl⟩, hs2⟩ := hs
    obtain ⟨hyf, hyl⟩ := hy y (List.mem_cons_self ..)
    obtain ⟨cd, hcd, hhd, hmr, _⟩ := clsIn_of T
    refine wpAny_execs_cons (plainObj_wpAny_Assign_Attribute ?_)
    refine ldK (v := v) hn (by have := hm 0 y rfl; simpa using this) (ldK (v := .ref x) hn hself ?_ hk hsl (by decide)) hk hyl (T.nod y hyf)
    obtain ⟨oD, _, _, hoD, _, _⟩ := hD.count hw
    refine set_plain X (ox := exD C t (some dx)) (od := some oD) ⟨hx, rfl, rfl, hoD⟩ T.sa ?_
    refine PySem.OEX.osa_old X hx hD hw (by rw [List.length_cons] at hz; omega) hcd hmr hhd (T.noN y hyf) fun h3 tk3 k3 hD3 => ?_
    refine stores_rest T hk hself hsl hdL hdx ys vs sts h3 tk3 (fun z => if z = y then some v else mD z) (y :: nl) Q hs2 (Nat.succ.inj hl) (fun z hz => hy z (List.mem_cons_of_mem _ hz)) (fun i z hi => by have := hm (i + 1) z (by simpa using hi); simpa using this)
      (fun b o e => k3 b o (fun z => by rw [hKd b z] at e; cases e) (X b o e)) hKd (ns_keep hn fun o q => k3 _ _ hdL.symm q) (k3 _ _ hdx.symm hx) hD3 (Within.cons y v hw) (by rw [List.length_cons] at hz ⊢; omega) fun h' tk' k' hD' => ?_
    exact fin h' tk' (fun b o hb e => k' b o hb (k3 b o hb e)) hD'
theorem lookup_nd {α : Type} : ∀ {l : List (Str × α)} {k : Str} {v : α}, (l.map (·.1)).Nodup → (k, v) ∈ l → l.lookup k = some v
  | (k', v') :: l, k, v, hn, hm => by
    rw [List.map_cons, List.nodup_cons] at hn
    rcases List.mem_cons.mp hm with e | hm2
    · cases e; simp [List.lookup]
    · have : (k == k') = false := by
        simp only [beq_eq_false_iff_ne, ne_eq]
        intro e
        subst e
        exact hn.1 (List.mem_map.mpr ⟨(k, v), hm2, rfl⟩)
      simp only [List.lookup, this]
      exact lookup_nd hn.2 hm2
/-- what __init__ leaves of a fresh exception at x -/
structure InitEnd (h h' : Heap) (x C dx t : Addr) (mD : Str → Option Value) : Prop where
  keep : ∀ b o, b ≠ x → h.get? b = some o → h'.get? b = some o
  obj : h'.get? x = some (exD C t (some dx))
  dbig : h.objs.size ≤ dx
  dne : dx ≠ x
  ns : h'.Ns1 dx mD
theorem sup_init {f0 : Str} {R : Result → Shared → Prop} {s : Shared} {mg mb : Str → Option Value} (T : SupT prog K C fI (f0 :: fs)) {x t0 : Addr} {v0 : Value} {vs : List Value} (hlen : fs.length = vs.length) (hfl : fs.length ≤ 900) (X : K.In s.heap) (hlim : s.heap.NoLimit)
    (G : s.heap.Ns mainGlobals mg) (Bn : s.heap.Ns builtinsNs mb) (hb : mb "super" = bootBuiltins "super") (hx : s.heap.get? x = some (exD C t0 none)) (hnx : K.lookup x = none) (hroom : A.depth < recursionLimit)
    (hq : ∀ h' tk dx t, InitEnd s.heap h' x C dx t (putAll (fun y => if y = f0 then some v0 else none) fs vs) → R (.ok (.ret .none)) { s with heap := h', toks := tk }) :
    codeAny (model prog w) A (.call (.ref fI) ⟨.ref x :: v0 :: vs, []⟩) R s := by
  obtain ⟨oc, od, qual, params, body, scope, dV, kV, doc, pm, an, ct, osl, cda, cc, ccl, cl, cdd, cld, fv, ccs, csl, file, tf, ar, lk, hcd, lcda, hvs, hfile, lcc, hbody, har, harg, hbind, hks, hkc, hloc, hk, hgen, hco, hcell⟩ := T.fn
  obtain ⟨p0, p1, p2, p3, p4, p5, m, j, sts, rfl, hpl, hst⟩ := hbody
  cases sts with
  | nil => cases hst
  | cons st sts =>
  obtain ⟨⟨q1, q2, q3, q4, rfl⟩, hst2⟩ := hst
  obtain ⟨cd, hcl, hhd, hmr, bm, hbm⟩ := clsIn_of T
  have hzl : (((("self" : Str) :: f0 :: fs)).zip (Value.ref x :: v0 :: vs)).map (·.1) = ("self" : Str) :: f0 :: fs := by
    rw [List.map_fst_zip]; simp [hlen]
  refine ks_codeAny_call_defAt (binds := (("self" : Str) :: f0 :: fs).zip (Value.ref x :: v0 :: vs)) hroom (X _ _ lk) rfl hlim (codeRec_of X hcd) rfl (hbind s _ (by simp [hlen])) hcell (fun y hy => hloc _ (List.of_mem_zip hy).1) (fun h1 hns hk1 => ?_) hco hgen hk
  have X1 : K.In h1 := X.keeps hk1
  have look : ∀ (y : Str) (u : Value), (y, u) ∈ (("self" : Str) :: f0 :: fs).zip (Value.ref x :: v0 :: vs) → ((("self" : Str) :: f0 :: fs).zip (Value.ref x :: v0 :: vs)).reverse.lookup y = some u := fun y u hm =>
    lookup_nd (by rw [List.map_reverse, hzl]; exact (List.reverse_perm _).nodup_iff.mpr T.nd) (List.mem_reverse.mpr hm)
  have hself : ((("self" : Str) :: f0 :: fs).zip (Value.ref x :: v0 :: vs)).reverse.lookup ("self" : Str) = some (Value.ref x) := look _ _ (by simp)
  have hf0 : ((("self" : Str) :: f0 :: fs).zip (Value.ref x :: v0 :: vs)).reverse.lookup f0 = some v0 := look _ _ (by simp)
  have hx1 := hk1 _ _ hx
  have hxL : s.heap.objs.size ≠ x := Nat.ne_of_gt (Heap.lt_size hx)
  obtain ⟨oD, hD1, hD2⟩ : ∃ oD, h1.get? C = some oD ∧ oD.data = .cls cd := by
    unfold clsIn at hcl
    split at hcl
    · rename_i c d cd' sl ho
      cases hcl
      exact ⟨_, X1 _ _ ho, rfl⟩
    · cases hcl
  have hsl := hloc ("self" : Str) (List.mem_cons_self ..)
  refine ks_wpAt_execs_cons (ks_wpAt_Expr_any (hi := by unfold interactive; show (scope.kind == _ && _) = false; rw [hk]; rfl) (ks_wpAt_MethodCall (he := call_shape _ hpl) ?_))
  refine ks_wpAt_super_base (env := ksEnv qual scope s.heap.objs.size fI (.ref cda) cc) hks hkc rfl rfl (X1 _ _ lk) rfl har rfl (X1 _ _ lcda) rfl hvs hfile T.htop ?_
  refine ks_loadName_global hk hks (loadGlobal_builtin (env := ksEnv qual scope s.heap.objs.size fI (.ref cda) cc) (G.keeps hk1) (mg_none_of X G T.sup0) (Bn.keeps hk1) (hb.trans (by decide +kernel)) ⟨rfl, ?_⟩)
  refine wpAny_loadName_free hk hkc rfl ⟨_, X1 _ _ lcc, rfl⟩ ?_
  rw [harg]
  refine wpAny_loadName_local hk hsl hns hself ?_
  refine ks_wpAny_isType_cls hD1 hD2 ⟨rfl, ?_⟩
  have hCC : Looks (model prog w) h1 (isSubtype (.ref C) (.ref C)) true := looks_mroIn X1 T.mro
  refine ks_wpAny_call_super hD1 hD2 hx1 rfl (fun c e => by cases e) hCC fun h2 e2 k2 => ?_
  have X2 : K.In h2 := X1.keeps k2
  have hx2 := k2 _ _ hx1
  have hns2 := hns.keeps k2
  have hmro : Looks (model prog w) h2 (mroOf (.ref C)) cd.mro := fun A Q E s k q => wpAny_bind ((looks_clsIn X2 hcl) A _ E s k (wpAny_pure q))
  have hI : Looks (model prog w) h2 (isInstance (.ref x) (.type "ValueError")) true := (InstAt.type (ox := exD C t0 none) (od := none) ⟨hx2, rfl, rfl, trivial⟩).andThen (looks_subIn X2 T.isV)
  have hxC : x ≠ C := fun e => by
    obtain ⟨_, _, _, _, _, _, _, _, _, _, _, _, _, _, _, hC, _⟩ := T.cls
    rw [e, hC] at hnx; cases hnx
  have hsup : alongIn K "__init__" ((cd.mro.dropWhile (· != .ref C)).drop 1) = some (some (.builtin "ValueError.__init__")) := by
    have := T.sup
    unfold ks_superIn at this
    rw [hcl] at this
    exact this
  refine kxs_getMethod kxs_ValueError e2 (looks_opaque X2 T.opq) hmro rfl X2 hsup hI hxC rfl ?_
  obtain ⟨u, hu⟩ : ∃ u, h2.objs.size = u := ⟨_, rfl⟩
  have hmw : (h2.push (kxs_mw "ValueError.__init__" x)).get? u = some (kxs_mw "ValueError.__init__" x) := by rw [← hu]; exact Heap.get?_push_at rfl rfl
  have k3 : ∀ b o, h2.get? b = some o → (h2.push (kxs_mw "ValueError.__init__" x)).get? b = some o := fun b o e => Heap.get?_push_of_some _ e
  have X3 := X2.keeps k3
  rw [hu]
  show wpAny _ _ (callWith p4 (.ref u) [] (backTo p4 (starEach [.Constant (.str m) j p3] _)) []) _ _ _
  refine kxs_callWith (i := "ValueError.__init__") (x := x) rfl ?_
  refine evalArgs_plain (spliced_cons ?_)
  show wpAny _ _ (eval (.Constant (.str m) j p3) _) _ _ _
  refine wpAny_Constant_str ?_
  refine spliced_nil ⟨hmw, ?_⟩
  have hx3 := k3 _ _ hx2
  refine call_mw T X3 hmw hx3 (by show 1 ≤ sizeLine; rw [sizeLine_eq]; omega) fun h4 t4 k4 hx4 => ?_
  have X4 : K.In h4 := fun b o e => k4 b o (fun z => by rw [z, hnx] at e; cases e) (X3 b o e)
  have hns4 : h4.Ns s.heap.objs.size (fun y => ((("self" : Str) :: f0 :: fs).zip (Value.ref x :: v0 :: vs)).reverse.lookup y) := ns_keep (hns2.keeps k3) fun o q => k4 _ _ hxL q
  -- the stores
  refine wpAt_of_wpAny (wpAny_execs_cons (plainObj_wpAny_Assign_Attribute ?_))
  have hf0l := hloc f0 (by simp)
  refine ldK (v := v0) hns4 hf0 (ldK (v := .ref x) hns4 hself ?_ hk hsl (by decide)) hk hf0l (T.nod f0 (List.mem_cons_self ..))
  refine set_plain X4 (ox := exD C t4 none) (od := none) ⟨hx4, rfl, rfl, trivial⟩ T.sa ?_
  refine exc_osa X4 hx4 hcl hmr hhd (T.noN f0 (List.mem_cons_self ..)) fun h5 tk5 dx k5 dn dne hx5 hD5 => ?_
  have dn : h4.objs.size ≤ dx := dn
  have hL5 : s.heap.objs.size < h4.objs.size := hns4.lt
  have hdL : dx ≠ s.heap.objs.size := by omega
  have X5 : K.In h5 := fun b o e => k5 b o (fun z => by rw [z, hnx] at e; cases e) (X4 b o e)
  have hKd : K.lookup dx = none := by
    cases e : K.lookup dx with
    | none => rfl
    | some o =>
      exact absurd (Heap.lt_size (show h4.get? dx = some o from X4 _ _ e)) (Nat.not_lt.mpr dn)
  have hns5 := ns_keep hns4 fun o q => k5 _ _ hxL q
  have old : ∀ b o, b ≠ x → s.heap.get? b = some o → h5.get? b = some o := fun b o hb e => k5 b o hb (k4 b o hb (k3 b o (k2 b o (hk1 b o e))))
  refine stores_rest T hk hself hsl hdL dne fs vs sts h5 tk5 (fun y => if y = f0 then some v0 else none) [f0] _ hst2 hlen (fun y hy => ⟨List.mem_cons_of_mem _ hy, hloc y (by simp [hy])⟩) (fun i y hi => ?_) X5 (fun b e => by rw [e]; exact hKd) hns5 hx5 hD5 (fun y hy => ?_) (by simp; omega) fun h' tk' k' hD' => ?_
  · have hi' : i < vs.length := by rw [← hlen]; exact (List.getElem?_eq_some_iff.mp hi).1
    rw [List.getElem?_eq_getElem hi']
    refine look _ _ ?_
    rw [List.zip_cons_cons, List.zip_cons_cons]
    refine List.mem_cons_of_mem _ (List.mem_cons_of_mem _ (List.mem_of_getElem? (i := i) ?_))
    rw [List.getElem?_zip_eq_some]
    exact ⟨hi, List.getElem?_eq_getElem hi'⟩
  · by_cases e : y = f0
    · simp [e]
    · simp [e] at hy
  · exact hq h' tk' dx t4 ⟨fun b o hb e => k' b o (fun z => absurd (Heap.lt_size (show s.heap.get? dx = some o from z ▸ e)) (Nat.not_lt.mpr (Nat.le_trans (Nat.le_of_lt hL5) dn))) (old b o hb e), k' _ _ dne.symm hx5, Nat.le_trans (Nat.le_of_lt hL5) dn, dne, hD'⟩
end
end SupX
end PySem
set_option Elab.async false
set_option linter.all false
set_option maxRecDepth 100000
set_option maxHeartbeats 4000000
namespace PySem
namespace SupX
open PySem.W PySem.Calls PyProof.Rows PySem.HandSPX
/-- a made exception -/
structure Made (h h' : Heap) (e C d : Addr) (mD : Str → Option Value) : Prop where
  keep : ∀ b o, h.get? b = some o → h'.get? b = some o
  new : h.objs.size ≤ e
  obj : ∃ t, h'.get? e = some (exD C t (some d))
  dbig : h.objs.size ≤ d
  dne : d ≠ e
  ns : h'.Ns1 d mD
section
variable {prog : Program} {w : World} {A : Around} {E : Value → Shared → Prop} {K : Frag} {C fI : Addr} {fs : List Str}
theorem sup_made {f0 : Str} {R : Result → Shared → Prop} {s : Shared} {mg mb : Str → Option Value} (T : SupT prog K C fI (f0 :: fs)) {v0 : Value} {vs : List Value} (hlen : fs.length = vs.length) (hfl : fs.length ≤ 900) (X : K.In s.heap) (hlim : s.heap.NoLimit)
    (G : s.heap.Ns mainGlobals mg) (Bn : s.heap.Ns builtinsNs mb) (hb : mb "super" = bootBuiltins "super") (hroom : A.depth + 1 < recursionLimit)
    (hq : ∀ h' tk e d, Made s.heap h' e C d (putAll (fun y => if y = f0 then some v0 else none) fs vs) → R (.ok (.ret (.ref e))) { s with heap := h', toks := tk }) :
    codeAny (model prog w) A (.call (.ref C) ⟨v0 :: vs, []⟩) R s := by
  obtain ⟨nm, q, N, bs, bm, sn, sub, ab, col, dd, k0, k1, k2, k3, k5, hC, hbm⟩ := T.cls
  obtain ⟨hp, g, dr, tk, os⟩ := s
  have k : ∀ b o, hp.get? b = some o → ((hp.push (kdv_tup (v0 :: vs))).push (excO C hp.objs.size)).get? b = some o := fun b o e => Heap.get?_push_of_some _ (Heap.get?_push_of_some _ e)
  have hget : ((hp.push (kdv_tup (v0 :: vs))).push (excO C hp.objs.size)).get? (hp.objs.size + 1) = some (excO C hp.objs.size) := by heap_get
  have hnx : K.lookup (hp.objs.size + 1) = none := by
    cases e : K.lookup (hp.objs.size + 1) with
    | none => rfl
    | some o =>
      have z : hp.get? (hp.objs.size + 1) = some o := X _ _ e
      exact absurd (Nat.lt_of_succ_lt (Heap.lt_size z)) (Nat.lt_irrefl _)
  have hsz : (v0 :: vs).length ≤ sizeLine := by
    rw [sizeLine_eq, List.length_cons, ← hlen]
    omega
  refine call_own F.excBase_ValueError (fun X => refsVE_contains X bm hbm) (X _ _ hC) (looks_findIn X T.iC) (fun self => bind_fn X self T.tI) hsz ?_
  refine sup_init (s := ⟨(hp.push (kdv_tup (v0 :: vs))).push (excO C hp.objs.size), g, dr, tk, os⟩) T hlen hfl (X.keeps k) (hlim.keeps k) (G.keeps k) (Bn.keeps k) hb hget hnx ?_ fun h' tk' dx t ⟨k', hx, dn, dne, hns⟩ => ?_
  · show A.depth + 1 < recursionLimit
    exact hroom
  · have old : ∀ b o, hp.get? b = some o → h'.get? b = some o := fun b o e => k' b o (Nat.ne_of_lt (Nat.lt_succ_of_lt (Heap.lt_size e))) (k b o e)
    have z : hp.objs.size + 1 + 1 ≤ dx := by
      first
        | (simpa only [Heap.size_push] using dn)
        | exact dn
        | (have q := dn; rw [Heap.size_push, Heap.size_push] at q; exact q)
    exact ⟨rfl, hq h' tk' (hp.objs.size + 1) dx ⟨old, Nat.le_succ _, ⟨_, hx⟩, Nat.le_trans (Nat.le_trans (Nat.le_succ _) (Nat.le_succ _)) z, dne, hns⟩⟩
end
end SupX
end PySem
namespace M
open PySem L2 PySem.W PySem.Calls PyProof.Rows
theorem zip_look : ∀ {fs : List Str} {vs : List V} {us : List Value} (mD : Str → Option Value) (pre : List (Str × V)), Vals vs us → fs.length = vs.length → fs.Nodup → (∀ f, f ∈ fs → pre.lookup f = none) → (∀ f, RelO (pre.lookup f) (mD f)) → ∀ f, RelO ((pre ++ fs.zip vs).lookup f) (PySem.SupX.putAll mD fs us f)
  | [], [], _, mD, pre, .nil, _, _, _, h, f => by
    simp only [List.zip_nil_left, List.append_nil]
    exact h f
  | x :: fs, v :: vs, u :: us, mD, pre, .cons r rs, hl, hn, hd, h, f => by
    rw [List.nodup_cons] at hn
    have e : pre ++ (x :: fs).zip (v :: vs) = (pre ++ [(x, v)]) ++ fs.zip vs := by simp
    rw [e]
    show RelO _ (PySem.SupX.putAll (fun y => if y = x then some u else mD y) fs us f)
    have look : ∀ g, (pre ++ [(x, v)]).lookup g = (pre.lookup g).or (if g = x then some v else none) := fun g => by
      rw [List.lookup_append]
      congr 1
      by_cases hg : g = x
      · subst hg; simp [List.lookup]
      · rw [if_neg hg]
        have : (g == x) = false := by simpa using hg
        simp [List.lookup, this]
    refine zip_look _ (pre ++ [(x, v)]) rs (Nat.succ.inj hl) hn.2 (fun g hg => ?_) (fun g => ?_) f
    · rw [look, hd g (List.mem_cons_of_mem _ hg), if_neg (fun (z : g = x) => hn.1 (z ▸ hg))]; rfl
    · rw [look]
      by_cases hg : g = x
      · subst hg
        rw [hd g (List.mem_cons_self ..), if_pos rfl, if_pos rfl]
        exact r
      · rw [if_neg hg, if_neg hg, Option.or_none]
        exact h g
  | [], _ :: _, _, _, _, .cons _ _, hl, _, _, _, _ => by cases hl
  | _ :: _, [], _, _, _, .nil, hl, _, _, _, _ => by cases hl
section
variable {X : Cx} {C fI : Addr}
/-- C(e, ..), what it leaves -/
def tMkS (C : Addr) (fs : List Str) (ta : TA) : L2.St → Hp → XK → Prop := fun σ H Q => ta σ H fun vs H1 => fs.length = vs.length ∧ ∀ d, H1 d = none → Q (.ref C) (some d) (upd H1 d (.xd (fs.zip vs)))
theorem pmk_sup {x : Str} {f0 : Str} {fs : List Str} {e : Expr} {es : List Expr} {ta : TA} {p pos : Pos} {k : Nat} (T : PySem.SupX.SupT X.prog X.K C fI (f0 :: fs)) (hfl : fs.length ≤ 900) (gC : X.mg x = some (.ref C)) (kC : PySem.W.keepIn X.K (.ref C) = true) (r : Raises X (.ref C)) (hr : Room k X.A)
    (ha : PA X (e :: es) ta) (hg : Gl X x := by rfl) (hdb : (x == ("__debug__" : Str)) = false := by decide)
    (he : starEach (e :: es) X.env = (false, eval e X.env) :: starEach es X.env := by rfl) (hpl : (backTo pos (starEach es X.env)).any (·.1) = false := by rfl) :
    L2N.PMk X (.Call (.Name x p) (e :: es) [] pos) (tMkS C (f0 :: fs) ta) := by
  intro pins s σ H Q I h
  refine wpAny_Call_Name_kw (ld_glob I hg gC ?_ hdb)
  refine PySem.W.callWith_K (h₀ := X.base) I.ok.mod.kin kC (thn (ha.run pos pins s σ H _ I h) fun us s1 hh => ?_) he hpl
  obtain ⟨vs, H1, I1, r1, hl, q1⟩ := hh
  refine ⟨I1.kIn, ?_⟩
  cases r1 with
  | nil => cases hl
  | cons rv rn =>
    rename_i v u vs' us''
    show wpAny _ _ (call (.ref C) (_ :: _)) _ _ _
    have hlim := I1.nolimit
    obtain ⟨mb, hb1, hb2⟩ := I1.mod.blt
    have hlen : fs.length = us''.length := by
      have := rn.length
      simp only [List.length_cons] at hl
      omega
    have hnd : (f0 :: fs).Nodup := (List.nodup_cons.mp T.nd).2
    have G := I1.mod.glob.keeps I1.bk
    have Bn := hb1.keeps I1.bk
    obtain ⟨hp, g, dr, tk, os⟩ := s1
    refine wpAny_call (PySem.SupX.sup_made T hlen hfl I1.kIn hlim G Bn (hb2 _ (by decide)) (by have := hr.dp; omega) fun h' tk' e d M => ?_)
    show L2N.MkP X pins σ Q (.ref e) ⟨h', g, dr, tk', os⟩
    obtain ⟨t, hoe⟩ := M.obj
    have hns := M.ns
    obtain ⟨G', g1, g2⟩ := restrict h' fun b => decide (b ≠ e)
    have gk : ∀ b, b ≠ e → G'.get? b = h'.get? b := fun b hb => g1 b (decide_eq_true hb)
    have ge : G'.get? e = none := g2 e (by simp)
    have old : ∀ b o, hp.get? b = some o → G'.get? b = some o := fun b o q => (gk b (Nat.ne_of_lt (Nat.lt_of_lt_of_le (Heap.lt_size q) M.new))).trans (M.keep b o q)
    have ob : ObjOk X.prog X.w (upd H1 d (.xd ((f0 :: fs).zip (v :: vs')))) G' d (.xd ((f0 :: fs).zip (v :: vs'))) := by
      refine ⟨_, hns.at (fun o q => (gk d M.dne).trans q), fun f => ?_⟩
      have z := zip_look (fun _ => none) [] (show Vals (v :: vs') (u :: us'') from .cons rv rn) hl hnd (fun _ _ => rfl) (fun _ => True.intro) f
      exact z
    have J : L2.Inv X pins σ (upd H1 d (.xd ((f0 :: fs).zip (v :: vs')))) ⟨G', g, dr, tk', os⟩ := I1.laid (t' := tk') old M.dbig ob
    refine ⟨e, _, _, ⟨G', g, dr, tk', os⟩, _, .ref C, some d, rfl, J, fun b o q => ?_, ge, hoe, ⟨rfl, rfl, fun vs e => by cases e; rfl⟩, rfl, rfl, ?_, rfl, I1.bare, r, q1 d (I1.hok.fresh M.dbig)⟩
    · by_cases hb : b = e
      · have q' : G'.get? b = some o := q
        rw [hb, ge] at q'; cases q'
      · exact (gk b hb).symm.trans q
    · rw [upd_ne (Ne.symm M.dne)]
      exact I1.hok.fresh M.new
end
end M
set_option Elab.async false
set_option linter.all false
set_option maxRecDepth 100000
set_option maxHeartbeats 4000000
namespace M
open PySem L2
/-! ### the handled exception as a value: its number among the classes is xix -/
def xix : Nat := 1000000
def Kn.at (k : Kn) (a : Addr) : Kn := ⟨k.K, fun i => if i = xix then some (a, []) else k.cl i⟩
mutual
/-- the handled exception is nowhere in it -/
def D.noX : D → Bool
  | .cls c => decide (c ≠ xix)
  | .obj c xs => decide (c ≠ xix) && D.noXs xs
  | .tup xs => D.noXs xs
  | .lst xs => D.noXs xs
  | .dic _ xs => D.noXs xs
  | .dit _ xs => D.noXs xs
  | _ => true
def D.noXs : List D → Bool
  | [] => true
  | x :: xs => x.noX && D.noXs xs
end
theorem Kn.at_cl {k : Kn} {a : Addr} {i : Nat} (h : i ≠ xix) : (k.at a).cl i = k.cl i := if_neg h
theorem Kn.up {k : Kn} {a : Addr} (h0 : k.cl xix = none) {i : Nat} {p : Addr × List Str} (h : k.cl i = some p) : (k.at a).cl i = some p := by
  rw [Kn.at_cl]; exact h
  rintro rfl; rw [h0] at h; cases h
mutual
theorem RD.up {k : Kn} {G : Hp} {a : Addr} (h0 : k.cl xix = none) : ∀ {d : D} {v : V}, RD k G d v → RD (k.at a) G d v
  | _, _, .non => .non
  | _, _, .bl b => .bl b
  | _, _, .int i => .int i
  | _, _, .str x => .str x
  | _, _, .ty n => .ty n
  | _, _, .tup h r => .tup h (RDs.up h0 r)
  | _, _, .lst h r => .lst h (RDs.up h0 r)
  | _, _, .scr h => .scr h
  | _, _, .cls h => .cls (Kn.up h0 h)
  | _, _, .dic h l r => .dic h l (RDs.up h0 r)
  | _, _, .dit h l r => .dit h l (RDs.up h0 r)
  | _, _, .obj c h r => .obj (Kn.up h0 c) h (RDs.up h0 r)
theorem RDs.up {k : Kn} {G : Hp} {a : Addr} (h0 : k.cl xix = none) : ∀ {ds : List D} {vs : List V}, RDs k G ds vs → RDs (k.at a) G ds vs
  | _, _, .nil => .nil
  | _, _, .cons a b => .cons (RD.up h0 a) (RDs.up h0 b)
end
mutual
theorem RD.down {k : Kn} {G : Hp} {a : Addr} : ∀ {d : D} {v : V}, RD (k.at a) G d v → d.noX = true → RD k G d v
  | _, _, .non, _ => .non
  | _, _, .bl b, _ => .bl b
  | _, _, .int i, _ => .int i
  | _, _, .str x, _ => .str x
  | _, _, .ty n, _ => .ty n
  | _, _, .tup h r, q => by simp only [D.noX] at q; exact .tup h (RDs.down r q)
  | _, _, .lst h r, q => by simp only [D.noX] at q; exact .lst h (RDs.down r q)
  | _, _, .scr h, _ => .scr h
  | _, _, .cls h, q => by simp only [D.noX, decide_eq_true_eq] at q; rw [Kn.at_cl q] at h; exact .cls h
  | _, _, .dic h l r, q => by simp only [D.noX] at q; exact .dic h l (RDs.down r q)
  | _, _, .dit h l r, q => by simp only [D.noX] at q; exact .dit h l (RDs.down r q)
  | _, _, .obj c h r, q => by
    simp only [D.noX, Bool.and_eq_true, decide_eq_true_eq] at q
    rw [Kn.at_cl q.1] at c
    exact .obj c h (RDs.down r q.2)
theorem RDs.down {k : Kn} {G : Hp} {a : Addr} : ∀ {ds : List D} {vs : List V}, RDs (k.at a) G ds vs → D.noXs ds = true → RDs k G ds vs
  | _, _, .nil, _ => .nil
  | _, _, .cons a b, q => by
    simp only [D.noXs, Bool.and_eq_true] at q
    exact .cons (RD.down a q.1) (RDs.down b q.2)
end
theorem Gc.up {mg : Str → Option Value} {k : Kn} {x : Str} {d : D} {a : Addr} (h0 : k.cl xix = none) (h : Gc mg k x d) : Gc mg (k.at a) x d := by
  obtain ⟨v, u, h1, h2, h3⟩ := h.ex
  exact ⟨v, u, h1, h2, fun G => (h3 G).up h0⟩
/-! ### defs that may raise -/
section
variable {P : Program} {w : World} {K : PySem.W.Frag} {mg : Str → Option Value} {base : Heap}
theorem fn_okX {k : Kn} {fr : Bool} {as : List Nat} {x qual : Str} {params : Arguments} {body : List Stmt} {scope : Scope} {dvs : List V} {kws : List (Str × V)} {f : Addr} {fd : FuncData} {N ps : List Str} {lv : Nat} {s : FS} (F : FunD K x qual params body scope dvs kws f fd) (S : FnScope N ps scope)
    (hb : ∀ (cdv : Value) (A : Around) (outer : List PySem.Env) (sh : Shared) (H G0 : Hp) (E : XK), Room lv (A.deeper (PyProof.Rows.envOfC qual scope sh.heap.objs.size f cdv)) → L2N.Takes (cxOf (L2N.CX P w) P w K mg base N qual scope f cdv A outer sh H E) (liftX E) →
      PB' (cxOf (L2N.CX P w) P w K mg base N qual scope f cdv A outer sh H E) ⟨k, H, G0, liftX E⟩ fr as body s) :
    FnOk P w K mg base (L2N.CX P w) (lv + 1) f fd ps (SpF k fr ps.length (runF fr N.length s)) := by
  refine F.ok S (fun vs H Q E q => q.1) fun cdv A outer sh H vs Q E hr q => ?_
  exact body_ok (X := cxOf (L2N.CX P w) P w K mg base N qual scope f cdv A outer sh H E) (fun G0 => hb cdv A outer sh H G0 E hr (L2N.takes_of rfl rfl rfl rfl)) q
theorem init_okX {k : Kn} {as : List Nat} {x qual : Str} {params : Arguments} {body : List Stmt} {scope : Scope} {dvs : List V} {kws : List (Str × V)} {f : Addr} {fd : FuncData} {N ps : List Str} {lv ci : Nat} {s : FS} (F : FunD K x qual params body scope dvs kws f fd) (S : FnScope N ps scope) (h0 : 0 ∉ as)
    (hb : ∀ (cdv : Value) (A : Around) (outer : List PySem.Env) (sh : Shared) (H H0 G0 : Hp) (E : XK), Room lv (A.deeper (PyProof.Rows.envOfC qual scope sh.heap.objs.size f cdv)) → L2N.Takes (cxOf (L2N.CX P w) P w K mg base N qual scope f cdv A outer sh H E) (liftX E) →
      PB' (cxOf (L2N.CX P w) P w K mg base N qual scope f cdv A outer sh H E) ⟨k, H0, G0, liftX E⟩ false as body s) :
    FnOk P w K mg base (L2N.CX P w) (lv + 1) f fd ps (SpN k ci ps.length (runN N.length ci s)) := by
  refine F.ok S (fun vs H Q E q => q.1) fun cdv A outer sh H vs Q E hr q => ?_
  exact body_init (X := cxOf (L2N.CX P w) P w K mg base N qual scope f cdv A outer sh H E) h0 (fun H0 G0 => hb cdv A outer sh H H0 G0 E hr (L2N.takes_of rfl rfl rfl rfl)) q
end
/-- such a def, wherever it is called -/
structure CalleeX (P : Program) (w : World) (K : PySem.W.Frag) (mg : Str → Option Value) (base : Heap) (k : Kn) (lv : Nat) (x : Str) (n : Nat) (fr : Bool) (den : List D → R D) : Prop where
  ex : ∃ (f : Addr) (fd : FuncData) (ps : List Str), ps.length = n ∧ FnOk P w K mg base (L2N.CX P w) lv f fd ps (SpF k fr n den) ∧ mg x = some (.ref f) ∧ PySem.W.keepIn K (.ref f) = true ∧ Binds K fd ps []
structure MethodX (P : Program) (w : World) (K : PySem.W.Frag) (mg : Str → Option Value) (base : Heap) (k : Kn) (lv : Nat) (ci : Nat) (m : Str) (n : Nat) (fr : Bool) (den : List D → R D) : Prop where
  ex : ∃ (C f : Addr) (fd : FuncData) (ps nm : List Str), ps.length = n ∧ k.cl ci = some (C, nm) ∧ m ∉ nm ∧ Cls K C ∧ Meth K C m f ∧ FnOk P w K mg base (L2N.CX P w) lv f fd ps (SpF k fr n den) ∧ Binds K fd ps []
structure MakerX (P : Program) (w : World) (K : PySem.W.Frag) (mg : Str → Option Value) (base : Heap) (k : Kn) (lv : Nat) (x : Str) (ci n : Nat) (den : List D → R D) : Prop where
  ex : ∃ (C f : Addr) (fd : FuncData) (ps : List Str) (nm : List Str), ps.length = n + 1 ∧ k.cl ci = some (C, nm) ∧ Mk K C f ∧ FnOk P w K mg base (L2N.CX P w) lv f fd ps (SpN k ci (n + 1) den) ∧ mg x = some (.ref C) ∧ Binds K fd ps []
section
variable {X : Cx} {c : Cf} {kd k1 k2 k3 : Kd} {a b e o : Expr} {f g h : FE} {pos apos : Pos} {fr : Bool} {x : Str} {den : List D → R D} {ci : Nat}
def eCX (o : List D → R D) (g : FA) : FE := fun S => g S >>= fun xs => o xs
theorem callX_go {n : Nat} {fa : FA} {σ : L2.St} {H : Hp} {Q : VK} (hl : ∀ S ds, fa S = .ok ds → ds.length = n) (q : RdE c (kdOf fr) (eCX den fa) σ H Q) : RdA c false fa σ H fun vs H1 => SpF c.k fr n den vs H1 Q (WE c.W σ) := by
  obtain ⟨G, S, rel, p⟩ := q
  have p : PostE c (kdOf fr) G S σ H Q (fa S >>= fun ds => den ds) := p
  refine ⟨G, S, rel, ?_⟩
  cases e0 : fa S with
  | exc x => rw [e0] at p; exact p
  | fail => rw [e0] at p; exact p
  | ok ds =>
    rw [e0] at p
    intro vs G1 H1 s1 q1
    have q1 : RDs c.k G1 ds vs := q1
    refine ⟨by rw [← q1.length]; exact hl S ds e0, G1, ds, s1.gh, q1, ?_⟩
    have p : PostE c (kdOf fr) G S σ H Q (den ds) := p
    cases e1 : den ds with
    | ok d => rw [e1] at p; exact fun v G' H' s2 r2 => p v G' H' (s1.trans s2) (r2.mono s1.h)
    | exc x =>
      rw [e1] at p
      have p : PX c σ x := p
      exact fun _ cls da G' H' s2 xr => p cls da G' H' ((rel.grow s1).st.trans s2) xr
    | fail => rw [e1] at p; exact p.elim
theorem d_callX {lv m n : Nat} {p : Pos} {es : List Expr} {fa : FA} (F : CalleeX X.prog X.w X.K X.mg X.base c.k lv x n fr den) (hr : Room m X.A) (hle : lv ≤ m) (tk : L2N.Takes X c.W) (ha : PA' X c false (e :: es) fa) (hl : Len n fa) (hg : Gl X x := by rfl) (hdb : (x == ("__debug__" : Str)) = false := by decide)
    (hs : starEach (e :: es) X.env = (false, eval e X.env) :: starEach es X.env := by rfl) (hs2 : ((backTo pos (starEach es X.env)).any fun x => x.1) = false := by rfl) : PE' X c (kdOf fr) (.Call (.Name x p) (e :: es) [] pos) (eCX den fa) := by
  obtain ⟨f, fd, ps, hn, ok, hm, hk, hb⟩ := F.ex
  exact peI (pe_callS ok (hr.mono hle) hg hm hk hb (fun σ => L2N.passAt tk σ) ha hdb hs hs2) fun σ H Q q => callX_go hl q
/-! methods -/
def tMethS (C : Addr) (m : Str) (sp : Sp) (E : L2.St → XK) (ta : TE) (t : TA) : TE := fun σ H Q => ta σ H fun x H1 => ∃ a dx fs, x = .ref a ∧ H1 a = some (.ins C dx fs) ∧ fs.lookup m = none ∧ t σ H1 fun vs H2 => sp (x :: vs) H2 Q (E σ)
theorem pe_methS {CX : CXT} {E : L2.St → XK} {k : Nat} {C f : Addr} {fd : FuncData} {ps : List Str} {sp : Sp} {m : Str} {es : List Expr} {ta : TE} {t : TA} {pl : Sem Bool} (he : PE X o ta) (c : Cls X.K C) (hm : Meth X.K C m f) (F : FnOk X.prog X.w X.K X.mg X.base CX k f fd ps sp) (hr : Room k X.A) (hb : Binds X.K fd ps []) (hx : ∀ σ, PassesAt CX X σ (E σ)) (ha : PA X (e :: es) t)
    (hst : starEach (e :: es) X.env = (false, eval e X.env) :: starEach es X.env := by rfl) (hpl : (backTo pos (starEach es X.env)).any (·.1) = false := by rfl)
    (ht : eval (.Call (.Attribute o m apos) (e :: es) [] pos) X.env = (do
      let ov ← eval o X.env
      standAt apos.atName
      let (f, first) ← holding [ov] (getMethod ov m pl)
      callWith pos f first (backTo pos (starEach (e :: es) X.env)) (backToKw pos (keywordEach [] X.env))) := by rfl) :
    PE X (.Call (.Attribute o m apos) (e :: es) [] pos) (tMethS C m sp E ta t) := by
  refine ⟨fun pins s σ H Q I h => ?_⟩
  refine PySem.W.methodCall_KW (pl := pl) (thn (he.run pins s σ H _ I h) fun u s1 ⟨x, H1, I1, rx, a, dx, fs, ex, ea, l, q⟩ => ?_) ht
  subst ex
  obtain rfl : u = Value.ref a := rx
  refine getmeth_ok I1 ea c hm l ?_
  refine PySem.W.callWith_K (first := [.ref a]) (h₀ := X.base) I.ok.mod.kin hm.kp (thn (ha.run pos pins s1 σ H1 _ I1 q) fun us s2 ⟨vs, H2, I2, r, q2⟩ => ⟨I2.kIn, ?_⟩) hst hpl
  exact run_fnS (us := .ref a :: us) (vs := .ref a :: vs) F hr hb (hx σ) I2 (.cons rfl r) q2
theorem pe_methS0 {CX : CXT} {E : L2.St → XK} {k : Nat} {C f : Addr} {fd : FuncData} {ps : List Str} {sp : Sp} {m : Str} {ta : TE} {pl : Sem Bool} (he : PE X o ta) (c : Cls X.K C) (hm : Meth X.K C m f) (F : FnOk X.prog X.w X.K X.mg X.base CX k f fd ps sp) (hr : Room k X.A) (hb : Binds X.K fd ps []) (hx : ∀ σ, PassesAt CX X σ (E σ))
    (ht : eval (.Call (.Attribute o m apos) [] [] pos) X.env = (do
      let ov ← eval o X.env
      standAt apos.atName
      let (f, first) ← holding [ov] (getMethod ov m pl)
      callWith pos f first (backTo pos (starEach [] X.env)) (backToKw pos (keywordEach [] X.env))) := by rfl) :
    PE X (.Call (.Attribute o m apos) [] [] pos) (tMethS C m sp E ta tNil) := by
  refine ⟨fun pins s σ H Q I h => ?_⟩
  refine PySem.W.methodCall_KW (pl := pl) (thn (he.run pins s σ H _ I h) fun u s1 ⟨x, H1, I1, rx, a, dx, fs, ex, ea, l, q⟩ => ?_) ht
  subst ex
  obtain rfl : u = Value.ref a := rx
  refine getmeth_ok I1 ea c hm l ?_
  exact PySem.W.callWith_K0 I1.kIn hm.kp (run_fnS (us := [.ref a]) (vs := [.ref a]) F hr hb (hx σ) I1 (.cons rfl .nil) q)
def eMX (ci : Nat) (den : List D → R D) (f : FE) (fa : FA) : FE := fun S => f S >>= fun o => if o.isObj ci then fa S >>= fun ds => den (o :: ds) else .fail
theorem methX_go {n : Nat} {C : Addr} {nm : List Str} {m : Str} {fa : FA} {σ : L2.St} {H : Hp} {Q : VK} (hcl : c.k.cl ci = some (C, nm)) (hmn : m ∉ nm) (hl : Len n fa) (q : RdE c (kdOf fr) (eMX ci den f fa) σ H Q) :
    RdE c .st f σ H fun x H1 => ∃ a dx fs, x = .ref a ∧ H1 a = some (.ins C dx fs) ∧ fs.lookup m = none ∧ RdA c false fa σ H1 fun vs H2 => SpF c.k fr (n + 1) den (x :: vs) H2 Q (WE c.W σ) := by
  obtain ⟨G, S, rel, p⟩ := q
  refine rdE_go (g := fun o => if o.isObj ci then fa S >>= fun ds => den (o :: ds) else .fail) (Post := PostE c (kdOf fr) G S σ H Q) rel p (fun _ z => z) (fun z => z) fun d v G1 H1 s1 q1 p1 => ?_
  by_cases ho : d.isObj ci = true
  · rw [if_pos ho] at p1
    cases d with
    | obj c' ds =>
      have hc : c' = ci := by simpa [D.isObj] using ho
      subst hc
      have q1 : RD c.k G1 (.obj c' ds) v := q1
      cases q1 with
      | @obj _ _ ad CA dx nm' vs' hcl' hG hr =>
        rw [hcl] at hcl'; cases hcl'
        refine ⟨ad, dx, _, rfl, s1.gh _ _ hG, zip_none hmn, G1, S, rel.grow s1, ?_⟩
        cases e0 : fa S with
        | exc x => rw [e0] at p1; exact p1
        | fail => rw [e0] at p1; exact p1
        | ok as =>
          rw [e0] at p1
          intro vs G2 H2 s2 q2
          have q2 : RDs c.k G2 as vs := q2
          refine ⟨by simp [← q2.length, hl S as e0], G2, .obj c' ds :: as, s2.gh, .cons (.obj hcl (s2.g _ _ hG) (hr.mono s2.g)) q2, ?_⟩
          have p1 : PostE c (kdOf fr) G S σ H Q (den (.obj c' ds :: as)) := p1
          cases e1 : den (.obj c' ds :: as) with
          | ok d => rw [e1] at p1; exact fun v G' H' s3 r3 => p1 v G' H' ((s1.trans s2).trans s3) (r3.mono (s1.h.trans s2.h))
          | exc x =>
            rw [e1] at p1
            have p1 : PX c σ x := p1
            exact fun _ cls da G' H' s3 xr => p1 cls da G' H' (((rel.grow s1).grow s2).st.trans s3) xr
          | fail => rw [e1] at p1; exact p1.elim
    | _ => simp [D.isObj] at ho
  · rw [if_neg ho] at p1; exact p1.elim
theorem d_methX {lv m' : Nat} (ci : Nat) {m : Str} {n : Nat} {es : List Expr} {fa : FA} {pl : Sem Bool} (F : MethodX X.prog X.w X.K X.mg X.base c.k lv ci m (n + 1) fr den) (hr : Room m' X.A) (hle : lv ≤ m') (tk : L2N.Takes X c.W) (ho : PE' X c .st o f) (ha : PA' X c false (e :: es) fa) (hl : Len n fa)
    (hst : starEach (e :: es) X.env = (false, eval e X.env) :: starEach es X.env := by rfl) (hpl : (backTo pos (starEach es X.env)).any (·.1) = false := by rfl)
    (ht : eval (.Call (.Attribute o m apos) (e :: es) [] pos) X.env = (do
      let ov ← eval o X.env
      standAt apos.atName
      let (f, first) ← holding [ov] (getMethod ov m pl)
      callWith pos f first (backTo pos (starEach (e :: es) X.env)) (backToKw pos (keywordEach [] X.env))) := by rfl) :
    PE' X c (kdOf fr) (.Call (.Attribute o m apos) (e :: es) [] pos) (eMX ci den f fa) := by
  obtain ⟨C, fa', fd, ps, nm, hn, hcl, hmn, cl, mt, ok, bd⟩ := F.ex
  exact peI (pe_methS ho cl mt ok (hr.mono hle) bd (fun σ => L2N.passAt tk σ) ha hst hpl ht) fun σ H Q q => methX_go hcl hmn hl q
theorem d_methX0 {lv m' : Nat} (ci : Nat) {m : Str} {pl : Sem Bool} (F : MethodX X.prog X.w X.K X.mg X.base c.k lv ci m 1 fr den) (hr : Room m' X.A) (hle : lv ≤ m') (tk : L2N.Takes X c.W) (ho : PE' X c .st o f)
    (ht : eval (.Call (.Attribute o m apos) [] [] pos) X.env = (do
      let ov ← eval o X.env
      standAt apos.atName
      let (f, first) ← holding [ov] (getMethod ov m pl)
      callWith pos f first (backTo pos (starEach [] X.env)) (backToKw pos (keywordEach [] X.env))) := by rfl) :
    PE' X c (kdOf fr) (.Call (.Attribute o m apos) [] [] pos) (eMX ci den f fun _ => .ok []) := by
  obtain ⟨C, fa', fd, ps, nm, hn, hcl, hmn, cl, mt, ok, bd⟩ := F.ex
  refine peI (pe_methS0 ho cl mt ok (hr.mono hle) bd (fun σ => L2N.passAt tk σ) ht) fun σ H Q q => ?_
  have z := methX_go (n := 0) (fa := fun _ => .ok []) hcl hmn (fun S ds h => by cases h; rfl) q
  refine rdE_mono z fun x H1 q1 => ?_
  obtain ⟨a, dx, fs, e1, e2, e3, q2⟩ := q1
  refine ⟨a, dx, fs, e1, e2, e3, ?_⟩
  obtain ⟨G, S, rel, p⟩ := q2
  exact p [] G H1 (Step.refl rel.st.gh) .nil
end
end M
set_option Elab.async false
set_option linter.all false
set_option maxRecDepth 100000
set_option maxHeartbeats 4000000
namespace M
open PySem L2
section
variable {X : Cx} {c : Cf} {kd k1 k2 k3 : Kd} {a b e o : Expr} {f g h : FE} {pos apos : Pos} {fr : Bool} {x : Str} {den : List D → R D} {ci : Nat}
/-! ### a class whose __init__ may raise -/
theorem run_makeS {CX : CXT} {k : Nat} {C f : Addr} {fd : FuncData} {ps : List Str} {sp : Sp} {E : XK} {pins : List (Addr × Obj)} {σ : L2.St} {H : Hp} {s : Shared} {Q : VK} {us : List Value} {vs : List V} (Mm : Mk X.K C f) (F : FnOk X.prog X.w X.K X.mg X.base CX k f fd ps sp) (hr : Room (k + 1) X.A) (hb : Binds X.K fd ps [])
    (hx : ∀ (H : Hp) (s : Shared) (e : Value) (s' : Shared), L2.Inv X pins σ H s → CX X.stack H s E e s' → X.xe e s') (I : L2.Inv X pins σ H s) (r : Vals vs us)
    (h : ∀ x dx, H x = none → H dx = none → dx ≠ x → sp (.ref x :: vs) (upd (upd H dx (.own x)) x (.ins C dx [])) (fun v H2 => v = .non ∧ Q (.ref x) H2) E) :
    wpAny (model X.prog X.w) X.A (call (.ref C) us) (EP X pins σ Q) X.xe s := by
  have hq := h (s.heap.objs.size + 1) s.heap.objs.size (I.hok.fresh (Nat.le_succ _)) (I.hok.fresh (Nat.le_refl _)) (Nat.ne_of_lt (Nat.lt_succ_self _))
  have I2 := L2.Inv.made (C := C) I
  have r2 : Vals (V.ref (s.heap.objs.size + 1) :: vs) (Value.ref (s.heap.objs.size + 1) :: us) := .cons rfl r
  have hl : (Value.ref (s.heap.objs.size + 1) :: us).length = ps.length := by
    have e := r2.length
    rw [F.len _ _ _ _ hq] at e
    exact e.symm
  have bb := hb _ (Value.ref (s.heap.objs.size + 1) :: us) I2.kIn (by rw [List.append_nil]; exact hl)
  rw [List.append_nil] at bb
  refine wpAny_call (make_map (f := f) I.kIn Mm.makes Mm.init (beq_iff_eq.mp Mm.fn) (codeAny_mono (F.run _ X.stack _ _ ⟨Value.ref (s.heap.objs.size + 1) :: us, []⟩ (Value.ref (s.heap.objs.size + 1) :: us) _ _ E (hr.make C us [])
    (I2.env0.make C us []) bb r2 hq) fun r s' hq' => ?_))
  cases r with
  | error e => exact hx _ _ e s' I2 hq'
  | ok fl =>
    cases fl with
    | ret u =>
      obtain ⟨v, H', I3, rv, ev, q3⟩ := I2.after hq'
      subst ev
      exact ⟨rv, ⟨V.ref (s.heap.objs.size + 1), H', I3, rfl, q3⟩⟩
    | next => exact False.elim hq'
    | brk => exact False.elim hq'
    | cont => exact False.elim hq'
def tMakeS (C : Addr) (sp : Sp) (E : L2.St → XK) (t : TA) : TE := fun σ H Q => t σ H fun vs H1 => ∀ x dx, H1 x = none → H1 dx = none → dx ≠ x → sp (.ref x :: vs) (upd (upd H1 dx (.own x)) x (.ins C dx [])) (fun v H2 => v = .non ∧ Q (.ref x) H2) (E σ)
theorem pe_makeS {CX : CXT} {E : L2.St → XK} {k : Nat} {C f : Addr} {fd : FuncData} {ps : List Str} {sp : Sp} {p : Pos} {es : List Expr} {t : TA} (Mm : Mk X.K C f) (F : FnOk X.prog X.w X.K X.mg X.base CX k f fd ps sp) (hr : Room (k + 1) X.A) (hg : Gl X x) (hm : X.mg x = some (.ref C)) (hb : Binds X.K fd ps []) (hx : ∀ σ, PassesAt CX X σ (E σ))
    (ha : PA X (e :: es) t) (hdb : (x == ("__debug__" : Str)) = false := by decide) (he : starEach (e :: es) X.env = (false, eval e X.env) :: starEach es X.env := by rfl) (hpl : (backTo pos (starEach es X.env)).any (·.1) = false := by rfl) :
    PE X (.Call (.Name x p) (e :: es) [] pos) (tMakeS C sp E t) := by
  refine ⟨fun pins s σ H Q I h => ?_⟩
  refine wpAny_Call_Name_kw (ld_glob I hg hm ?_ hdb)
  refine PySem.W.callWith_K (h₀ := X.base) I.ok.mod.kin Mm.kp (thn (ha.run pos pins s σ H _ I h) fun us s1 ⟨vs, H1, I1, r, q⟩ => ⟨I1.kIn, ?_⟩) he hpl
  exact run_makeS Mm F hr hb (fun H s e s' => hx σ pins H s e s') I1 r q
theorem makeX_go {C : Addr} {nm : List Str} {n : Nat} {fa : FA} {σ : L2.St} {H : Hp} {Q : VK} (hcl : c.k.cl ci = some (C, nm)) (hl : Len n fa) (q : RdE c .fr (eCX den fa) σ H Q) :
    RdA c false fa σ H fun vs H1 => ∀ x dx, H1 x = none → H1 dx = none → dx ≠ x → SpN c.k ci (n + 1) den (.ref x :: vs) (upd (upd H1 dx (.own x)) x (.ins C dx [])) (fun v H2 => v = .non ∧ Q (.ref x) H2) (WE c.W σ) := by
  obtain ⟨G, S, rel, p⟩ := q
  have p : PostE c .fr G S σ H Q (fa S >>= fun ds => den ds) := p
  refine ⟨G, S, rel, ?_⟩
  cases e0 : fa S with
  | exc x => rw [e0] at p; exact p
  | fail => rw [e0] at p; exact p
  | ok ds =>
    rw [e0] at p
    intro vs G1 H1 s1 q1 x dx hx hdx hne
    have q1 : RDs c.k G1 ds vs := q1
    have hgx : G1 x = none := s1.gh.free hx
    have ex1 : Ex H1 (upd (upd H1 dx (.own x)) x (.ins C dx [])) := (Ex.new hdx).upd hx
    refine ⟨by simp [← q1.length, hl S ds e0], x, vs, G1, ds, C, dx, nm, rfl, hcl, upd_same, hgx, s1.gh.trans ex1, q1, ?_⟩
    have p : PostE c .fr G S σ H Q (den ds) := p
    cases e1 : den ds with
    | ok d =>
      rw [e1] at p
      intro G' H' o ex hk gh hgx' gr ho ct
      refine ⟨rfl, p _ G' H' (s1.trans ⟨ex, fun b u q => hk b u (ne_of_none q hx) (ex1 b u q), gh, fun b u q => ?_⟩) ⟨x, o, rfl, hgx', s1.h.free hx, ho, ct⟩⟩
      rcases gr b u q with z | z
      · exact .inl z
      · exact .inr (ex1.free z)
    | exc y =>
      rw [e1] at p
      have p : PX c σ y := p
      intro _ cls da G' H' s2 xr
      have exl : Ex H1 (less (upd (upd H1 dx (.own x)) x (.ins C dx [])) x) := fun b u q => by
        rw [less_ne (ne_of_none q hx)]; exact ex1 b u q
      refine p cls da G' H' ((rel.grow s1).st.trans ⟨s2.g, fun b u q => s2.h b u (exl b u q), s2.gh, fun b u q => ?_⟩) xr
      rcases s2.gr b u q with z | z
      · exact .inl z
      · exact .inr (exl.free z)
    | fail => rw [e1] at p; exact p.elim
theorem d_makerX {lv m' n : Nat} {p : Pos} {es : List Expr} {fa : FA} (F : MakerX X.prog X.w X.K X.mg X.base c.k lv x ci n den) (hr : Room m' X.A) (hle : lv + 1 ≤ m') (tk : L2N.Takes X c.W) (ha : PA' X c false (e :: es) fa) (hl : Len n fa) (hg : Gl X x := by rfl) (hdb : (x == ("__debug__" : Str)) = false := by decide)
    (hs : starEach (e :: es) X.env = (false, eval e X.env) :: starEach es X.env := by rfl) (hs2 : ((backTo pos (starEach es X.env)).any fun x => x.1) = false := by rfl) : PE' X c .fr (.Call (.Name x p) (e :: es) [] pos) (eCX den fa) := by
  obtain ⟨C, f, fd, ps, nm, hn, hcl, mk, ok, hm, hb⟩ := F.ex
  exact peI (pe_makeS mk ok (hr.mono hle) hg hm hb (fun σ => L2N.passAt tk σ) ha hdb hs hs2) fun σ H Q q => makeX_go hcl hl q
/-! ### raise -/
/-- an own exception class without an __init__ -/
structure RaO (K : PySem.W.Frag) (mg : Str → Option Value) (k : Kn) (x : Str) (ci : Nat) : Prop where
  ex : ∃ C, k.cl ci = some (C, []) ∧ PySem.W.excIn K C [.type "ValueError", .type "Exception", .type "BaseException", .type "object"] "ValueError.__new__" = true ∧ mg x = some (.ref C) ∧ PySem.W.keepIn K (.ref C) = true ∧
    PySem.W.subIn K (.ref C) (.type "BaseException") = some true ∧ PySem.W.typeIn K (.ref C) = some (.type "type")
/-- .. with one that stores its parameters -/
structure RaI (P : Program) (K : PySem.W.Frag) (mg : Str → Option Value) (k : Kn) (x : Str) (ci : Nat) (fs : List Str) : Prop where
  ex : ∃ C fI, k.cl ci = some (C, fs) ∧ fs ≠ [] ∧ fs.length ≤ 900 ∧ PySem.SupX.SupT P K C fI fs ∧ mg x = some (.ref C) ∧ PySem.W.keepIn K (.ref C) = true ∧
    PySem.W.subIn K (.ref C) (.type "BaseException") = some true ∧ PySem.W.typeIn K (.ref C) = some (.type "type")
def sExc0 (ci : Nat) : FS := fun _ => .exc ⟨ci, []⟩
theorem s_raise0 {j : Nat} {p p2 pos' : Pos} {m : Str} (R : RaO X.K X.mg c.k x ci) (hc : X.calm = true) (tk : L2N.Takes X c.W) (hg : Gl X x := by rfl) (hdb : (x == ("__debug__" : Str)) = false := by decide) :
    PS' X c fr [] (.Raise (some (.Call (.Name x p) [.Constant (.str m) j p2] [] pos)) none pos') (sExc0 ci) := by
  obtain ⟨C, hcl, h1, h2, h3, h4, h5⟩ := R.ex
  refine psI (L2N.ps_raise hc tk (L2N.pmk_own PySem.F.excBase_ValueError h1 h2 h3 (raises_own h4 h5) hg hdb)) fun Dn σ H ⟨G, S, rel, p⟩ => ?_
  have p : PXs c ⟨ci, []⟩ := p
  exact p σ (.ref C) none G H rel.st ⟨C, [], hcl, rfl, .inl ⟨rfl, rfl, rfl⟩⟩
def sExcI (ci n : Nat) (fa : FA) : FS := fun S => fa S >>= fun ds => if ds.length = n then .exc ⟨ci, ds⟩ else .fail
theorem s_raiseI {m n : Nat} {p pos' : Pos} {es : List Expr} {fa : FA} {fs : List Str} (R : RaI X.prog X.K X.mg c.k x ci fs) (hn : fs.length = n) (hr : Room m X.A) (hc : X.calm = true) (tk : L2N.Takes X c.W) (ha : PA' X c false (e :: es) fa) (hg : Gl X x := by rfl) (hdb : (x == ("__debug__" : Str)) = false := by decide)
    (he : starEach (e :: es) X.env = (false, eval e X.env) :: starEach es X.env := by rfl) (hpl : (backTo pos (starEach es X.env)).any (·.1) = false := by rfl) :
    PS' X c fr [] (.Raise (some (.Call (.Name x p) (e :: es) [] pos)) none pos') (sExcI ci n fa) := by
  obtain ⟨C, fI, hcl, hne, hfl, T, h2, h3, h4, h5⟩ := R.ex
  cases fs with
  | nil => exact absurd rfl hne
  | cons f0 fs =>
  refine psI (L2N.ps_raise hc tk (pmk_sup T (by simp at hfl; omega) h2 h3 (raises_own h4 h5) hr ha hg hdb he hpl)) fun Dn σ H ⟨G, S, rel, p⟩ => ?_
  have p : PostS c fr [] G S σ H Dn (fa S >>= fun ds => if ds.length = n then .exc ⟨ci, ds⟩ else .fail) := p
  refine ⟨G, S, rel, ?_⟩
  cases e0 : fa S with
  | exc x => rw [e0] at p; exact p _
  | fail => rw [e0] at p; exact p
  | ok ds =>
    rw [e0] at p
    intro vs G1 H1 s1 q1
    have q1 : RDs c.k G1 ds vs := q1
    have p : PostS c fr [] G S σ H Dn (if ds.length = n then .exc ⟨ci, ds⟩ else .fail) := p
    by_cases hd : ds.length = n
    · rw [if_pos hd] at p
      have p : PXs c ⟨ci, ds⟩ := p
      refine ⟨by rw [hn, ← hd, q1.length], fun d hd0 => ?_⟩
      have sp := s1.trans (Step.new' (o := .xd ((f0 :: fs).zip vs)) s1.gh hd0)
      exact p σ (.ref C) (some d) _ _ (rel.grow sp).st ⟨C, f0 :: fs, hcl, rfl, .inr ⟨d, vs, rfl, upd_same, q1, by rw [hn, ← hd, q1.length]⟩⟩
    · rw [if_neg hd] at p; exact p.elim
end
end M
set_option Elab.async false
set_option linter.all false
set_option maxRecDepth 100000
set_option maxHeartbeats 4000000
namespace M
open PySem L2
/-! ### statements that raise, if at all, before they store -/
def PostS1 (c : Cf) (fr : Bool) (as : List Nat) (G : Hp) (S : Env) (σ : L2.St) (H : Hp) (Dn : Ends) : R (Fl × Env) → Prop
  | .ok z => PostS c fr as G S σ H Dn (.ok z)
  | .exc x => PX c σ x
  | .fail => False
def RdS1 (c : Cf) (fr : Bool) (as : List Nat) (f : FS) : TS := fun Dn σ H => ∃ G S, Rel c G S σ H ∧ PostS1 c fr as G S σ H Dn (f S)
abbrev PS1' (X : Cx) (c : Cf) (fr : Bool) (as : List Nat) (st : Stmt) (f : FS) : Prop := PS X st (RdS1 c fr as f)
abbrev PB1' (X : Cx) (c : Cf) (fr : Bool) (as : List Nat) (sts : List Stmt) (f : FS) : Prop := PSs X sts (RdS1 c fr as f)
theorem PostS1.of {c : Cf} {fr : Bool} {as : List Nat} {G : Hp} {S : Env} {σ : L2.St} {H : Hp} {Dn : Ends} {r : R (Fl × Env)} (p : PostS c fr as G S σ H Dn r) : PostS1 c fr as G S σ H Dn r := by
  cases r with
  | ok z => exact p
  | exc x => exact p σ
  | fail => exact p
section
variable {X : Cx} {c : Cf} {kd k1 k2 k3 : Kd} {a b e o : Expr} {f g h : FE} {t u : FT} {s r : FS} {pos apos : Pos} {fr : Bool} {x : Str} {den : List D → R D} {ci : Nat} {as bs : List Nat} {st : Stmt} {sts : List Stmt}
theorem s1_drop (he : PE' X c kd e f) (hs : swapsWith e none pos.line X.env = pure false := by rfl) : PS1' X c fr [] (.Expr e pos) (sDrop f) :=
  psI (ps_expr he hs) fun Dn σ H ⟨G, S, rel, p⟩ => by
    refine rdE_go (g := fun d => .ok (Fl.nx, S)) (Post := PostS1 c fr [] G S σ H Dn) rel p (fun _ z => z) (fun z => z) fun d v G' H' sp q p1 => ?_
    exact p1 G' σ H' sp.g (rel.grow sp) (Frm.step rel sp)
theorem s1_ret (he : PE' X c .st e f) : PS1' X c false [] (.Return (some e) pos) (sRet f) :=
  psI (ps_ret he) fun Dn σ H ⟨G, S, rel, p⟩ => by
    refine rdE_go (g := fun d => .ok (Fl.rt d, S)) (Post := PostS1 c false [] G S σ H Dn) rel p (fun _ z => z) (fun z => z) fun d v G' H' sp q p1 => ?_
    exact p1 v G' H' (rel.st.trans sp) q
theorem s1_set (i : Nat) {x : Str} {pos' : Pos} (hN : X.N.Nodup) (he : PE' X c .st e f) (hi : X.N[i]? = some x := by rfl) (hx : Loc X.env.scope x := by first | exact Or.inl rfl | exact Or.inr rfl) (hs : swapsWith e (some (.Name x pos')) pos.line X.env = pure false := by rfl)
    (hf : X.fn x = true ∨ X.env.scope.names.lookup x = some .local := by first | exact .inl rfl | exact .inr rfl) : PS1' X c fr [i] (.Assign [.Name x pos'] e pos) (sSet i f) :=
  psI (ps_set hN hi hx he hs hf) fun Dn σ H ⟨G, S, rel, p⟩ => by
    refine rdE_go (g := fun d => .ok (Fl.nx, S.set i (some ⟨false, d⟩))) (Post := PostS1 c fr [i] G S σ H Dn) rel p (fun _ z => z) (fun z => z) fun d v G' H' sp q p1 => ?_
    exact p1 G' _ H' sp.g ((rel.grow sp).setS i q) ((Frm.step (as := []) rel sp).trans (Frm.set i _ _))
theorem PostS1.gr {G H G' H' : Hp} {S : Env} {σ : L2.St} {Dn : Ends} {q : R (Fl × Env)} (rel : Rel c G S σ H) (sp : Step G H G' H') (p : PostS1 c fr as G S σ H Dn q) : PostS1 c fr as G' S σ H' Dn q := by
  cases q with
  | ok z => exact PostS.gr rel sp p
  | exc x => exact p
  | fail => exact p
theorem PostS1.sub {as' : List Nat} {G H : Hp} {S : Env} {σ : L2.St} {Dn : Ends} {q : R (Fl × Env)} (hs : ∀ i, i ∈ as' → i ∈ as) (p : PostS1 c fr as G S σ H Dn q) : PostS1 c fr as' G S σ H Dn q := by
  cases q with
  | ok z => exact PostS.sub hs p
  | exc x => exact p
  | fail => exact p
theorem s1_if {cc : Expr} {aa bb : List Stmt} (hc : PT' X c cc t) (ha : PB1' X c fr as aa s) (hb : PB1' X c fr bs bb r) : PS1' X c fr (as ++ bs) (.If cc aa bb pos) (sIf t s r) :=
  psI (ps_if hc ha hb) fun Dn σ H ⟨G, S, rel, p⟩ => rdT_go (g := fun b => if b then s S else r S) (Post := PostS1 c fr (as ++ bs) G S σ H Dn) rel p (fun _ z => z) (fun z => z) fun b G' H' sp p1 => by
    cases b with
    | true => exact ⟨G', S, rel.grow sp, PostS1.sub (fun i q => List.mem_append_left _ q) (PostS1.gr rel sp p1)⟩
    | false => exact ⟨G', S, rel.grow sp, PostS1.sub (fun i q => List.mem_append_right _ q) (PostS1.gr rel sp p1)⟩
theorem b1_nil : PB1' X c fr [] [] sNil := pssI pss_nil fun Dn σ H ⟨G, S, rel, p⟩ => p G σ H (Ex.refl _) rel (Frm.refl _ _ _ _)
theorem b1_one (h1 : PS1' X c fr as st s) : PB1' X c fr as [st] s := pss_one h1
/-- what follows raises nothing -/
def sSeqN (s r : FS) : FS := fun S => s S >>= fun z => match z.1 with | .nx => (r z.2).nox | _ => .ok z
theorem b1_cons (h1 : PS1' X c fr as st s) (h2 : PB' X c fr bs sts r) : PB1' X c fr (as ++ bs) (st :: sts) (sSeqN s r) :=
  pssI (pss_cons h1 h2) fun Dn σ H ⟨G, S, rel, p⟩ => ⟨G, S, rel, by
    have p : PostS1 c fr (as ++ bs) G S σ H Dn (s S >>= fun z => match z.1 with | .nx => (r z.2).nox | _ => .ok z) := p
    cases e1 : s S with
    | exc x => rw [e1] at p; exact p
    | fail => rw [e1] at p; exact p
    | ok z =>
      rw [e1] at p
      obtain ⟨fl, S1⟩ := z
      cases fl with
      | nx =>
        intro G1 σ1 H1 ex r1 f1
        have p : PostS1 c fr (as ++ bs) G S σ H Dn (r S1).nox := p
        refine ⟨G1, S1, r1, ?_⟩
        cases e2 : r S1 with
        | ok z2 => rw [e2] at p; exact PostS.mv (as := as) (bs := bs) ex f1 (fun i => List.mem_append.mp) p
        | exc x => rw [e2] at p; exact p.elim
        | fail => rw [e2] at p; exact p.elim
      | bk => exact PostS1.sub (fun i q => List.mem_append_left _ q) p
      | ct => exact PostS1.sub (fun i q => List.mem_append_left _ q) p
      | rt d => exact p⟩
/-! ### try: .. except C as n: suite; the suite returns -/
def noOwn (S : Env) : Bool := S.all fun o => match o with
  | some ⟨true, _⟩ => false
  | _ => true
theorem noOwn_at {S : Env} (h : noOwn S = true) {i : Nat} {d : D} (q : S[i]? = some (some ⟨true, d⟩)) : False := by
  have := List.all_eq_true.mp h _ (List.mem_of_getElem? q)
  simp at this
/-- what an except clause does with an exception -/
def hndF (h : FS) (S : Env) : R (Fl × Env) := match h S with
  | .ok (.rt d, _) => if d.noX then .ok (.rt d, S) else .fail
  | _ => .fail
def sTryAs (mt : Nat → Option Bool) (i : Nat) (s : FS) (hnd : Exc → FS) : FS := fun S => if noOwn S then (match s S with
  | .ok z => .ok z
  | .fail => .fail
  | .exc x => match mt x.c with
    | some true => hndF (hnd x) (S.set i (some ⟨false, .cls xix⟩))
    | some false => .exc x
    | none => .fail) else .fail
theorem Rel.rebase {G H : Hp} {S : Env} {σ : L2.St} {W : WX} (rel : Rel c G S σ H) (h : noOwn S = true) : Rel ⟨c.k, H, G, W⟩ G S σ H :=
  ⟨Step.refl rel.st.gh, rel.len, rel.fz, fun i d q => (noOwn_at h q).elim, fun i j a o _ => by obtain ⟨⟨d, q⟩, _⟩ := o; exact (noOwn_at h q).elim⟩
theorem Rel.back {G H G' H' : Hp} {S S' : Env} {σ σ' : L2.St} {W : WX} (rel : Rel c G S σ H) (r2 : Rel ⟨c.k, H, G, W⟩ G' S' σ' H') : Rel c G' S' σ' H' :=
  ⟨rel.st.trans r2.st, r2.len, r2.fz, fun i d q => by
    obtain ⟨a, o, e, g, h0, ho, ct⟩ := r2.ow i d q
    exact ⟨a, o, e, g, rel.st.h.free h0, ho, ct⟩, r2.nd⟩
theorem s_tryAs {n : Str} {cv : Value} {i : Nat} {body suite : List Stmt} {b₀ : Stmt} {np pos' : Pos} {hnd : Exc → FS} {mt : Nat → Option Bool}
    (hs : X.stack = X.env :: X.outer) (hf : X.env.frame = some X.env.locals) (hN : X.N.Nodup) (hi : X.N[i]? = some n) (hln : X.env.kindOf n = some .local) (hcn : Names X x cv) (tk : L2N.Takes X c.W) (h0 : c.k.cl xix = none)
    (hm : ∀ ci b, mt ci = some b → ∃ C nm, c.k.cl ci = some (C, nm) ∧ PySem.W.exmOne X.K (.ref C) cv = some b)
    (hb : ∀ (W : WX) (pn : List (Addr × Obj)) (xe : Value → Shared → Prop) (H0 G0 : Hp), L2N.Takes (X.tr pn xe) W → PassesOwn (model X.prog X.w) X.A X.env xe → PB1' (X.tr pn xe) ⟨c.k, H0, G0, W⟩ false as body s)
    (hsu : ∀ (a : Addr) (oe : Obj) (cls : Value) (d : Option Addr) (pn : List (Addr × Obj)) (H0 G0 : Hp) (y : Exc), L2N.Zn cls d oe → (∃ vs, oe.data = .fields vs) → XR ⟨c.k, H0, G0, liftX E0⟩ G0 y cls d H0 →
      PB' (X.suite a ((a, oe) :: pn)) ⟨c.k.at a, H0, G0, liftX E0⟩ false bs (b₀ :: suite) (hnd y)) :
    PS' X c false as (.Try body [.ExceptHandler (some (.Name x np)) (some n) (b₀ :: suite) pos'] [] [] pos) (sTryAs mt i s hnd) := by
  refine psI (L2N.ps_try_as (tb := fun W => fun D σ H => ∃ G, RdS1 ⟨c.k, H, G, W⟩ false as s D σ H) (ts := fun a cls d => fun D σ H => ∃ (y : Exc) (G : Hp), XR ⟨c.k, H, G, liftX E0⟩ G y cls d H ∧ RdS ⟨c.k.at a, H, G, liftX E0⟩ false bs (hnd y) D σ H) (Wout := c.W)
    hs hf hN hi hln hcn tk (fun W pn xe tkW pa => ⟨fun pins s σ H D I ⟨G, q⟩ => (hb W pn xe H G tkW pa).run pins s σ H D I q⟩) (fun a oe cls d pn hz hd => ⟨fun pins s σ H D I ⟨y, G, xr, q⟩ => (hsu a oe cls d pn H G y hz hd xr).run pins s σ H D I q⟩)) fun Dn σ H ⟨G, S, rel, p⟩ => ?_
  have p : PostS c false as G S σ H Dn (if noOwn S then _ else .fail) := p
  by_cases hno : noOwn S = true
  · rw [if_pos hno] at p
    refine ⟨G, G, S, rel.rebase hno, ?_⟩
    cases e1 : s S with
    | fail => rw [e1] at p; exact p.elim
    | ok z =>
      rw [e1] at p
      obtain ⟨fl, S1⟩ := z
      cases fl with
      | nx => exact fun G' σ' H' ex r2 fm => p G' σ' H' ex (rel.back r2) fm
      | bk => exact fun G' σ' H' ex r2 fm => p G' σ' H' ex (rel.back r2) fm
      | ct => exact fun G' σ' H' ex r2 fm => p G' σ' H' ex (rel.back r2) fm
      | rt d => exact fun v G' H' sp rv => p v G' H' (rel.st.trans sp) rv
    | exc y =>
      rw [e1] at p
      have p : PostS c false as G S σ H Dn (match mt y.c with
        | some true => hndF (hnd y) (S.set i (some ⟨false, .cls xix⟩))
        | some false => .exc y
        | none => .fail) := p
      intro cls da G' H' sp xr
      have sp : Step G H G' H' := sp
      cases em : mt y.c with
      | none => rw [em] at p; exact p.elim
      | some b =>
        rw [em] at p
        obtain ⟨C, nm, hcl, hex⟩ := hm y.c b em
        have hcls : cls = .ref C := by
          obtain ⟨C', nm', h1, h2, _⟩ := xr
          have h1 : c.k.cl y.c = some (C', nm') := h1
          rw [hcl] at h1; cases h1; exact h2
        refine ⟨b, by rw [hcls]; exact hex, fun hb1 a ha => ?_, fun hb1 => ?_⟩
        · subst hb1
          have p : PostS c false as G S σ H Dn (hndF (hnd y) (S.set i (some ⟨false, .cls xix⟩))) := p
          have relK : Rel ⟨c.k.at a, H', G', liftX E0⟩ G' S σ H' := ⟨Step.refl sp.gh, rel.len, fun i d q => by
            obtain ⟨v, e, r⟩ := rel.fz i d q
            exact ⟨v, e, (r.mono sp.g).up h0⟩, fun i d q => (noOwn_at hno q).elim, fun i j a o _ => by obtain ⟨⟨d, q⟩, _⟩ := o; exact (noOwn_at hno q).elim⟩
          have hx : RD (c.k.at a) G' (.cls xix) (.ref a) := .cls (nm := []) (show (if xix = xix then some (a, []) else c.k.cl xix) = some (a, []) from if_pos rfl)
          refine ⟨y, G', xr, G', _, relK.setS i hx, ?_⟩
          unfold hndF at p
          cases e2 : hnd y (S.set i (some ⟨false, .cls xix⟩)) with
          | exc z => rw [e2] at p; exact p.elim
          | fail => rw [e2] at p; exact p.elim
          | ok z =>
            rw [e2] at p
            obtain ⟨fl, S2⟩ := z
            cases fl with
            | nx => exact p.elim
            | bk => exact p.elim
            | ct => exact p.elim
            | rt d =>
              dsimp only at p
              by_cases hd : d.noX = true
              · rw [if_pos hd] at p
                intro v G2 H2 sp2 rv
                have sp2 : Step G' H' G2 H2 := sp2
                have rv : RD (c.k.at a) G2 d v := rv
                exact p v G2 H2 ((rel.st.trans sp).trans sp2) (rv.down hd)
              · rw [if_neg hd] at p; exact p.elim
        · subst hb1
          have p : PXs c y := p
          exact p σ cls da G' H' (rel.st.trans sp) xr
  · rw [if_neg hno] at p; exact p.elim
end
end M
set_option Elab.async false
set_option linter.all false
set_option maxRecDepth 100000
set_option maxHeartbeats 4000000
namespace PySem
namespace SupX
open PySem.W PySem.Spec PySem.Calls PyProof.Rows
section
variable {prog : Program} {w : World} {A : Around} {E : Value → Shared → Prop} {s : Shared} {K : Frag} {x D : Addr} {ox : Obj} {od : Option Obj}
theorem findObj_data {C : Addr} {name : Str} {a g : Value} (hc : (clsIn K C).isSome = true) (ha : findIn K (.ref C) name = some (some a)) (hg : specialIn K a "__get__" = some (some g)) (ht : takesIn K a = some true) : findObj K C od name = some (.bind g a) := by
  obtain ⟨cd, hc⟩ := Option.isSome_iff_exists.mp hc
  unfold findObj
  rw [hc, Option.bind_some, ha, Option.bind_some]
  simp [hg, ht]
theorem kin_class {Q : Option Value → Shared → Prop} (hga : findIn K (.ref D) "__getattribute__" = some (some (.builtin "BaseException.__getattribute__"))) (hgt : findIn K (.ref D) "__getattr__" = some none) (hsub : subIn K (.ref D) (.type "BaseException") = some true)
    (hdct : hasDictIn K D = true) (ha : findIn K (.ref D) "__class__" = some (some (.builtin "object.__class__")))
    (hn : specialIn K (.builtin "object.__class__") "__get__" = some (some (.builtin "getset_descriptor.__get__"))) (htk : takesIn K (.builtin "object.__class__") = some true) (hm : mroIn K D (.type "object") = some true)
    (X : K.In s.heap) (I : InstAt s.heap x ox D od) (h : Q (some (.ref D)) { s with toks := s.toks + 1 }) : wpAny (model prog w) A (getAttr? (.ref x) "__class__") Q E s := by
  have hf : findObj K D od "__class__" = some (.bind (.builtin "getset_descriptor.__get__") (.builtin "object.__class__")) := findObj_data (by obtain ⟨cd, hc, _⟩ := any_some hdct; rw [hc]; rfl) ha hn htk
  obtain ⟨hp, g, d, t, os⟩ := s
  have L0 := I.type (M := model prog w)
  have L1 := looks_findIn (M := model prog w) X hga
  have L2 := looks_findIn (M := model prog w) X hgt
  have L3 := looks_find (M := model prog w) X I hf
  have sub : Looks (model prog w) hp (isInstance (.ref x) (.type "BaseException")) true := L0.andThen (looks_subIn X hsub)
  have hx0 : (false && onTheHeap (Value.builtin "BaseException.__getattribute__")) = false := rfl
  have hx2 : (Value.builtin "BaseException.__getattribute__" == Value.builtin "object.__getattribute__") = false := by decide +kernel
  have hx1 : (onTheHeap (Value.ref D) && Value.builtin "BaseException.__getattribute__" == Value.builtin "object.__getattribute__") = false := by rw [hx2]; rfl
  unfold getAttr? getAttrBy? getAttrBy
  refine wpAny_bind (wpAny_mkText (wpAny_bind (wpAny_attempt (wpAny_holding (wpAny_bind (L0.at (wpAny_bind (L1.at ?_))))))))
  show wpAny _ _ (if (onTheHeap (Value.ref D) && Value.builtin "BaseException.__getattribute__" == Value.builtin "object.__getattribute__") = true then _ else _) _ _ _
  rw [hx1, if_neg Bool.false_ne_true]
  unfold getAttrByItsOwn hookBefore
  refine wpAny_bind ?_
  rw [if_pos (show onTheHeap (Value.ref D) = true from rfl)]
  refine L2.at ?_
  refine wpAny_bind (wpAny_attempt (wpAny_holding ?_))
  unfold callGetattribute
  rw [hx0, if_neg Bool.false_ne_true]
  unfold boundAndCalled
  rw [PySem.F.excAttr_ValueError.ga.bind (.ref x)]
  refine wpAny_bind (wpAny_pure ?_)
  show wpAny _ _ (call (.builtin "BaseException.__getattribute__") [.ref x, .str "__class__" t]) _ _ _
  refine wpAny_call (codeAny_call_builtin PySem.F.excAttr_ValueError.ga.plain PySem.F.entry_bexc_ga ?_)
  refine @check_slot (model prog w) _ _ ⟨hp, g, d, t + 1, os⟩ "BaseException.__getattribute__" "BaseException" "__getattribute__" (.ref x) [.str "__class__" t] [] _ (by decide +kernel) (by decide +kernel) sub (PySem.F.args_bexc_ga (.ref x) (.str "__class__" t)) ?_
  unfold Builtin.«object.__getattribute__»
  refine wpAny_bind (wpAny_of_eq (a := ((Value.ref x : Value), [Value.str "__class__" t])) (by first | rfl | (simp only [slotArgs]; rfl)) ?_)
  refine wpAny_bind (wpAny_pure (wpAny_bind (L0.at (wpAny_bind (L3.at ?_)))))
  show wpAny _ _ (holding [Value.builtin "object.__class__"] (call (.builtin "getset_descriptor.__get__") [.builtin "object.__class__", .ref x, .ref D]) >>= ret) _ _ _
  refine wpAny_bind (wpAny_holding (wpAny_call (class_get (s := ⟨hp, g, d, t + 1, os⟩) (ox := ox) (od := od) X I hm ?_)))
  refine wpAny_pure ?_
  show wpAny _ _ (handedOut (.ref D)) _ _ _
  rw [handedOut_of (v := .ref D) rfl]
  first
    | exact wpAny_pure (wpAny_pure h)
    | exact wpAny_pure h
    | exact wpAny_pure (wpAny_bind (wpAny_pure (wpAny_pure h)))
theorem kitx_exc (C : L2.ExcC K D) : KitX K (.ref x) (.ref D) (fun h => ∃ ox od, InstAt h x ox D od) where
  ty := fun _ _ _ ⟨_, _, I⟩ => I.type
  it := fun _ _ X _ => by
    obtain ⟨cdD, hcD, _⟩ := any_some C.hd
    unfold clsIn at hcD
    split at hcD
    · rename_i c' d' cd' sl' ho
      intro A' Q' E' s' k q
      unfold isType loadHead
      exact wpAny_bind (wpAny_loadPart (k _ _ (X _ _ ho)) (wpAny_pure q))
    · cases hcD
  ne := fun h tp dd its n sl X htp => by
    obtain ⟨cdD, hcD, _⟩ := any_some C.hd
    refine Bool.eq_false_iff.mpr fun q => ?_
    have e : D = tp := Value.ref.inj (beq_iff_eq.mp q)
    subst e
    unfold clsIn at hcD
    split at hcD
    · rename_i c' d' cd' sl' ho
      have z := (X _ _ ho).symm.trans htp
      cases z
    · cases hcD
  ca := fun X ⟨_, _, I⟩ k => kin_class C.hg C.hk C.hs C.hd C.ha C.hn C.ht C.hm X I k
end
end SupX
end PySem
set_option Elab.async false
set_option linter.all false
set_option maxRecDepth 100000
set_option maxHeartbeats 4000000
namespace M
open PySem L2
theorem Kn.at_x {k : Kn} {a : Addr} : (k.at a).cl xix = some (a, []) := (show (if xix = xix then some (a, []) else k.cl xix) = some (a, []) from if_pos rfl)
/-! ### isinstance of the handled exception, its fields -/
def rIsX (K : PySem.W.Frag) (Dx a : Addr) (d : Option Addr) : List V → Hp → VK → Prop := fun xs H Q => ∃ (c : V) (b : Bool), xs = [.ref a, c] ∧ ExcC K Dx ∧ (∀ dd, d = some dd → ∃ fs, H dd = some (.xd fs)) ∧
  ((∃ cv, (∀ u, RelV c u → u = cv) ∧ PySem.W.kitOne K (.ref Dx) cv = some b) ∨ ∃ tp cs cvs, c = .ref tp ∧ SqT K H tp cs ∧ (∀ us, Vals cs us → us = cvs) ∧ PySem.W.kitAny K (.ref Dx) cvs = some b) ∧ Q (.bl b) H
theorem call_isX {X : Cx} {a Dx : Addr} {oe : Obj} {d : Option Addr} (hin : (a, oe) ∈ X.pn) (hz : Zc (.ref Dx) d oe) (hf : ∃ vs, oe.data = .fields vs) : CallR X (.builtin "isinstance") (rIsX X.K Dx a d) := by
  intro pins s σ H xs us Q I r h
  obtain ⟨c, b, rfl, C, hdd, hc, q⟩ := h
  obtain ⟨u1, u2, rfl, r1, r2⟩ := vals2 r
  cases (show u1 = Value.ref a from r1)
  obtain ⟨hget, _⟩ := I.pin (a, oe) (List.mem_append.mpr (.inl hin))
  obtain ⟨vs, hv⟩ := hf
  have J : ∃ ox od, PySem.W.InstAt s.heap a ox Dx od := by
    obtain ⟨oc, od, oda, osl⟩ := oe
    obtain ⟨h1, h2⟩ := hz
    dsimp only at h1 h2 hv
    subst h1 h2 hv
    cases od with
    | none => exact ⟨_, none, hget, rfl, rfl, trivial⟩
    | some dd =>
      obtain ⟨fs, hfs⟩ := hdd dd rfl
      have hx : ObjOk X.prog X.w H s.heap dd (.xd fs) := I.hok dd _ hfs
      obtain ⟨mA, hns, _⟩ := hx
      obtain ⟨o, _, _, ho, _⟩ := hns
      exact ⟨_, some o, hget, rfl, rfl, ho⟩
  rcases hc with ⟨cv, hcv, e⟩ | ⟨tp, cs, cvs, rfl, hs, hcs, e⟩
  · have ec := hcv _ r2
    subst ec
    exact PySem.W.kia_one (PySem.SupX.kitx_exc C) I.kIn J e (fun z => nomatch z) fun tk => ⟨.bl b, H, I.kept (t' := tk) fun _ _ z => z, rfl, q⟩
  · cases (show u2 = Value.ref tp from r2)
    obtain ⟨its, rv, ⟨o, ho, hcl, n, hda⟩, _⟩ := I.tuple hs
    have ec := hcs _ rv
    subst ec
    obtain ⟨oc, od, dt, sl⟩ := o
    simp only at hcl hda
    subst hcl hda
    exact PySem.W.kia_tup (PySem.SupX.kitx_exc C) I.kIn J ho e (fun z => nomatch z) fun tk => ⟨.bl b, H, I.kept (t' := tk) fun _ _ z => z, rfl, q⟩
/-- what the text says: is an instance of class ce one of t -/
structure IsT (K : PySem.W.Frag) (k : Kn) (ce : Nat) (t : D) (b : Bool) : Prop where
  ex : ∃ C nm, k.cl ce = some (C, nm) ∧ ExcC K C ∧ ((∃ ci C2 nm2, t = .cls ci ∧ ci ≠ xix ∧ k.cl ci = some (C2, nm2) ∧ PySem.W.kitOne K (.ref C) (.ref C2) = some b) ∨ ∃ n, t = .ty n ∧ PySem.W.kitOne K (.ref C) (.type n) = some b)
def tabs (tab : Nat → D → Option Bool) (ce : Nat) : List D → Option Bool
  | [] => some false
  | t :: ts => (tab ce t).bind fun b => (tabs tab ce ts).map fun r => b || r
def isXD (tab : Nat → D → Option Bool) (y : Exc) : D → D → R D
  | .cls i, t => if i = xix then (match t with
    | .tup ts => (match ts with | [] => .fail | t0 :: ts => (match tabs tab y.c (t0 :: ts) with | some b => .ok (.bl b) | none => .fail))
    | t => match tab y.c t with
      | some b => .ok (.bl b)
      | none => .fail) else .fail
  | _, _ => .fail
section
variable {k : Kn} {K : PySem.W.Frag} {a : Addr}
theorem IsT.exc {ce : Nat} {t : D} {b : Bool} {C : Addr} {nm : List Str} (h : IsT K k ce t b) (hc : k.cl ce = some (C, nm)) : ExcC K C := by
  obtain ⟨C', nm', h1, h2, _⟩ := h.ex
  rw [hc] at h1; cases h1
  exact h2
theorem IsT.excs {tab : Nat → D → Option Bool} (hT : ∀ ci t b, tab ci t = some b → IsT K k ci t b) {ce : Nat} {C : Addr} {nm : List Str} (hc : k.cl ce = some (C, nm)) {t : D} {ts : List D} {b : Bool} (h : tabs tab ce (t :: ts) = some b) : ExcC K C := by
  simp only [tabs] at h
  cases e1 : tab ce t with
  | none => rw [e1] at h; cases h
  | some b1 => exact (hT _ _ _ e1).exc hc
theorem IsT.val {ce : Nat} {t : D} {b : Bool} {G : Hp} {v : V} {C : Addr} {nm : List Str} (h : IsT K k ce t b) (hc : k.cl ce = some (C, nm)) (r : RD (k.at a) G t v) : ∃ cv, (∀ u, RelV v u → u = cv) ∧ PySem.W.kitOne K (.ref C) cv = some b := by
  obtain ⟨C', nm', h1, h2, h3⟩ := h.ex
  rw [hc] at h1; cases h1
  rcases h3 with ⟨ci, C2, nm2, rfl, hne, h4, h5⟩ | ⟨n, rfl, h5⟩
  · cases r with
    | cls hr =>
      rw [Kn.at_cl hne, h4] at hr
      cases hr
      exact ⟨.ref C2, fun u hu => hu, h5⟩
  · cases r with
    | ty => exact ⟨.type n, fun u hu => hu, h5⟩
theorem IsT.vals {tab : Nat → D → Option Bool} (hT : ∀ ci t b, tab ci t = some b → IsT K k ci t b) {ce : Nat} {C : Addr} {nm : List Str} (hc : k.cl ce = some (C, nm)) {G : Hp} : ∀ {ts : List D} {vs : List V} {b : Bool}, tabs tab ce ts = some b → RDs (k.at a) G ts vs →
    ∃ cvs, (∀ us, Vals vs us → us = cvs) ∧ PySem.W.kitAny K (.ref C) cvs = some b
  | [], _, b, h, .nil => by
    cases h
    exact ⟨[], fun us hu => by cases hu; rfl, rfl⟩
  | t :: ts, _, b, h, .cons r rs => by
    simp only [tabs] at h
    cases e1 : tab ce t with
    | none => rw [e1] at h; cases h
    | some b1 =>
      rw [e1] at h
      cases e2 : tabs tab ce ts with
      | none => rw [e2] at h; cases h
      | some b2 =>
        rw [e2] at h
        cases h
        obtain ⟨cv, h1, h2⟩ := (hT _ _ _ e1).val hc r
        obtain ⟨cvs, h3, h4⟩ := IsT.vals hT hc e2 rs
        refine ⟨cv :: cvs, fun us hu => ?_, ?_⟩
        · cases hu with
          | cons x y => rw [h1 _ x, h3 _ y]
        · refine kitAny_cons h2 (fun z => ?_) fun z => ?_
          · rw [z]; exact h4
          · rw [z]; rfl
end
section
variable {X : Cx} {c : Cf} {k : Kn} {kd k1 k2 k3 : Kd} {e o : Expr} {f g h : FE} {pos apos : Pos} {fr : Bool} {x : Str}
/-- in the frame's own words: the exception that is handled, its class's number and fields -/
structure Held (X : Cx) (k : Kn) (a : Addr) (y : Exc) (H0 G0 : Hp) : Prop where
  ex : ∃ (oe : Obj) (cls : Value) (d : Option Addr), (a, oe) ∈ X.pn ∧ Zc cls d oe ∧ (∃ vs, oe.data = .fields vs) ∧ XR ⟨k, H0, G0, liftX E0⟩ G0 y cls d H0
theorem d_isX {ba : Bool} {a : Addr} {y : Exc} {H0 G0 : Hp} {W : WX} {p : Pos} {e1 e2 : Expr} {ga : FA} {tab : Nat → D → Option Bool} (hh : Held X k a y H0 G0) (hK : k.K = X.K) (hT : ∀ ci t b, tab ci t = some b → IsT X.K k ci t b) (hm : X.mg "isinstance" = none) (ha : PA' X ⟨k.at a, H0, G0, W⟩ ba [e1, e2] ga)
    (hg : Gl X "isinstance" := by rfl) (hs : starEach [e1, e2] X.env = (false, eval e1 X.env) :: starEach [e2] X.env := by rfl) (hs2 : ((backTo pos (starEach [e2] X.env)).any fun x => x.1) = false := by rfl) :
    PE' X ⟨k.at a, H0, G0, W⟩ .st (.Call (.Name "isinstance" p) [e1, e2] [] pos) (eC (f2 (isXD tab y)) ga) := by
  obtain ⟨oe, cls, d, hin, hz, hf, C, nm, hcl, rfl, hxd⟩ := hh.ex
  have hcl : k.cl y.c = some (C, nm) := hcl
  refine peI (pe_callB (call_isX hin hz hf) hg hm (by decide +kernel) ha (by decide) (by decide) hs hs2) fun σ H Q ⟨G, S, rel, q⟩ => ?_
  refine ⟨G, S, rel, ?_⟩
  have q : PostE ⟨k.at a, H0, G0, W⟩ .st G S σ H Q (ga S >>= fun xs => (f2 (isXD tab y) xs).nox) := q
  cases e0 : ga S with
  | exc z => rw [e0] at q; exact q
  | fail => rw [e0] at q; exact q
  | ok ds =>
    rw [e0] at q
    intro vs G1 H1 s1 q1
    have q1 := q1.nows
    have q : PostE ⟨k.at a, H0, G0, W⟩ .st G S σ H Q (f2 (isXD tab y) ds).nox := q
    have hdd : ∀ dd, d = some dd → ∃ fs, H1 dd = some (.xd fs) := fun dd e => by
      rcases hxd with ⟨_, _, h⟩ | ⟨d', vs', h1, h2, _⟩
      · rw [h] at e; cases e
      · rw [h1] at e; cases e
        exact ⟨_, (rel.grow s1).st.h _ _ h2⟩
    match ds, q1 with
    | [.cls i, t], .cons (v := v1) n1 (.cons (v := v2) n2 .nil) =>
      have q : PostE ⟨k.at a, H0, G0, W⟩ .st G S σ H Q (isXD tab y (.cls i) t).nox := q
      simp only [isXD] at q
      by_cases hi : i = xix
      · subst hi
        rw [if_pos rfl] at q
        have hv1 : v1 = .ref a := by
          rcases n1 with n1 | ⟨_, _, _, _, ct⟩
          · cases n1 with
            | cls hr =>
              have hr : (k.at a).cl xix = _ := hr
              rw [Kn.at_x] at hr; cases hr; rfl
          · cases ct
        subst hv1
        have fin : ∀ b, isXD tab y (.cls xix) t = .ok (.bl b) → Q (.bl b) H1 := fun b e => by
          simp only [isXD, if_pos] at e
          rw [e] at q
          exact q _ G1 H1 s1 (.bl b)
        cases t with
        | tup ts =>
          cases ts with
          | nil => exact q.elim
          | cons t0 ts =>
            dsimp only at q
            cases e2 : tabs tab y.c (t0 :: ts) with
            | none => rw [e2] at q; exact q.elim
            | some b =>
              obtain ⟨tp, cs, rfl, hsq, r⟩ := n2.tup
              have hx1 := IsT.excs hT hcl e2
              obtain ⟨cvs, h1, h2⟩ := IsT.vals hT hcl e2 r
              refine ⟨_, b, rfl, hx1, hdd, .inr ⟨tp, cs, cvs, rfl, s1.gh.sqT (hK ▸ hsq.t), h1, h2⟩, fin b ?_⟩
              simp only [isXD, if_pos, e2]
        | _ =>
          first
            | (dsimp only at q
               cases e2 : tab y.c _ with
               | none => rw [e2] at q; exact q.elim
               | some b =>
                 have hx1 := (hT _ _ _ e2).exc hcl
                 rcases n2 with n2 | ⟨_, _, _, _, ct⟩
                 · obtain ⟨cv, h1, h2⟩ := (hT _ _ _ e2).val hcl n2
                   refine ⟨_, b, rfl, hx1, hdd, .inl ⟨cv, h1, h2⟩, fin b ?_⟩
                   simp only [isXD, if_pos, e2]
                 · first
                     | (cases ct; done)
                     | (obtain ⟨_, _, _, _, h3⟩ := (hT _ _ _ e2).ex; rcases h3 with ⟨_, _, _, h3, _⟩ | ⟨_, h3, _⟩ <;> cases h3))
      · rw [if_neg hi] at q; exact q.elim
    | [], _ => exact q.elim
    | [_], _ => exact q.elim
    | _ :: _ :: _ :: _, _ => exact q.elim
    | [.non, _], _ => exact q.elim
    | [.bl _, _], _ => exact q.elim
    | [.int _, _], _ => exact q.elim
    | [.str _, _], _ => exact q.elim
    | [.ty _, _], _ => exact q.elim
    | [.tup _, _], _ => exact q.elim
    | [.lst _, _], _ => exact q.elim
    | [.dic _ _, _], _ => exact q.elim
    | [.dit _ _, _], _ => exact q.elim
    | [.obj _ _, _], _ => exact q.elim
    | [.scr _, _], _ => exact q.elim
/-- the field f of the exceptions of class ci -/
structure XfT (K : PySem.W.Frag) (k : Kn) (ci : Nat) (f : Str) (j : Nat) : Prop where
  ex : ∃ C nm, k.cl ci = some (C, nm) ∧ nm[j]? = some f ∧ nm.Nodup ∧ XfC K C ∧ PySem.W.findIn K (.ref C) f = some none
def eXf (y : Exc) (ci j : Nat) (g : FE) : FE := e1 (fun d => match d with
  | .cls i => if i = xix ∧ y.c = ci then (match y.fs[j]? with | some d => .ok d | none => .fail) else .fail
  | _ => .fail) g
theorem zip_at : ∀ {nm : List Str} {vs : List V} {j : Nat} {f : Str} {v : V}, nm.Nodup → nm[j]? = some f → vs[j]? = some v → (nm.zip vs).lookup f = some v
  | [], _, _, _, _, _, h, _ => by simp at h
  | _ :: _, [], _, _, _, _, _, h => by simp at h
  | n :: nm, u :: vs, 0, f, v, _, h1, h2 => by
    simp at h1 h2; subst h1 h2
    simp [List.lookup]
  | n :: nm, u :: vs, j + 1, f, v, hn, h1, h2 => by
    rw [List.nodup_cons] at hn
    rw [List.getElem?_cons_succ] at h1 h2
    have : (f == n) = false := by
      simp only [beq_eq_false_iff_ne, ne_eq]
      intro e
      subst e
      exact hn.1 (List.mem_of_getElem? h1)
    simp only [List.zip_cons_cons, List.lookup, this]
    exact zip_at hn.2 h1 h2
theorem pe_xf' {X : Cx} {a C : Addr} {oe : Obj} {cls : Value} {d : Option Addr} {e : Expr} {te : TE} {pos : Pos} {n : Str} (hin : (a, oe) ∈ X.pn) (T : XfC X.K C) (hno : PySem.W.findIn X.K (.ref C) n = some none)
    (hz : Zc cls d oe) (hf : ∃ vs, oe.data = .fields vs) (he : PE X e te) (hb : attributeBase e n X.env (eval e X.env) = eval e X.env) :
    PE X (.Attribute e n pos) (tXf a cls d C n te) := by
  refine ⟨fun pins s σ H Q I h => ?_⟩
  refine attr_of hb (thn (he.run pins s σ H _ I h) fun u s1 hh => ?_)
  obtain ⟨x, H1, I1, rx, ex, ec, dd, fs, v, ed, ea, l, q⟩ := hh
  subst ex
  obtain rfl : u = Value.ref a := rx
  subst ec
  subst ed
  obtain ⟨ha, _⟩ := I1.pin (a, oe) (List.mem_append_left _ hin)
  obtain ⟨vs, hd⟩ := hf
  have hx : ObjOk X.prog X.w H1 s1.heap dd (.xd fs) := I1.hok dd _ ea
  obtain ⟨mA, hns, hr⟩ := hx
  obtain ⟨od, ho, hl⟩ := lookIn_ns hns
  obtain ⟨u, hu, ru⟩ := RelO.some_of (v := v) (o := mA n) (by rw [← l]; exact hr n)
  have J : PySem.W.InstAt s1.heap a oe C (some od) := ⟨ha, hz.1, by unfold PySem.W.notCls; rw [hd] <;> rfl, by rw [hz.2]; exact ho⟩
  exact HandSPX.exc_get I1.kIn J T.ga T.gg T.exC (PySem.W.findObj_own T.hdC hno rfl (by rw [hl, hu])) (handed_of ru) ⟨v, H1, I1.tok _, ru, q⟩
theorem d_xf {a : Addr} {y : Exc} {H0 G0 : Hp} {W : WX} {e : Expr} {g : FE} {f : Str} {ci j : Nat} (hh : Held X k a y H0 G0) (T : XfT X.K k ci f j) (h0 : k.cl xix = none) (he : PE' X ⟨k.at a, H0, G0, W⟩ .bo e g)
    (hb : attributeBase e f X.env (eval e X.env) = eval e X.env := by rfl) : PE' X ⟨k.at a, H0, G0, W⟩ .st (.Attribute e f pos) (eXf y ci j g) := by
  obtain ⟨oe, cls, d, hin, hz, hf, C, nm, hcl, rfl, hxd⟩ := hh.ex
  have hcl : k.cl y.c = some (C, nm) := hcl
  obtain ⟨C2, nm2, h1, h2, h3, h4, h5⟩ := T.ex
  refine peI (pe_xf' hin h4 h5 hz hf he hb) fun σ H Q ⟨G, S, rel, q⟩ => ?_
  refine rdE_go (g := fun d => ((match d with
    | .cls i => if i = xix ∧ y.c = ci then (match y.fs[j]? with | some d => .ok d | none => .fail) else .fail
    | _ => .fail : R D)).nox) (Post := PostE ⟨k.at a, H0, G0, W⟩ .st G S σ H Q) rel q (fun _ z => z) (fun z => z) fun d1 v1 G1 H1 s1 q1 p1 => ?_
  cases d1 with
  | cls i =>
    dsimp only at p1
    by_cases hi : i = xix ∧ y.c = ci
    · rw [if_pos hi] at p1
      obtain ⟨rfl, hc⟩ := hi
      rw [hc, h1] at hcl
      cases hcl
      have hv1 : v1 = .ref a := by
        rcases q1 with n1 | ⟨_, _, _, _, ct⟩
        · cases n1 with
          | cls hr =>
            have hr : (k.at a).cl xix = _ := hr
            rw [Kn.at_x] at hr; cases hr; rfl
        · cases ct
      cases e2 : y.fs[j]? with
      | none => rw [e2] at p1; exact p1.elim
      | some d0 =>
        rw [e2] at p1
        rcases hxd with ⟨hnm, _, _⟩ | ⟨dd, vs, hd, hH, r, _⟩
        · rw [hnm] at h2; simp at h2
        · have r : RDs k G0 y.fs vs := r
          obtain ⟨v, hv, rv⟩ := r.get e2
          have st := (rel.grow s1).st
          exact ⟨hv1, rfl, dd, _, v, hd, st.h _ _ hH, zip_at h3 h2 hv, p1 v G1 H1 s1 ((rv.mono st.g).up h0)⟩
    · rw [if_neg hi] at p1; exact p1.elim
  | _ => exact p1.elim
end
end M
set_option Elab.async false
set_option linter.all false
set_option maxRecDepth 100000
set_option maxHeartbeats 4000000
namespace M
open PySem L2 PySem.W
/-! ### exceptions in the hook -/
abbrev FnS : Type := Option (Str × Str × Arguments × FuncBody × Scope × Addr × List Str × Addr)
def supI (K : PySem.W.Frag) (x : Str) : Addr := He.ma K (He.ga K x) "__init__"
def seenS (K : PySem.W.Frag) (x : Str) : FnS := (K.lookup (supI K x)).bind fun o => match o.data with
  | .func z => some (z.name, z.qualname, z.params, z.body, z.scope, z.globals, z.closure.map (·.1), z.builtins)
  | _ => none
/-- a class whose __init__ says super().__init__(..): its name, its fields, its __init__ -/
structure Sx where
  x : Str
  fs : List Str
  qual : Str
  params : Arguments
  body : List Stmt
  scope : Scope
def Sx.val (s : Sx) : FnS := some ("__init__", s.qual, s.params, .stmts s.body, s.scope, mainGlobals, ["__class__"], builtinsNs)
def isNone : Value → Bool
  | .none => true
  | _ => false
theorem isNone_ok {v : Value} (h : isNone v = true) : v = .none := by cases v <;> first | rfl | cases h
def exoB (K : PySem.W.Frag) (C : Addr) : Bool := match K.lookup C with
  | some ⟨.type "type", _, .cls cd, sl⟩ => (match cd.mro, sl.toList with
    | .ref C' :: bm, [_, _, _, _, some (.builtin n), _] => C' == C && (n == "ValueError.__new__" && (!cd.hasDel && (cd.hasDict && PySem.HandSPX.refsVE bm)))
    | _, _ => false)
  | _ => false
theorem exoB_ok {K : PySem.W.Frag} {C : Addr} (q : exoB K C = true) : ∃ nm qn N bs bm sn sub ab col dd k0 k1 k2 k3 k5, K.lookup C = some (excClassObj nm qn C N bs bm true sn sub ab col dd k0 k1 k2 k3 k5 "ValueError.__new__") ∧ PySem.HandSPX.refsVE bm = true := by
  unfold exoB at q
  split at q
  · rename_i dd cd sl ho
    split at q
    · rename_i C' bm k0 k1 k2 k3 n k5 hm hs
      simp only [Bool.and_eq_true, beq_iff_eq, Bool.not_eq_true'] at q
      obtain ⟨rfl, rfl, hdel, hdict, hbm⟩ := q
      obtain ⟨nm, bs, mro, ns, qn, hd, sn, sub, ab, col, del⟩ := cd
      dsimp only at hm hdel hdict
      subst hm hdel hdict
      have hsl : sl = #[k0, k1, k2, k3, some (.builtin "ValueError.__new__"), k5] := by
        obtain ⟨l⟩ := sl
        simp only at hs
        rw [hs]
      subst hsl
      exact ⟨nm, qn, ns, bs, bm, sn, sub, ab, col, dd, k0, k1, k2, k3, k5, ho, hbm⟩
    · cases q
  · cases q
def fnB (file : Str) (K : PySem.W.Frag) (s : Sx) : Bool := match K.lookup (supI K s.x) with
  | some ⟨_, _, .func z, _⟩ => codeIn K z.code s.qual && (isNone z.defaults && (isNone z.kwdefaults && (match z.code, z.closure with
    | .ref cda, [(_, cc)] => (match K.lookup cda with
      | some ⟨_, _, .fields vs, _⟩ => (match (vs[2]? : Option Value) with
        | some (.str f _) => decide (f = file)
        | _ => false)
      | _ => false) && (match K.lookup cc with
      | some ⟨_, _, .cell (some (.ref C')), _⟩ => decide (C' = He.ga K s.x)
      | _ => false)
    | _, _ => false)))
  | _ => false
def supB (file : Str) (K : PySem.W.Frag) (s : Sx) : Bool :=
  exoB K (He.ga K s.x) && (He.eqO (findIn K (.ref (He.ga K s.x)) "__setattr__") (some (some (.builtin "object.__setattr__"))) && ((s.fs.all fun f => He.eqO (findIn K (.ref (He.ga K s.x)) f) (some none)) &&
  (He.eqO (ks_superIn K (He.ga K s.x) (He.ga K s.x) "__init__") (some (some (.builtin "ValueError.__init__"))) && (decide (subIn K (.ref (He.ga K s.x)) (.type "ValueError") = some true) && (decide (mroIn K (He.ga K s.x) (.ref (He.ga K s.x)) = some true) &&
  (He.eqO (nsIn K cStatics "thirdparty.any") (some none) && (He.eqO (findIn K (.ref (He.ga K s.x)) "__init__") (some (some (.ref (supI K s.x)))) && (decide (typeIn K (.ref (supI K s.x)) = some (.type "function")) &&
  (He.eqO (nsIn K mainGlobals "super") (some none) && (keepIn K (.ref (He.ga K s.x)) && (decide (subIn K (.ref (He.ga K s.x)) (.type "BaseException") = some true) && (decide (typeIn K (.ref (He.ga K s.x)) = some (.type "type")) && fnB file K s))))))))))))
theorem sup_ok {P : Program} {K : PySem.W.Frag} {file : Str} {s : Sx} {ar : Arg} (h : supB file K s = true) (e : seenS K s.x = s.val) (hP : ((P.main.file : Str) == file) = true) (ht : (P.main.scope.names.lookup ("super" : Str)).isSome = false) (hb : PySem.SupX.InitBody s.fs s.body)
    (hnd : (("self" : Str) :: s.fs).Nodup) (hnod : ∀ f, f ∈ s.fs → (f == ("__debug__" : Str)) = false) (har : (s.params.posonlyargs ++ s.params.args).head? = some ar) (hars : ar.arg = "self")
    (hbind : ∀ (doc pm cdv ct : Value) (an : Option Addr) (cc : Addr) (sh : Shared) (us : List Value), us.length = s.fs.length + 1 → BindsTo sh (ksFn "__init__" s.qual s.params s.body s.scope .none .none doc pm an cdv ct cc) ⟨us, []⟩ ((("self" : Str) :: s.fs).zip us))
    (h1 : s.scope.names.lookup ("super" : Str) = some .globalImplicit) (h2 : s.scope.names.lookup ("__class__" : Str) = some .free) (h3 : ∀ f, f ∈ ("self" : Str) :: s.fs → s.scope.names.lookup f = some .local) (h4 : s.scope.kind = .function) (h5 : s.scope.isGenerator = false) (h6 : s.scope.isCoroutine = false)
    (h7 : ∀ x ∈ s.scope.names, x.2 ≠ .cell) : PySem.SupX.SupT P K (He.ga K s.x) (supI K s.x) s.fs ∧ keepIn K (.ref (He.ga K s.x)) = true ∧ subIn K (.ref (He.ga K s.x)) (.type "BaseException") = some true ∧ typeIn K (.ref (He.ga K s.x)) = some (.type "type") := by
  unfold supB at h
  obtain ⟨a1, h⟩ := He.ba h
  obtain ⟨a2, h⟩ := He.ba h
  obtain ⟨a3, h⟩ := He.ba h
  obtain ⟨a4, h⟩ := He.ba h
  obtain ⟨a5, h⟩ := He.ba h
  obtain ⟨a6, h⟩ := He.ba h
  obtain ⟨a7, h⟩ := He.ba h
  obtain ⟨a8, h⟩ := He.ba h
  obtain ⟨a9, h⟩ := He.ba h
  obtain ⟨a10, h⟩ := He.ba h
  obtain ⟨a11, h⟩ := He.ba h
  obtain ⟨a12, h⟩ := He.ba h
  obtain ⟨a13, a14⟩ := He.ba h
  refine ⟨⟨exoB_ok a1, He.eqO_ok a2, fun f hf => He.eqO_ok (List.all_eq_true.mp a3 f hf), hnd, hnod, He.eqO_ok a4, of_decide_eq_true a5, of_decide_eq_true a6, He.eqO_ok a7, He.eqO_ok a8, of_decide_eq_true a9, He.eqO_ok a10, ht, ?_⟩, a11, of_decide_eq_true a12, of_decide_eq_true a13⟩
  unfold fnB at a14
  unfold seenS at e
  split at a14
  · rename_i oc od z osl hl
    rw [hl] at e
    obtain ⟨y1, y2, y3, y4, y5, y6, y7, y8, y9, y10, y11, y12, y13, y14, y15⟩ := z
    simp only [Sx.val, Option.bind_some, Option.some.injEq, Prod.mk.injEq] at e
    obtain ⟨b1, b2, b3, b4, b5, b6, b7, b8⟩ := e
    obtain ⟨c1, a15⟩ := He.ba a14
    obtain ⟨c2, a16⟩ := He.ba a15
    obtain ⟨c3, a17⟩ := He.ba a16
    clear a14 a15 a16
    dsimp only at c1 c2 c3 a17
    split at a17
    · rename_i _ _ cda q cc
      obtain ⟨d1, d2⟩ := He.ba a17
      split at d1
      · rename_i ccl cdd vs ccs hcda
        split at d1
        · rename_i f tf hvs
          split at d2
          · rename_i cl cld C' csl hcc
            have e1 := of_decide_eq_true d1
            have e2 := of_decide_eq_true d2
            subst e1 e2
            have z1 := isNone_ok c2
            have z2 := isNone_ok c3
            subst b1 b2 b3 b4 b5 b6 b8 z1 z2
            simp only [List.map_cons, List.map_nil, List.cons.injEq, and_true] at b7
            subst b7
            exact ⟨oc, od, _, _, _, _, _, _, _, _, _, _, osl, cda, cc, ccl, cl, cdd, cld, vs, ccs, csl, f, tf, ar, hl, c1, hcda, hvs, hP, hcc, hb, har, hars, fun s us hus => hbind _ _ _ _ _ _ s us hus, h1, h2, h3, h4, h5, h6, h7⟩
          · cases d2
        · cases d1
      · cases d1
    · cases a17
  · cases a14
/-! ### the other facts -/
/-- the keyword-only default of a def, an object -/
def kwAt (w : Wh) (x : Str) (K : PySem.W.Frag) : Addr := match K.lookup (w.ad K) with
  | some ⟨_, _, .func z, _⟩ => (match z.kwdefaults with
    | .ref D => (match nsIn K D x with
      | some (some (.ref a)) => a
      | _ => 0)
    | _ => 0)
  | _ => 0
inductive XF where
  | isT (x y : Str) (b : Bool)
  | isTy (x : Str) (n : String) (b : Bool)
  | ecc (x : Str)
  | fld (x f : Str)
  | cme (x m : Str)
  | dfl (w : Wh) (x : Str) (d : D)
def XF.ok (K : PySem.W.Frag) : XF → Bool
  | .isT x y b => decide (kitOne K (.ref (He.ga K x)) (.ref (He.ga K y)) = some b)
  | .isTy x n b => decide (kitOne K (.ref (He.ga K x)) (.type n) = some b)
  | .ecc x => He.eqO (findIn K (.ref (He.ga K x)) "__getattribute__") (some (some (.builtin "BaseException.__getattribute__"))) && (He.eqO (findIn K (.ref (He.ga K x)) "__getattr__") (some none) && (decide (subIn K (.ref (He.ga K x)) (.type "BaseException") = some true) && (hasDictIn K (He.ga K x) &&
    (He.eqO (findIn K (.ref (He.ga K x)) "__class__") (some (some (.builtin "object.__class__"))) && (He.eqO (specialIn K (.builtin "object.__class__") "__get__") (some (some (.builtin "getset_descriptor.__get__"))) && (decide (takesIn K (.builtin "object.__class__") = some true) && decide (mroIn K (He.ga K x) (.type "object") = some true)))))))
  | .cme x m => readsIn K (He.ga K x) (.type "type") && (He.eqO (specialIn K (.ref (He.ga K x)) "__getattribute__") (some (some (.builtin "type.__getattribute__"))) && (He5.wrapB K (He.ga K x) "classmethod" "classmethod.__get__" m && fnIn K (He5.wf K (He.ga K x) "classmethod" m)))
  | .dfl w x d => dB K d (.ref (kwAt w x K))
  | .fld x f => xfB K (He.ga K x) && He.eqO (findIn K (.ref (He.ga K x)) f) (some none)
section
variable {K : PySem.W.Frag} {cl : Nat → Option (Addr × List Str)} {x y f : Str} {n : String} {b : Bool} {ci cj j : Nat} {nm nm2 : List Str}
theorem ecc_ok (h : (XF.ecc x).ok K = true) : ExcC K (He.ga K x) := by
  obtain ⟨h1, h⟩ := He.ba h
  obtain ⟨h2, h⟩ := He.ba h
  obtain ⟨h3, h⟩ := He.ba h
  obtain ⟨h4, h⟩ := He.ba h
  obtain ⟨h5, h⟩ := He.ba h
  obtain ⟨h6, h⟩ := He.ba h
  obtain ⟨h7, h8⟩ := He.ba h
  exact ⟨He.eqO_ok h1, He.eqO_ok h2, of_decide_eq_true h3, h4, He.eqO_ok h5, He.eqO_ok h6, of_decide_eq_true h7, of_decide_eq_true h8⟩
theorem isT_ok (h : (XF.isT x y b).ok K = true) (e : (XF.ecc x).ok K = true) (h1 : cl ci = some (He.ga K x, nm)) (h2 : cl cj = some (He.ga K y, nm2)) (hj : cj ≠ xix := by decide) : IsT K ⟨K, cl⟩ ci (.cls cj) b :=
  ⟨_, nm, h1, ecc_ok e, .inl ⟨cj, _, nm2, rfl, hj, h2, of_decide_eq_true h⟩⟩
theorem isTy_ok (h : (XF.isTy x n b).ok K = true) (e : (XF.ecc x).ok K = true) (h1 : cl ci = some (He.ga K x, nm)) : IsT K ⟨K, cl⟩ ci (.ty n) b :=
  ⟨_, nm, h1, ecc_ok e, .inr ⟨n, rfl, of_decide_eq_true h⟩⟩
theorem fld_ok (h : (XF.fld x f).ok K = true) (h1 : cl ci = some (He.ga K x, nm)) (hj : nm[j]? = some f := by rfl) (hn : nm.Nodup := by decide +kernel) : XfT K ⟨K, cl⟩ ci f j := by
  obtain ⟨h3, h4⟩ := He.ba h
  exact ⟨_, nm, h1, hj, hn, xfB_ok h3, He.eqO_ok h4⟩
theorem cme_ok {m : Str} (h : (XF.cme x m).ok K = true) : ClX.CRead K (He.ga K x) (.type "type") ∧ ClX.CMet K (He.ga K x) (.type "type") m (He.ma K (He.ga K x) m) (He5.wf K (He.ga K x) "classmethod" m) := by
  obtain ⟨h1, h⟩ := He.ba h
  obtain ⟨h2, h⟩ := He.ba h
  obtain ⟨h3, h4⟩ := He.ba h
  exact ⟨⟨h1, He.eqO_ok h2⟩, He5.cmet_of h3 h4⟩
theorem dfl_ok {w : Wh} {d : D} (h : (XF.dfl w x d).ok K = true) (G : Hp) : RD ⟨K, cl⟩ G d (.ref (kwAt w x K)) := by
  obtain ⟨v, r, z⟩ := dB_ok (cl := cl) (show dB K d (.ref (kwAt w x K)) = true from h)
  cases v <;> simp only [RelV] at r <;> first | (cases r; done) | skip
  all_goals first | (obtain ⟨t, r⟩ := r; cases r; done) | (cases r; exact z G)
theorem raO_ok {mg : Str → Option Value} (h : (He.Fa.exc x).ok K = true) (hg : mg x = some (.ref (He.ga K x))) (h1 : cl ci = some (He.ga K x, [])) : RaO K mg ⟨K, cl⟩ x ci := by
  obtain ⟨a, b, c, d⟩ := He.exc_ok h
  exact ⟨_, h1, a, hg, b, c, d⟩
end
/-- a table of answers -/
def sameC : D → D → Bool
  | .cls i, .cls j => i == j
  | .ty m, .ty n => m == n
  | _, _ => false
def xtabOf (l : List ((Nat × D) × Bool)) (ce : Nat) (t : D) : Option Bool := match l.find? fun p => p.1.1 == ce && sameC p.1.2 t with
  | some p => some p.2
  | none => none
theorem xtab_ok {K : PySem.W.Frag} {k : Kn} {l : List ((Nat × D) × Bool)} (h : ∀ p, p ∈ l → IsT K k p.1.1 p.1.2 p.2) : ∀ ci t b, xtabOf l ci t = some b → IsT K k ci t b := fun ci t b e => by
  unfold xtabOf at e
  cases hf : l.find? fun p => p.1.1 == ci && sameC p.1.2 t with
  | none => rw [hf] at e; cases e
  | some p =>
    rw [hf] at e
    cases e
    have hp := h p (List.mem_of_find?_eq_some hf)
    have hq := List.find?_some hf
    simp only [Bool.and_eq_true, beq_iff_eq] at hq
    obtain ⟨h1, h2⟩ := hq
    obtain ⟨⟨ce, t2⟩, b⟩ := p
    dsimp only at h1 h2 hp ⊢
    subst h1
    cases t2 <;> cases t <;> first | (cases h2; done) | (simp only [sameC, beq_iff_eq] at h2; subst h2; exact hp)
/-- what an except clause takes -/
def mtOf (l : List (Nat × Bool)) (ci : Nat) : Option Bool := l.lookup ci
structure TryC (K : PySem.W.Frag) (mg : Str → Option Value) (k : Kn) (x : Str) (mt : Nat → Option Bool) : Prop where
  ex : ∃ cv, mg x = some cv ∧ ∀ ci b, mt ci = some b → ∃ C nm, k.cl ci = some (C, nm) ∧ PySem.W.exmOne K (.ref C) cv = some b
theorem tryC_ok {K : PySem.W.Frag} {mg : Str → Option Value} {k : Kn} {x : Str} {l : List (Nat × Bool)} {cv : Value} (hm : mg x = some cv) (h : ∀ p, p ∈ l → ∃ C nm, k.cl p.1 = some (C, nm) ∧ PySem.W.exmOne K (.ref C) cv = some p.2) : TryC K mg k x (mtOf l) :=
  ⟨cv, hm, fun ci b e => by
    unfold mtOf at e
    have key : ∀ {l : List (Nat × Bool)}, l.lookup ci = some b → (ci, b) ∈ l := fun {l} => by
      induction l with
      | nil => intro h; cases h
      | cons p l ih =>
        intro h
        obtain ⟨c, d⟩ := p
        by_cases hc : ci = c
        · subst hc; simp [List.lookup] at h; subst h; simp
        · have : (ci == c) = false := by simpa using hc
          simp only [List.lookup, this] at h
          exact List.mem_cons_of_mem _ (ih h)
    exact h _ (key e)⟩
section
variable {X : Cx} {c : Cf} {pos : Pos} {s : FS} {as bs : List Nat}
theorem s_try {x n : Str} {i : Nat} {body suite : List Stmt} {b₀ : Stmt} {np pos' : Pos} {hnd : Exc → FS} {mt : Nat → Option Bool} (T : TryC X.K X.mg c.k x mt) (hN : X.N.Nodup) (tk : L2N.Takes X c.W) (h0 : c.k.cl xix = none)
    (hb : ∀ (W : WX) (pn : List (Addr × Obj)) (xe : Value → Shared → Prop) (H0 G0 : Hp), L2N.Takes (X.tr pn xe) W → PassesOwn (model X.prog X.w) X.A X.env xe → PB1' (X.tr pn xe) ⟨c.k, H0, G0, W⟩ false as body s)
    (hsu : ∀ (a : Addr) (oe : Obj) (cls : Value) (d : Option Addr) (pn : List (Addr × Obj)) (H0 G0 : Hp) (y : Exc), Held (X.suite a ((a, oe) :: pn)) c.k a y H0 G0 →
      PB' (X.suite a ((a, oe) :: pn)) ⟨c.k.at a, H0, G0, liftX E0⟩ false bs (b₀ :: suite) (hnd y))
    (hi : X.N[i]? = some n := by rfl) (hln : X.env.kindOf n = some .local := by rfl) (hg : Gl X x := by rfl) (hdb : (x == ("__debug__" : Str)) = false := by decide) (hs : X.stack = X.env :: X.outer := by rfl) (hf : X.env.frame = some X.env.locals := by rfl) :
    PS' X c false as (.Try body [.ExceptHandler (some (.Name x np)) (some n) (b₀ :: suite) pos'] [] [] pos) (sTryAs mt i s hnd) := by
  obtain ⟨cv, hm, he⟩ := T.ex
  exact s_tryAs hs hf hN hi hln ⟨hg, hdb, .inl hm⟩ tk h0 he hb fun a oe cls d pn H0 G0 y hz hv xr => hsu a oe cls d pn H0 G0 y ⟨oe, cls, d, List.mem_cons_self .., hz.zc, hv, xr⟩
end
theorem takes0 {X : Cx} : L2N.Takes X (liftX E0) := fun _ _ ⟨_, _, _, _, _, _, _, _, _, _, _, _, _, _, _, _, w⟩ => w.elim
/-! ### the hook -/
abbrev AlV : Type := AlZ × (Bool × List FnS)
structure Fv where
  y : Fy
  ts : List TabI
  xs : List XF
  ss : List Sx
  file : Str
def obsV (x : Fv) (fn : List Dx) (K : PySem.W.Frag) : AlV := (obsZ x.y x.ts fn K, (x.xs.all fun f => f.ok K) && x.ss.all fun s => supB x.file K s, x.ss.map fun s => seenS K s.x)
def valV (x : Fv) (fn : List Dx) (w : World) : AlV := (valZ x.ts fn w, true, x.ss.map fun s => s.val)
def SaysV (x : Fv) (fn : List Dx) (w : World) (K : PySem.W.Frag) : Prop := obsV x fn K = valV x fn w
def obsVG (n : Nat) (x : Fv) (fn : List Dx) (g : Addr → Option Obj) : AlV := obsV x fn (He.frG g (cStatics :: He.asD g n))
def hookV (n : Nat) (x : Fv) (fn : List Dx) : PySem.W.Hook where
  α := AlV
  obs := fun s => obsVG n x fn s.heap.get?
  val := fun w => valV x fn w
  says := fun w h => ∃ K : PySem.W.Frag, K.In h ∧ SaysV x fn w K
  of := fun _ _ e => ⟨_, He.frG_in, e⟩
  keeps := fun _ _ _ ⟨K, hK, c⟩ k => ⟨K, PySem.W.Frag.In.keeps hK k, c⟩
theorem obsVG_eq {n : Nat} {x : Fv} {fn : List Dx} {g : Addr → Option Obj} {s : Shared} (h : ∀ a, g a = s.heap.get? a) : obsVG n x fn g = (hookV n x fn).obs s := by
  have q : g = s.heap.get? := funext h
  subst q; rfl
section
variable {x : Fv} {fn : List Dx} {K : PySem.W.Frag} {w : World}
theorem SaysV.z (c : SaysV x fn w K) : SaysZ x.y x.ts fn w K := congrArg (fun z : AlV => z.1) c
theorem SaysV.both (c : SaysV x fn w K) : ((x.xs.all fun f => f.ok K) && x.ss.all fun s => supB x.file K s) = true := congrArg (fun z : AlV => z.2.1) c
theorem SaysV.xf (c : SaysV x fn w K) (i : Nat) {f : XF} (h : x.xs[i]? = some f := by rfl) : f.ok K = true := List.all_eq_true.mp (He.ba c.both).1 f (List.mem_of_getElem? h)
theorem SaysV.sx (c : SaysV x fn w K) (i : Nat) {s : Sx} (h : x.ss[i]? = some s := by rfl) : supB x.file K s = true ∧ seenS K s.x = s.val := by
  refine ⟨List.all_eq_true.mp (He.ba c.both).2 s (List.mem_of_getElem? h), ?_⟩
  have e : x.ss.map (fun s => seenS K s.x) = x.ss.map fun s => s.val := congrArg (fun z : AlV => z.2.2) c
  have e2 := congrArg (fun l : List FnS => l[i]?) e
  simp only [List.getElem?_map, h, Option.map_some, Option.some.injEq] at e2
  exact e2
end
end M
set_option Elab.async false
set_option linter.all false
set_option maxRecDepth 100000
set_option maxHeartbeats 4000000
namespace M
open PySem L2
section
variable {X : Cx} {c : Cf} {a b e o : Expr} {f g h : FE} {pos apos : Pos} {x : Str} {den : List D → R D}
theorem d_callXS {lv m n : Nat} {p : Pos} {es : List Expr} {fa : FA} (F : CalleeX X.prog X.w X.K X.mg X.base c.k lv x n false den) (hr : Room m X.A) (hle : lv ≤ m) (tk : L2N.Takes X c.W) (ha : PA' X c false (e :: es) fa) (hl : Len n fa) (hg : Gl X x := by rfl) (hdb : (x == ("__debug__" : Str)) = false := by decide)
    (hs : starEach (e :: es) X.env = (false, eval e X.env) :: starEach es X.env := by rfl) (hs2 : ((backTo pos (starEach es X.env)).any fun x => x.1) = false := by rfl) : PE' X c .st (.Call (.Name x p) (e :: es) [] pos) (eCX den fa) := d_callX F hr hle tk ha hl hg hdb hs hs2
theorem d_callXF {lv m n : Nat} {p : Pos} {es : List Expr} {fa : FA} (F : CalleeX X.prog X.w X.K X.mg X.base c.k lv x n true den) (hr : Room m X.A) (hle : lv ≤ m) (tk : L2N.Takes X c.W) (ha : PA' X c false (e :: es) fa) (hl : Len n fa) (hg : Gl X x := by rfl) (hdb : (x == ("__debug__" : Str)) = false := by decide)
    (hs : starEach (e :: es) X.env = (false, eval e X.env) :: starEach es X.env := by rfl) (hs2 : ((backTo pos (starEach es X.env)).any fun x => x.1) = false := by rfl) : PE' X c .fr (.Call (.Name x p) (e :: es) [] pos) (eCX den fa) := d_callX F hr hle tk ha hl hg hdb hs hs2
theorem d_methXS {lv m' : Nat} (ci : Nat) {m : Str} {n : Nat} {es : List Expr} {fa : FA} {pl : Sem Bool} (F : MethodX X.prog X.w X.K X.mg X.base c.k lv ci m (n + 1) false den) (hr : Room m' X.A) (hle : lv ≤ m') (tk : L2N.Takes X c.W) (ho : PE' X c .st o f) (ha : PA' X c false (e :: es) fa) (hl : Len n fa)
    (hst : starEach (e :: es) X.env = (false, eval e X.env) :: starEach es X.env := by rfl) (hpl : (backTo pos (starEach es X.env)).any (·.1) = false := by rfl)
    (ht : eval (.Call (.Attribute o m apos) (e :: es) [] pos) X.env = (do
      let ov ← eval o X.env
      standAt apos.atName
      let (f, first) ← holding [ov] (getMethod ov m pl)
      callWith pos f first (backTo pos (starEach (e :: es) X.env)) (backToKw pos (keywordEach [] X.env))) := by rfl) :
    PE' X c .st (.Call (.Attribute o m apos) (e :: es) [] pos) (eMX ci den f fa) := d_methX ci F hr hle tk ho ha hl hst hpl ht
theorem d_methXF {lv m' : Nat} (ci : Nat) {m : Str} {n : Nat} {es : List Expr} {fa : FA} {pl : Sem Bool} (F : MethodX X.prog X.w X.K X.mg X.base c.k lv ci m (n + 1) true den) (hr : Room m' X.A) (hle : lv ≤ m') (tk : L2N.Takes X c.W) (ho : PE' X c .st o f) (ha : PA' X c false (e :: es) fa) (hl : Len n fa)
    (hst : starEach (e :: es) X.env = (false, eval e X.env) :: starEach es X.env := by rfl) (hpl : (backTo pos (starEach es X.env)).any (·.1) = false := by rfl)
    (ht : eval (.Call (.Attribute o m apos) (e :: es) [] pos) X.env = (do
      let ov ← eval o X.env
      standAt apos.atName
      let (f, first) ← holding [ov] (getMethod ov m pl)
      callWith pos f first (backTo pos (starEach (e :: es) X.env)) (backToKw pos (keywordEach [] X.env))) := by rfl) :
    PE' X c .fr (.Call (.Attribute o m apos) (e :: es) [] pos) (eMX ci den f fa) := d_methX ci F hr hle tk ho ha hl hst hpl ht
end
end M
set_option Elab.async false
set_option linter.all false
set_option maxRecDepth 100000
set_option maxHeartbeats 4000000
namespace M
open PySem L2
/-! ### a class whose __init__ may raise, keyword-only parameters left to their defaults; classmethods -/
/-- dd: the defaults -/
structure MakerXD (P : Program) (w : World) (K : PySem.W.Frag) (mg : Str → Option Value) (base : Heap) (k : Kn) (lv : Nat) (x : Str) (ci n : Nat) (dd : List D) (den : List D → R D) : Prop where
  ex : ∃ (C f : Addr) (fd : FuncData) (ps nm : List Str) (dvs : List V) (ds : List Value), k.cl ci = some (C, nm) ∧ Mk K C f ∧ FnOk P w K mg base (L2N.CX P w) lv f fd ps (SpN k ci (n + dd.length + 1) den) ∧ mg x = some (.ref C) ∧ Binds K fd ps ds ∧ Vals dvs ds ∧ ∀ G, RDs k G dd dvs
/-- a classmethod -/
structure CmethX (P : Program) (w : World) (K : PySem.W.Frag) (mg : Str → Option Value) (base : Heap) (k : Kn) (lv : Nat) (ci : Nat) (m : Str) (n : Nat) (fr : Bool) (den : List D → R D) : Prop where
  ex : ∃ (C p g : Addr) (mc : Value) (fd : FuncData) (ps nm : List Str), ps.length = n ∧ k.cl ci = some (C, nm) ∧ ClX.CRead K C mc ∧ ClX.CMet K C mc m p g ∧ FnOk P w K mg base (L2N.CX P w) lv g fd ps (SpF k fr n den) ∧ Binds K fd ps []
section
variable {X : Cx} {c : Cf} {kd k1 k2 k3 : Kd} {a b e o : Expr} {f g h : FE} {pos apos : Pos} {fr : Bool} {x : Str} {den : List D → R D} {ci : Nat}
theorem run_makeSD {CX : CXT} {k : Nat} {C f : Addr} {fd : FuncData} {ps : List Str} {sp : Sp} {E : XK} {pins : List (Addr × Obj)} {σ : L2.St} {H : Hp} {s : Shared} {Q : VK} {us ds : List Value} {vs dvs : List V} (Mm : Mk X.K C f) (F : FnOk X.prog X.w X.K X.mg X.base CX k f fd ps sp) (hr : Room (k + 1) X.A) (hb : Binds X.K fd ps ds) (hd : Vals dvs ds)
    (hx : ∀ (H : Hp) (s : Shared) (e : Value) (s' : Shared), L2.Inv X pins σ H s → CX X.stack H s E e s' → X.xe e s') (I : L2.Inv X pins σ H s) (r : Vals vs us)
    (h : ∀ x dx, H x = none → H dx = none → dx ≠ x → sp (.ref x :: (vs ++ dvs)) (upd (upd H dx (.own x)) x (.ins C dx [])) (fun v H2 => v = .non ∧ Q (.ref x) H2) E) :
    wpAny (model X.prog X.w) X.A (call (.ref C) us) (EP X pins σ Q) X.xe s := by
  have hq := h (s.heap.objs.size + 1) s.heap.objs.size (I.hok.fresh (Nat.le_succ _)) (I.hok.fresh (Nat.le_refl _)) (Nat.ne_of_lt (Nat.lt_succ_self _))
  have I2 := L2.Inv.made (C := C) I
  have r2 : Vals (V.ref (s.heap.objs.size + 1) :: (vs ++ dvs)) (Value.ref (s.heap.objs.size + 1) :: (us ++ ds)) := .cons rfl (r.append hd)
  have hl : (Value.ref (s.heap.objs.size + 1) :: (us ++ ds)).length = ps.length := by
    have e := r2.length
    rw [F.len _ _ _ _ hq] at e
    exact e.symm
  have bb := hb _ (Value.ref (s.heap.objs.size + 1) :: us) I2.kIn (by rw [← hl]; rfl)
  have bb : BindsTo _ fd ⟨Value.ref (s.heap.objs.size + 1) :: us, []⟩ (ps.zip (Value.ref (s.heap.objs.size + 1) :: (us ++ ds))) := bb
  refine wpAny_call (make_map (f := f) I.kIn Mm.makes Mm.init (beq_iff_eq.mp Mm.fn) (codeAny_mono (F.run _ X.stack _ _ ⟨Value.ref (s.heap.objs.size + 1) :: us, []⟩ (Value.ref (s.heap.objs.size + 1) :: (us ++ ds)) _ _ E (hr.make C us [])
    (I2.env0.make C us []) bb r2 hq) fun r s' hq' => ?_))
  cases r with
  | error e => exact hx _ _ e s' I2 hq'
  | ok fl =>
    cases fl with
    | ret u =>
      obtain ⟨v, H', I3, rv, ev, q3⟩ := I2.after hq'
      subst ev
      exact ⟨rv, ⟨V.ref (s.heap.objs.size + 1), H', I3, rfl, q3⟩⟩
    | next => exact False.elim hq'
    | brk => exact False.elim hq'
    | cont => exact False.elim hq'
def tMakeSD (C : Addr) (sp : Sp) (dvs : List V) (E : L2.St → XK) (t : TA) : TE := fun σ H Q => t σ H fun vs H1 => ∀ x dx, H1 x = none → H1 dx = none → dx ≠ x → sp (.ref x :: (vs ++ dvs)) (upd (upd H1 dx (.own x)) x (.ins C dx [])) (fun v H2 => v = .non ∧ Q (.ref x) H2) (E σ)
theorem pe_makeSD {CX : CXT} {E : L2.St → XK} {k : Nat} {C f : Addr} {fd : FuncData} {ps : List Str} {sp : Sp} {p : Pos} {es : List Expr} {t : TA} {dvs : List V} {ds : List Value} (Mm : Mk X.K C f) (F : FnOk X.prog X.w X.K X.mg X.base CX k f fd ps sp) (hr : Room (k + 1) X.A) (hg : Gl X x) (hm : X.mg x = some (.ref C)) (hb : Binds X.K fd ps ds) (hd : Vals dvs ds) (hx : ∀ σ, PassesAt CX X σ (E σ))
    (ha : PA X (e :: es) t) (hdb : (x == ("__debug__" : Str)) = false := by decide) (he : starEach (e :: es) X.env = (false, eval e X.env) :: starEach es X.env := by rfl) (hpl : (backTo pos (starEach es X.env)).any (·.1) = false := by rfl) :
    PE X (.Call (.Name x p) (e :: es) [] pos) (tMakeSD C sp dvs E t) := by
  refine ⟨fun pins s σ H Q I h => ?_⟩
  refine wpAny_Call_Name_kw (ld_glob I hg hm ?_ hdb)
  refine PySem.W.callWith_K (h₀ := X.base) I.ok.mod.kin Mm.kp (thn (ha.run pos pins s σ H _ I h) fun us s1 ⟨vs, H1, I1, r, q⟩ => ⟨I1.kIn, ?_⟩) he hpl
  exact run_makeSD Mm F hr hb hd (fun H s e s' => hx σ pins H s e s') I1 r q
/-- the class is what a slot holds -/
def tMakeSL (i : Nat) (C : Addr) (sp : Sp) (dvs : List V) (E : L2.St → XK) (t : TA) : TE := fun σ H Q => σ[i]? = some (some (.ref C)) ∧ tMakeSD C sp dvs E t σ H Q
theorem pe_makeSL {CX : CXT} {E : L2.St → XK} {i k : Nat} {C f : Addr} {fd : FuncData} {ps : List Str} {sp : Sp} {p : Pos} {es : List Expr} {t : TA} {dvs : List V} {ds : List Value} (Mm : Mk X.K C f) (F : FnOk X.prog X.w X.K X.mg X.base CX k f fd ps sp) (hr : Room (k + 1) X.A) (hN : X.N[i]? = some x) (hv : Vis X.env.scope x) (hb : Binds X.K fd ps ds) (hd : Vals dvs ds) (hx : ∀ σ, PassesAt CX X σ (E σ))
    (ha : PA X (e :: es) t) (hdb : (x == ("__debug__" : Str)) = false := by decide) (hcd : (x == ("__classdict__" : Str)) = false := by decide) (he : starEach (e :: es) X.env = (false, eval e X.env) :: starEach es X.env := by rfl) (hpl : (backTo pos (starEach es X.env)).any (·.1) = false := by rfl) :
    PE X (.Call (.Name x p) (e :: es) [] pos) (tMakeSL i C sp dvs E t) := by
  refine ⟨fun pins s σ H Q I ⟨hs, h⟩ => ?_⟩
  refine wpAny_Call_Name_kw (thn ((pe_var (pos := p) hN hv hdb hcd).run pins s σ H (fun v H1 => v = .ref C ∧ H1 = H) I ⟨.ref C, hs, rfl, rfl⟩) fun u s1 ⟨v, H1, I1, r1, q1⟩ => ?_)
  obtain ⟨rfl, rfl⟩ := q1
  cases r1
  refine PySem.W.callWith_K (h₀ := X.base) I.ok.mod.kin Mm.kp (thn (ha.run pos pins s1 σ _ _ I1 h) fun us s2 ⟨vs, H2, I2, r, q⟩ => ⟨I2.kIn, ?_⟩) he hpl
  exact run_makeSD Mm F hr hb hd (fun H s e s' => hx σ pins H s e s') I2 r q
def eCXD (dd : List D) (o : List D → R D) (g : FA) : FE := fun S => g S >>= fun xs => o (xs ++ dd)
theorem makeXD_go {C : Addr} {nm : List Str} {n : Nat} {fa : FA} {σ : L2.St} {H : Hp} {Q : VK} {dd : List D} {dvs : List V} (hd : ∀ G, RDs c.k G dd dvs) (hcl : c.k.cl ci = some (C, nm)) (hl : Len n fa) (q : RdE c .fr (eCXD dd den fa) σ H Q) :
    RdA c false fa σ H fun vs H1 => ∀ x dx, H1 x = none → H1 dx = none → dx ≠ x → SpN c.k ci (n + dd.length + 1) den (.ref x :: (vs ++ dvs)) (upd (upd H1 dx (.own x)) x (.ins C dx [])) (fun v H2 => v = .non ∧ Q (.ref x) H2) (WE c.W σ) := by
  obtain ⟨G, S, rel, p⟩ := q
  have p : PostE c .fr G S σ H Q (fa S >>= fun ds => den (ds ++ dd)) := p
  refine ⟨G, S, rel, ?_⟩
  cases e0 : fa S with
  | exc x => rw [e0] at p; exact p
  | fail => rw [e0] at p; exact p
  | ok ds =>
    rw [e0] at p
    intro vs G1 H1 s1 q1 x dx hx hdx hne
    have q1 : RDs c.k G1 ds vs := q1
    have q2 : RDs c.k G1 (ds ++ dd) (vs ++ dvs) := q1.append (hd G1)
    have hgx : G1 x = none := s1.gh.free hx
    have ex1 : Ex H1 (upd (upd H1 dx (.own x)) x (.ins C dx [])) := (Ex.new hdx).upd hx
    refine ⟨by simp [← q1.length, hl S ds e0, (hd G1).length], x, vs ++ dvs, G1, ds ++ dd, C, dx, nm, rfl, hcl, upd_same, hgx, s1.gh.trans ex1, q2, ?_⟩
    have p : PostE c .fr G S σ H Q (den (ds ++ dd)) := p
    cases e1 : den (ds ++ dd) with
    | ok d =>
      rw [e1] at p
      intro G' H' o ex hk gh hgx' gr ho ct
      refine ⟨rfl, p _ G' H' (s1.trans ⟨ex, fun b u q => hk b u (ne_of_none q hx) (ex1 b u q), gh, fun b u q => ?_⟩) ⟨x, o, rfl, hgx', s1.h.free hx, ho, ct⟩⟩
      rcases gr b u q with z | z
      · exact .inl z
      · exact .inr (ex1.free z)
    | exc y =>
      rw [e1] at p
      have p : PX c σ y := p
      intro _ cls da G' H' s2 xr
      have exl : Ex H1 (less (upd (upd H1 dx (.own x)) x (.ins C dx [])) x) := fun b u q => by
        rw [less_ne (ne_of_none q hx)]; exact ex1 b u q
      refine p cls da G' H' ((rel.grow s1).st.trans ⟨s2.g, fun b u q => s2.h b u (exl b u q), s2.gh, fun b u q => ?_⟩) xr
      rcases s2.gr b u q with z | z
      · exact .inl z
      · exact .inr (exl.free z)
    | fail => rw [e1] at p; exact p.elim
theorem d_makerXD {lv m' n : Nat} {dd : List D} {p : Pos} {es : List Expr} {fa : FA} (F : MakerXD X.prog X.w X.K X.mg X.base c.k lv x ci n dd den) (hr : Room m' X.A) (hle : lv + 1 ≤ m') (tk : L2N.Takes X c.W) (ha : PA' X c false (e :: es) fa) (hl : Len n fa) (hg : Gl X x := by rfl) (hdb : (x == ("__debug__" : Str)) = false := by decide)
    (hs : starEach (e :: es) X.env = (false, eval e X.env) :: starEach es X.env := by rfl) (hs2 : ((backTo pos (starEach es X.env)).any fun x => x.1) = false := by rfl) : PE' X c .fr (.Call (.Name x p) (e :: es) [] pos) (eCXD dd den fa) := by
  obtain ⟨C, f, fd, ps, nm, dvs, ds, hcl, mk, ok, hm, hb, hd, hdd⟩ := F.ex
  exact peI (pe_makeSD mk ok (hr.mono hle) hg hm hb hd (fun σ => L2N.passAt tk σ) ha hdb hs hs2) fun σ H Q q => makeXD_go hdd hcl hl q
def isClsD (ci : Nat) : D → Bool
  | .cls c => decide (c = ci)
  | _ => false
/-- cls(..), the class in a slot -/
def eCXL (i ci : Nat) (dd : List D) (o : List D → R D) (g : FA) : FE := fun S => eV i S >>= fun d => if isClsD ci d then eCXD dd o g S else .fail
theorem d_makerXL (i : Nat) {lv m' n : Nat} {dd : List D} {p : Pos} {y : Str} {es : List Expr} {fa : FA} (F : MakerXD X.prog X.w X.K X.mg X.base c.k lv y ci n dd den) (hr : Room m' X.A) (hle : lv + 1 ≤ m') (tk : L2N.Takes X c.W) (ha : PA' X c false (e :: es) fa) (hl : Len n fa) (hN : X.N[i]? = some x := by rfl) (hv : Vis X.env.scope x := by first | exact Or.inl rfl | exact Or.inr (Or.inl rfl) | exact Or.inr (Or.inr rfl)) (hdb : (x == ("__debug__" : Str)) = false := by decide) (hcd : (x == ("__classdict__" : Str)) = false := by decide)
    (hs : starEach (e :: es) X.env = (false, eval e X.env) :: starEach es X.env := by rfl) (hs2 : ((backTo pos (starEach es X.env)).any fun x => x.1) = false := by rfl) : PE' X c .fr (.Call (.Name x p) (e :: es) [] pos) (eCXL i ci dd den fa) := by
  obtain ⟨C, f, fd, ps, nm, dvs, ds, hcl, mk, ok, hm, hb, hd, hdd⟩ := F.ex
  refine peI (pe_makeSL mk ok (hr.mono hle) hN hv hb hd (fun σ => L2N.passAt tk σ) ha hdb hcd hs hs2) fun σ H Q ⟨G, S, rel, q⟩ => ?_
  have q : PostE c .fr G S σ H Q (eV i S >>= fun d => if isClsD ci d then eCXD dd den fa S else .fail) := q
  cases e0 : eV i S with
  | exc x => exact absurd e0 eV_exc
  | fail => rw [e0] at q; exact q.elim
  | ok d =>
    rw [e0, R.ok_bind] at q
    by_cases hd0 : isClsD ci d = true
    · rw [if_pos hd0] at q
      refine ⟨?_, makeXD_go hdd hcl hl ⟨G, S, rel, q⟩⟩
      unfold eV at e0
      split at e0
      · rename_i d' hS
        cases e0
        obtain ⟨v, hσ, hv⟩ := rel.fz i _ hS
        cases d with
        | cls c' =>
          have hc : c' = ci := by simpa [isClsD] using hd0
          subst hc
          cases hv with
          | cls h => rw [hcl] at h; cases h; exact hσ
        | _ => simp [isClsD] at hd0
      · cases e0
    · rw [if_neg hd0] at q; exact q.elim
/-! classmethods -/
def tCMethS (C : Addr) (sp : Sp) (E : L2.St → XK) (ta : TE) (t : TA) : TE := fun σ H Q => ta σ H fun x H1 => x = .ref C ∧ t σ H1 fun vs H2 => sp (.ref C :: vs) H2 Q (E σ)
theorem pe_cmethS {CX : CXT} {E : L2.St → XK} {k : Nat} {C p g : Addr} {mc : Value} {fd : FuncData} {ps : List Str} {sp : Sp} {m : Str} {es : List Expr} {ta : TE} {t : TA} {pl : Sem Bool} (he : PE X o ta) (r : ClX.CRead X.K C mc) (cm : ClX.CMet X.K C mc m p g) (F : FnOk X.prog X.w X.K X.mg X.base CX k g fd ps sp) (hr : Room k X.A) (hb : Binds X.K fd ps []) (hx : ∀ σ, PassesAt CX X σ (E σ)) (ha : PA X (e :: es) t)
    (hst : starEach (e :: es) X.env = (false, eval e X.env) :: starEach es X.env := by rfl) (hpl : (backTo pos (starEach es X.env)).any (·.1) = false := by rfl)
    (ht : eval (.Call (.Attribute o m apos) (e :: es) [] pos) X.env = (do
      let ov ← eval o X.env
      standAt apos.atName
      let (f, first) ← holding [ov] (getMethod ov m pl)
      callWith pos f first (backTo pos (starEach (e :: es) X.env)) (backToKw pos (keywordEach [] X.env))) := by rfl) :
    PE X (.Call (.Attribute o m apos) (e :: es) [] pos) (tCMethS C sp E ta t) := by
  refine ⟨fun pins s σ H Q I h => ?_⟩
  refine PySem.W.methodCall_KW (pl := pl) (thn (he.run pins s σ H _ I h) fun u s1 ⟨x, H1, I1, rx, ex, q⟩ => ?_) ht
  subst ex
  obtain rfl : u = Value.ref C := rx
  refine ClX.getmethcm_ok I1 r cm fun s2 I2 => ?_
  refine ClX.callwith_cm I2 (ClX.base_none I1 (Nat.le_refl _)) cm.fi (thn (ha.run pos _ s2 σ H1 _ I2 q) fun us s3 ⟨vs, H2, I3, rv, q2⟩ => ⟨⟨ClX.pin_at I3, I3.kIn⟩, ?_⟩) hst hpl
  have r2 : Vals (V.ref C :: vs) (Value.ref C :: us) := .cons rfl rv
  have hl : (Value.ref C :: us).length = ps.length := by rw [← r2.length]; exact F.len _ _ _ _ q2
  have bb := hb s3 (Value.ref C :: us) I3.kIn (by rw [List.append_nil]; exact hl)
  rw [List.append_nil] at bb
  have z : wpAny (model X.prog X.w) X.A (call (.ref s1.heap.objs.size) us) (EP X ((s1.heap.objs.size, PySem.W.methodObj (.ref g) (.ref C)) :: pins) σ Q) X.xe s3 :=
    wpAny_call (PySem.W.method_call (ClX.pin_at I3) (codeAny_mono (F.run X.A X.stack s3 H2 ⟨Value.ref C :: us, []⟩ (Value.ref C :: us) (V.ref C :: vs) Q _ hr I3.env0 bb r2 q2) fun r s' hq => by
      cases r with
      | error e => exact hx σ _ H2 s3 e s' I3 hq
      | ok fl =>
        cases fl with
        | ret u => exact I3.after hq
        | next => exact False.elim hq
        | brk => exact False.elim hq
        | cont => exact False.elim hq))
  exact thn z fun _ _ y => ClX.unpinE y
def eCMX (ci : Nat) (den : List D → R D) (f : FE) (fa : FA) : FE := fun S => f S >>= fun o => if isClsD ci o then fa S >>= fun ds => den (o :: ds) else .fail
theorem d_cmethX {lv m' : Nat} (ci : Nat) {m : Str} {n : Nat} {es : List Expr} {fa : FA} {pl : Sem Bool} (F : CmethX X.prog X.w X.K X.mg X.base c.k lv ci m (n + 1) fr den) (hr : Room m' X.A) (hle : lv ≤ m') (tk : L2N.Takes X c.W) (ho : PE' X c .st o f) (ha : PA' X c false (e :: es) fa) (hl : Len n fa)
    (hst : starEach (e :: es) X.env = (false, eval e X.env) :: starEach es X.env := by rfl) (hpl : (backTo pos (starEach es X.env)).any (·.1) = false := by rfl)
    (ht : eval (.Call (.Attribute o m apos) (e :: es) [] pos) X.env = (do
      let ov ← eval o X.env
      standAt apos.atName
      let (f, first) ← holding [ov] (getMethod ov m pl)
      callWith pos f first (backTo pos (starEach (e :: es) X.env)) (backToKw pos (keywordEach [] X.env))) := by rfl) :
    PE' X c (kdOf fr) (.Call (.Attribute o m apos) (e :: es) [] pos) (eCMX ci den f fa) := by
  obtain ⟨C, p, g, mc, fd, ps, nm, hn, hcl, cr, cm, ok, bd⟩ := F.ex
  refine peI (pe_cmethS ho cr cm ok (hr.mono hle) bd (fun σ => L2N.passAt tk σ) ha hst hpl ht) fun σ H Q ⟨G, S, rel, q⟩ => ?_
  refine rdE_go (g := fun o => if isClsD ci o then fa S >>= fun ds => den (o :: ds) else .fail) (Post := PostE c (kdOf fr) G S σ H Q) rel q (fun _ z => z) (fun z => z) fun d v G1 H1 s1 q1 p1 => ?_
  by_cases ho : isClsD ci d = true
  · rw [if_pos ho] at p1
    cases d with
    | cls c' =>
      have hc : c' = ci := by simpa [isClsD] using ho
      subst hc
      have q1 : RD c.k G1 (.cls c') v := q1
      cases q1 with
      | cls h =>
        rw [hcl] at h; cases h
        refine ⟨rfl, G1, S, rel.grow s1, ?_⟩
        cases e0 : fa S with
        | exc x => rw [e0] at p1; exact p1
        | fail => rw [e0] at p1; exact p1
        | ok as =>
          rw [e0] at p1
          intro vs G2 H2 s2 q2
          have q2 : RDs c.k G2 as vs := q2
          refine ⟨by simp [← q2.length, hl S as e0], G2, .cls c' :: as, s2.gh, .cons (.cls hcl) q2, ?_⟩
          have p1 : PostE c (kdOf fr) G S σ H Q (den (.cls c' :: as)) := p1
          cases e1 : den (.cls c' :: as) with
          | ok d => rw [e1] at p1; exact fun v G' H' s3 r3 => p1 v G' H' ((s1.trans s2).trans s3) (r3.mono (s1.h.trans s2.h))
          | exc x =>
            rw [e1] at p1
            have p1 : PX c σ x := p1
            exact fun _ cls da G' H' s3 xr => p1 cls da G' H' ((rel.grow (s1.trans s2)).st.trans s3) xr
          | fail => rw [e1] at p1; exact p1.elim
    | _ => simp [isClsD] at ho
  · rw [if_neg ho] at p1; exact p1.elim
theorem d_makerXDF {lv m' n : Nat} {dd : List D} {p : Pos} {es : List Expr} {fa : FA} (F : MakerXD X.prog X.w X.K X.mg X.base c.k lv x ci n dd den) (hr : Room m' X.A) (hle : lv + 1 ≤ m') (tk : L2N.Takes X c.W) (ha : PA' X c false (e :: es) fa) (hl : Len n fa) (hg : Gl X x := by rfl) (hdb : (x == ("__debug__" : Str)) = false := by decide)
    (hs : starEach (e :: es) X.env = (false, eval e X.env) :: starEach es X.env := by rfl) (hs2 : ((backTo pos (starEach es X.env)).any fun x => x.1) = false := by rfl) : PE' X c .fr (.Call (.Name x p) (e :: es) [] pos) (eCXD dd den fa) := d_makerXD F hr hle tk ha hl hg hdb hs hs2
end
end M
set_option Elab.async false
set_option linter.all false
set_option maxRecDepth 100000
set_option maxHeartbeats 4000000
namespace M
open PySem L2 PyProof.Rows
/-! ### dicts whose keys are any expressions: ints, texts, or tuples of two or three such, not all of them texts -/
def keyT : D → Option (List Key)
  | .tup ds => if 1 < ds.length ∧ ds.length < 4 ∧ ds.all isStrD = false then keysD ds else none
  | _ => none
section
variable {k : Kn} {G H : Hp}
theorem strs_back : ∀ {ds : List D} {vs : List V}, RDs k G ds vs → (vs.all fun x => match x with | .str _ => true | _ => false) = true → ds.all isStrD = true
  | _, _, .nil, _ => rfl
  | d :: ds, v :: vs, .cons a b, h => by
    rw [List.all_cons, Bool.and_eq_true] at h
    rw [List.all_cons, strs_back b h.2, Bool.and_true]
    have h1 := h.1
    split at h1
    · cases a; rfl
    · cases h1
theorem keyT_now (e : Ex G H) {d : D} {v : V} {q : List Key} (h : keyT d = some q) (n : Now k G H d v) : ∃ b, v = .ref b ∧ H b = some (.tup (q.map kV)) := by
  unfold keyT at h
  split at h
  · rename_i ds
    split at h
    · rename_i hc
      obtain ⟨a, vs, rfl, ha, r⟩ := n.tup
      obtain rfl := keysD_rd h r
      refine ⟨a, rfl, ?_⟩
      rcases ha with ha | ⟨o, its, m, _, _, _, _, _, oc⟩
      · exact e _ _ ha
      · exfalso
        have hl := r.length
        unfold okC at oc
        rw [← hl] at oc
        simp only [Bool.or_eq_true, decide_eq_true_eq] at oc
        rcases oc with z | z | z
        · omega
        · omega
        · rw [strs_back r z] at hc; exact absurd hc.2.2 (by simp)
    · cases h
  · cases h
/-- what a dict holds at a key; none: not covered -/
def dlook (d y : D) : Option (Option D) := match d with
  | .dic ks ds => (keyD y).map fun q => getL ks ds q
  | .dit ks ds => (keyT y).map fun q => getL ks ds q
  | _ => none
theorem dlook_at (e : Ex G H) {d : D} {u : V} {o : Option D} {y : D} (nx : Now k G H d u) (h : dlook d y = some o) : ∃ a, u = .ref a ∧ IsD H a := by
  cases d with
  | dic ks ds =>
    obtain ⟨a, vs, rfl, ha, hl, r⟩ := nx.dic e
    exact ⟨a, rfl, .inl ⟨_, .inl ha⟩⟩
  | dit ks ds =>
    obtain ⟨a, vs, rfl, ha, hl, r⟩ := nx.dit e
    exact ⟨a, rfl, .inr ⟨_, .inl ha⟩⟩
  | _ => cases h
theorem dlook_go (e : Ex G H) {d y : D} {u v : V} {o : Option D} (nx : Now k G H d u) (ny : Now k G H y v) (h : dlook d y = some o) :
    ∃ a ov, u = .ref a ∧ DGet H a v ov ∧ (∀ r, o = some r → ∃ w, ov = some w ∧ RD k G r w) ∧ (o = none → ov = none) := by
  cases d with
  | dic ks ds =>
    obtain ⟨q, hq, rfl⟩ := Option.map_eq_some_iff.mp h
    obtain ⟨a, vs, rfl, ha, hl, r⟩ := nx.dic e
    obtain rfl := keyD_now hq ny
    exact ⟨a, _, rfl, DGet.k ha, (getL_val hl r).1, (getL_val hl r).2⟩
  | dit ks ds =>
    obtain ⟨q, hq, rfl⟩ := Option.map_eq_some_iff.mp h
    obtain ⟨a, vs, rfl, ha, hl, r⟩ := nx.dit e
    obtain ⟨b, rfl, hb⟩ := keyT_now e hq ny
    exact ⟨a, _, rfl, DGet.t ha hb, (getL_val hl r).1, (getL_val hl r).2⟩
  | _ => cases h
end
section
variable {X : Cx} {c : Cf} {kd k1 k2 k3 : Kd} {a b e o : Expr} {f g h : FE} {pos apos cpos : Pos} {fr : Bool} {x : Str} {k : Kn}
theorem ix_dct (hu : X.A.units + 1 < cLine) : IxR X (fun x y H Q => ∃ a v, x = .ref a ∧ DGet H a y (some v) ∧ Q v H) := by
  intro value slice pins s σ H x y v u Q I rx ry h hs
  obtain ⟨a, z, rfl, g, q⟩ := h
  cases (show v = Value.ref a from rx)
  exact tail_any (dict_typeIs I g) PySem.F.slot_dict_getitem.lookup (d_getItem hu I g ry fun w' s3 I3 rw' => ⟨z, H, I3, rw', q⟩) hs
theorem op_dctIn (hu : X.A.units + 1 < cLine) : OpR X (compareOp .In) (fun y x H Q => ∃ a o, x = .ref a ∧ DGet H a y o ∧ Q (.bl o.isSome) H) := by
  intro pins s σ H y x u v Q I ry rx h
  obtain ⟨a, z, rfl, g, q⟩ := h
  cases (show v = Value.ref a from rx)
  exact d_in hu I g ry fun s3 I3 => ⟨.bl z.isSome, H, I3, rfl, q⟩
theorem op_dctNotIn (hu : X.A.units + 1 < cLine) : OpR X (compareOp .NotIn) (fun y x H Q => ∃ a o, x = .ref a ∧ DGet H a y o ∧ Q (.bl (!o.isSome)) H) := by
  intro pins s σ H y x u v Q I ry rx h
  obtain ⟨a, z, rfl, g, q⟩ := h
  cases (show v = Value.ref a from rx)
  exact d_notIn hu I g ry fun s3 I3 => ⟨.bl (!z.isSome), H, I3, rfl, q⟩
def ixA (d y : D) : R D := match dlook d y with
  | some (some r) => .ok r
  | some none => .fail
  | none => ixD d y
theorem o_ixA (hk : k.K = X.K) (hu : X.A.units + 65 < cLine) : Ix2 X k ixA := by
  obtain ⟨r0, h0, z0⟩ := o_ix (k := k) hk
  refine ⟨_, (ix_dct (by omega)).or h0, ?_⟩
  intro G H x y u v d e nx ny hg Q q
  unfold ixA at hg
  split at hg
  · rename_i r hl
    cases hg
    obtain ⟨a, ov, rfl, g, h1, _⟩ := dlook_go e nx ny hl
    obtain ⟨w, rfl, rw_⟩ := h1 _ rfl
    exact .inl ⟨a, w, rfl, g, q _ G H (Step.refl e) rw_⟩
  · cases hg
  · exact .inr (z0 G H x y u v d e nx ny hg Q q)
def inA (y d : D) : R D := match dlook d y with
  | some r => .ok (.bl r.isSome)
  | none => inD y d
def notInA (y d : D) : R D := match dlook d y with
  | some r => .ok (.bl (!r.isSome))
  | none => notInD y d
theorem o_inA (hk : k.K = X.K) (hu : X.A.units + 65 < cLine) : Op2 X k (compareOp .In) .st inA := by
  obtain ⟨r0, h0, z0⟩ := o_in (k := k) hk hu
  refine ⟨_, (op_dctIn (by omega)).or h0, ?_⟩
  intro G H y x v u d e ny nx hg Q q
  unfold inA at hg
  split at hg
  · rename_i r hl
    cases hg
    obtain ⟨a, ov, rfl, g, h1, h2⟩ := dlook_go e nx ny hl
    refine .inl ⟨a, ov, rfl, g, ?_⟩
    have : ov.isSome = r.isSome := by
      cases r with
      | none => rw [h2 rfl]; rfl
      | some r => obtain ⟨w, rfl, _⟩ := h1 _ rfl; rfl
    rw [this]
    exact q _ G H (Step.refl e) (.bl _)
  · exact .inr (z0 G H y x v u d e ny nx hg Q q)
theorem o_notinA (hk : k.K = X.K) (hu : X.A.units + 65 < cLine) : Op2 X k (compareOp .NotIn) .st notInA := by
  obtain ⟨r0, h0, z0⟩ := o_notin (k := k) hk hu
  refine ⟨_, (op_dctNotIn (by omega)).or h0, ?_⟩
  intro G H y x v u d e ny nx hg Q q
  unfold notInA at hg
  split at hg
  · rename_i r hl
    cases hg
    obtain ⟨a, ov, rfl, g, h1, h2⟩ := dlook_go e nx ny hl
    refine .inl ⟨a, ov, rfl, g, ?_⟩
    have : ov.isSome = r.isSome := by
      cases r with
      | none => rw [h2 rfl]; rfl
      | some r => obtain ⟨w, rfl, _⟩ := h1 _ rfl; rfl
    rw [this]
    exact q _ G H (Step.refl e) (.bl _)
  · exact .inr (z0 G H y x v u d e ny nx hg Q q)
/-- d.get(e, x) -/
def eGet2 (f g h : FE) : FE := fun S => f S >>= fun d => if isDct d then (g S >>= fun y => h S >>= fun z => match dlook d y with
  | some (some r) => .ok r
  | some none => .ok z
  | none => .fail) else .fail
theorem isDct_at {H : Hp} {G : Hp} (e : Ex G H) {d : D} {u : V} (hd : isDct d = true) (nx : Now k G H d u) : ∃ a, u = .ref a ∧ IsD H a := by
  cases d with
  | dic ks ds =>
    obtain ⟨a, vs, rfl, ha, hl, r⟩ := nx.dic e
    exact ⟨a, rfl, .inl ⟨_, .inl ha⟩⟩
  | dit ks ds =>
    obtain ⟨a, vs, rfl, ha, hl, r⟩ := nx.dit e
    exact ⟨a, rfl, .inr ⟨_, .inl ha⟩⟩
  | _ => cases hd
theorem d_get2A {dx : Expr} (hu : X.A.units + 64 < cLine) (ho : PE' X c k1 o f) (hi : PE' X c k2 e g) (hz : PE' X c .st dx h) (m : M2 X o "get" apos e dx cpos := by first | exact ⟨rfl, rfl, rfl, rfl⟩ | exact ⟨rfl, rfl, rfl⟩) :
    PE' X c .st (.Call (.Attribute o "get" apos) [e, dx] [] cpos) (eGet2 f g h) :=
  peI (pe_dget2 (by omega) ho hi hz m) fun σ H Q ⟨G, S, rel, p⟩ => by
    refine rdE_go (g := fun d => if isDct d then (g S >>= fun y => h S >>= fun z => match dlook d y with
      | some (some r) => R.ok r
      | some none => .ok z
      | none => .fail) else .fail) (Post := PostE c .st G S σ H Q) rel p (fun _ z => z) (fun z => z) fun d v G1 H1 s1 q1 p1 => ?_
    by_cases hd : isDct d = true
    · rw [if_pos hd] at p1
      obtain ⟨ad, rfl, isd⟩ := isDct_at s1.gh hd q1.now
      refine ⟨ad, rfl, isd, ?_⟩
      refine rdE_go (g := fun y => h S >>= fun z => match dlook d y with
        | some (some r) => R.ok r
        | some none => .ok z
        | none => .fail) (Post := PostE c .st G S σ H Q) (rel.grow s1) p1 (fun _ z => z) (fun z => z) fun y vy G2 H2 s2 q2 p2 => ?_
      have sA := s1.trans s2
      refine rdE_go (g := fun z => match dlook d y with
        | some (some r) => R.ok r
        | some none => .ok z
        | none => .fail) (Post := PostE c .st G S σ H Q) (rel.grow sA) p2 (fun _ z => z) (fun z => z) fun z vz G3 H3 s3 q3 p3 => ?_
      have sB := sA.trans s3
      cases hl : dlook d y with
      | none => rw [hl] at p3; exact p3.elim
      | some r =>
        obtain ⟨a', ov, e', dg, h1, h2⟩ := dlook_go s3.gh ((q1.now.grow s2).grow s3) (q2.now.grow s3) hl
        cases e'
        rw [hl] at p3
        cases r with
        | none =>
          obtain rfl := h2 rfl
          exact ⟨none, dg, p3 vz G3 H3 sB q3⟩
        | some r =>
          obtain ⟨w, rfl, rw_⟩ := h1 _ rfl
          exact ⟨some w, dg, p3 w G3 H3 sB rw_⟩
    · rw [if_neg hd] at p1; exact p1.elim
/-- d[e] = v, the slot owns the dict -/
def putA (i : Nat) (S : Env) (m d y : D) : R (Fl × Env) := match m with
  | .dic ks ds => (match keyD y with
    | some q => if ks.Nodup ∧ ks.length < sizeLine then .ok (.nx, S.set i (some ⟨true, .dic (putL ks ds q d).1 (putL ks ds q d).2⟩)) else .fail
    | none => .fail)
  | .dit ks ds => (match keyT y with
    | some q => if ks.Nodup ∧ ks.length < sizeLine then .ok (.nx, S.set i (some ⟨true, .dit (putL ks ds q d).1 (putL ks ds q d).2⟩)) else .fail
    | none => .fail)
  | _ => .fail
def ownD (i : Nat) (S : Env) : R D := match S[i]? with
  | some (some ⟨true, d⟩) => .ok d
  | _ => .fail
theorem ownD_of {i : Nat} {S : Env} {z : D} (h : ownD i S = .ok z) : S[i]? = some (some ⟨true, z⟩) := by
  unfold ownD at h
  split at h
  · cases h; assumption
  · cases h
theorem ownD_exc {i : Nat} {S : Env} {x : Exc} : ownD i S ≠ .exc x := by unfold ownD; split <;> intro h <;> cases h
def sPutA (i : Nat) (fy f : FE) : FS := fun S => ownD i S >>= fun m => f S >>= fun d => fy S >>= fun y => putA i S m d y
theorem s_putA (i : Nat) {ix : Expr} {fy : FE} {px ps : Pos} (hu : X.A.units + 64 < cLine) (he : PE' X c .st e f) (hj : PE' X c k1 ix fy) (hN : X.N[i]? = some x := by rfl) (hv : Vis X.env.scope x := by first | exact Or.inl rfl | exact Or.inr (Or.inl rfl) | exact Or.inr (Or.inr rfl)) (hd : (x == ("__debug__" : Str)) = false := by decide)
    (hcd : (x == ("__classdict__" : Str)) = false := by decide) (hs : swapsWith e (some (.Subscript (.Name x px) ix ps)) pos.line X.env = pure false := by rfl) :
    PS' X c fr [i + 1000] (.Assign [.Subscript (.Name x px) ix ps] e pos) (sPutA i fy f) :=
  psI (ps_dput (by omega) (pe_var hN hv hd hcd) hj he hs) fun Dn σ H ⟨G, S, rel, p⟩ => by
    have p : PostS c fr [i + 1000] G S σ H Dn (ownD i S >>= fun m => f S >>= fun d => fy S >>= fun y => putA i S m d y) := p
    cases e0 : ownD i S with
    | exc x => exact absurd e0 ownD_exc
    | fail => rw [e0] at p; exact p.elim
    | ok m =>
      rw [e0, R.ok_bind] at p
      have hS := ownD_of e0
      obtain ⟨l, ob, es, hg, h0, ho, ct⟩ := rel.ow i _ hS
      have ow : OwnAt S σ i l := ⟨⟨_, hS⟩, es⟩
      refine rdE_go (Post := PostS c fr [i + 1000] G S σ H Dn) rel p (fun _ z => z _) (fun z => z) fun d v G1 H1 s1 q1 p1 => ?_
      refine ⟨_, es, ?_⟩
      refine rdE_go (Post := PostS c fr [i + 1000] G S σ H Dn) (rel.grow s1) p1 (fun _ z => z _) (fun z => z) fun y u G2 H2 s2 q2 p2 => ?_
      have sp := s1.trans s2
      have rel' := rel.grow sp
      cases ct with
      | @dic ks ds vs hl r =>
        simp only [putA] at p2
        cases hk : keyD y with
        | none => rw [hk] at p2; exact p2.elim
        | some q =>
          rw [hk] at p2
          dsimp only at p2
          by_cases hc : ks.Nodup ∧ ks.length < sizeLine
          · rw [if_pos hc] at p2
            obtain rfl := keyD_now hk q2.now
            obtain ⟨vs', e1, r', l'⟩ := putL_zip (q := q) hc.1 hl (r.mono sp.g) (RD.mono s2.g q1)
            have hz : (ks.zip vs).length < sizeLine := by rw [List.length_zip]; exact Nat.lt_of_le_of_lt (Nat.min_le_left _ _) hc.2
            refine ⟨l, _, rfl, DPut.k (sp.h _ _ ho) hz, ?_⟩
            rw [e1]
            exact p2 G2 σ _ sp.g (rel'.mut ow (.dic l' r')) ((Frm.step (as := []) rel sp).trans (Frm.mut rel' ow))
          · rw [if_neg hc] at p2; exact p2.elim
      | @dit ks ds vs hl r =>
        simp only [putA] at p2
        cases hk : keyT y with
        | none => rw [hk] at p2; exact p2.elim
        | some q =>
          rw [hk] at p2
          dsimp only at p2
          by_cases hc : ks.Nodup ∧ ks.length < sizeLine
          · rw [if_pos hc] at p2
            obtain ⟨b, rfl, hb⟩ := keyT_now s2.gh hk q2.now
            obtain ⟨vs', e1, r', l'⟩ := putL_zip (q := q) hc.1 hl (r.mono sp.g) (RD.mono s2.g q1)
            have hz : (ks.zip vs).length < sizeLine := by rw [List.length_zip]; exact Nat.lt_of_le_of_lt (Nat.min_le_left _ _) hc.2
            refine ⟨l, _, rfl, DPut.t (sp.h _ _ ho) hb hz, ?_⟩
            rw [e1]
            exact p2 G2 σ _ sp.g (rel'.mut ow (.dit l' r')) ((Frm.step (as := []) rel sp).trans (Frm.mut rel' ow))
          · rw [if_neg hc] at p2; exact p2.elim
      | _ => simp only [putA] at p2; exact p2.elim
end
end M
set_option Elab.async false
set_option linter.all false
set_option maxRecDepth 100000
set_option maxHeartbeats 4000000
namespace M
open PySem L2
variable {X : Cx} {c : Cf} {kd : Kd} {a : Expr} {t t1 : FT} {fr : Bool} {pos : Pos} {tg tg1 : Expr}
/-! ### comprehensions with two fors -/
/-- none of these slots owns -/
def unown (S : Env) (vs : List Nat) : Bool := vs.all fun i => match S[i]? with | some (some ⟨true, _⟩) => false | _ => true
def lc2F (ga : FG) (t : FT) (fi1 : FI) (ga1 : FG) (t1 : FT) (fe : FE) (vs vs1 : List Nat) (S : Env) : List D → R (List D)
  | [] => .ok []
  | d :: ds => (ga d S).nox >>= fun S1 => if unown S1 vs then (t S1).nox >>= fun b => if b then (fi1 S1).nox >>= fun es => lcF ga1 t1 fe (wipeS S1 vs1) es >>= fun ys => lc2F ga t fi1 ga1 t1 fe vs vs1 S ds >>= fun zs => .ok (ys ++ zs) else lc2F ga t fi1 ga1 t1 fe vs vs1 S ds else .fail
def lc2E (fi : FI) (ga : FG) (t : FT) (fi1 : FI) (ga1 : FG) (t1 : FT) (fe : FE) (vs vs1 : List Nat) : FE := fun S => fi S >>= fun ds => lc2F ga t fi1 ga1 t1 fe vs vs1 (wipeS S vs) ds >>= fun ys => if ys.length ≤ sizeLine then .ok (.lst ys) else .fail
theorem nox_exc {α β : Type} {r : R α} {f : α → R β} {x : Exc} (h : (r.nox >>= f) = .exc x) : ∃ a, r = .ok a ∧ f a = .exc x := by
  cases r with
  | ok a => exact ⟨a, rfl, h⟩
  | exc y => cases h
  | fail => cases h
theorem lc2F_exc {ga : FG} {t : FT} {fi1 : FI} {ga1 : FG} {t1 : FT} {fe : FE} {vs vs1 : List Nat} {S : Env} {x : Exc} : ∀ ds, lc2F ga t fi1 ga1 t1 fe vs vs1 S ds ≠ .exc x
  | [] => by intro h; cases h
  | d :: ds => by
    intro h
    unfold lc2F at h
    obtain ⟨S1, _, h⟩ := nox_exc h
    split at h
    case isFalse => cases h
    obtain ⟨b, _, h⟩ := nox_exc h
    cases b with
    | false => exact lc2F_exc ds h
    | true =>
      rw [if_pos rfl] at h
      obtain ⟨es, _, h⟩ := nox_exc h
      cases e3 : lcF ga1 t1 fe (wipeS S1 vs1) es with
      | exc y => exact lcF_exc _ e3
      | fail => rw [e3] at h; cases h
      | ok ys =>
        rw [e3, R.ok_bind] at h
        cases e4 : lc2F ga t fi1 ga1 t1 fe vs vs1 S ds with
        | ok ys => rw [e4] at h; cases h
        | exc y => exact lc2F_exc ds e4
        | fail => rw [e4] at h; cases h
def lcEnd (ys : List D) : R D := if ys.length ≤ sizeLine then .ok (.lst ys) else .fail
/-- where the list ends, it is short all the way -/
theorem short_of {G H : Hp} {S : Env} {σ : L2.St} {Q : VK} {r : R (List D)} {ac : List D} {y : D} (p : PostE c .fr G S σ H Q (r >>= fun ys => lcEnd (ac ++ y :: ys))) (hx : ∀ x, r ≠ .exc x) : ac.length < sizeLine := by
  cases r with
  | exc x => exact absurd rfl (hx x)
  | fail => exact p.elim
  | ok ys =>
    have p : PostE c .fr G S σ H Q (lcEnd (ac ++ y :: ys)) := p
    unfold lcEnd at p
    by_cases h : (ac ++ y :: ys).length ≤ sizeLine
    · simp at h; omega
    · rw [if_neg h] at p; exact p.elim
theorem own_wipe {S : Env} {σ : L2.St} {i : Nat} {a : Addr} : ∀ vs : List Nat, OwnAt (wipeS S vs) (L2.wipe σ vs) i a → OwnAt S σ i a
  | [], h => h
  | v :: vs, ⟨⟨d, h1⟩, h2⟩ => by
    unfold wipeS at h1
    unfold L2.wipe at h2
    by_cases e : v = i
    · subst e
      have hi := (List.getElem?_eq_some_iff.mp h1).1
      rw [List.getElem?_set_self (by simpa using hi)] at h1; cases h1
    · rw [List.getElem?_set_ne e] at h1 h2
      exact own_wipe vs ⟨⟨d, h1⟩, h2⟩
theorem lc2_go {ki ki1 gs gs1 vs vs1 : List Nat} {fi fi1 : FI} {ga ga1 : FG} {fe : FE} {σ : L2.St} {H : Hp} {Q : VK} {gi gi1 : TG} {tt tt1 : TT} {te : TE} {wi1 : TI} (hg : ∀ v σ H Q, RdG c.nx gs ga v σ H Q → gi v σ H Q) (ht : ∀ σ H Q, RdT c.nx t σ H Q → tt σ H Q)
    (hi1 : ∀ σ H Q, RdI c.nx ki1 fi1 σ H Q → wi1 σ H Q) (hg1 : ∀ v σ H Q, RdG c.nx gs1 ga1 v σ H Q → gi1 v σ H Q) (ht1 : ∀ σ H Q, RdT c.nx t1 σ H Q → tt1 σ H Q) (he : ∀ σ H Q, RdE c.nx .st fe σ H Q → te σ H Q)
    (h1000 : ∀ i ∈ vs, i < 1000) (hgs : ∀ i, i ∈ gs → i ∈ vs) (hgs1 : ∀ i, i ∈ gs1 → i ∈ vs1) (q : RdE c .fr (lc2E fi ga t fi1 ga1 t1 fe vs vs1) σ H Q) : tLc2 (RdI c ki fi) gi tt wi1 gi1 tt1 te vs vs1 σ H Q := by
  obtain ⟨G, S, rel, p⟩ := q
  refine ⟨G, S, rel, ?_⟩
  have p : PostE c .fr G S σ H Q (fi S >>= fun ds => lc2F ga t fi1 ga1 t1 fe vs vs1 (wipeS S vs) ds >>= fun ys => lcEnd ys) := p
  cases e0 : fi S with
  | exc x => rw [e0] at p; exact p
  | fail => rw [e0] at p; exact p
  | ok ds =>
    rw [e0, R.ok_bind] at p
    intro J G1 H1 sp it Dl hD
    have relb := ((rel.grow sp).wipe vs).cw (W := liftX E0)
    have hD0 : H Dl = none := sp.h.free hD
    -- the accumulator, from the start on
    have keep : ∀ {G2 H2 G6 H6 : Hp} {av : List V}, G2 Dl = none → H2 Dl = some (.lst av) → Step G2 H2 G6 H6 → G6 Dl = none ∧ H6 Dl = some (.lst av) := fun {G2 H2 G6 H6 av} hGD hHD z => by
      refine ⟨?_, z.h _ _ hHD⟩
      cases q : G6 Dl with
      | none => rfl
      | some o =>
        rcases z.gr _ _ q with w | w
        · rw [hGD] at w; cases w
        · rw [hHD] at w; cases w
    refine ⟨fun i m H2 => m = ds.length - i ∧ i ≤ ds.length ∧ ∃ G2 ac av, Step G1 H1 G2 H2 ∧ G2 Dl = none ∧ H2 Dl = some (.lst av) ∧ RDs c.k G2 ac av ∧
        PostE c .fr G S σ H Q (lc2F ga t fi1 ga1 t1 fe vs vs1 (wipeS S vs) (ds.drop i) >>= fun ys => lcEnd (ac ++ ys)),
      ⟨_, rfl, Nat.zero_le _, G1, [], [], Step.new' sp.gh hD, sp.gh.free hD, upd_same, .nil, by simpa using p⟩, ?_⟩
    rintro i m H2 ⟨rfl, hle, G2, ac, av, sp2, hGD, hHD, hr, p2⟩
    have rel2 : Rel c.nx G2 (wipeS S vs) (L2.wipe σ vs) H2 := relb.grow sp2
    have itm := it G2 H2 sp2.g sp2.gh fun j hj x ow => by
      obtain ⟨_, _, o, _, ho, _⟩ := (rel.grow sp).own ow
      rw [ho, sp2.h _ _ ho]
    by_cases hlt : i < ds.length
    · obtain ⟨d, hd⟩ : ∃ d, ds[i]? = some d := ⟨ds[i], List.getElem?_eq_getElem hlt⟩
      have hdrop : ds.drop i = d :: ds.drop (i + 1) := by
        rw [List.drop_eq_getElem_cons hlt]; congr 1; rw [List.getElem?_eq_getElem hlt] at hd; exact Option.some.inj hd
      rw [hdrop] at p2
      obtain ⟨hgo, hy⟩ := itm.2 i d hd
      refine .inr ⟨hgo, fun H' => ∃ G3 ac av, Step G1 H1 G3 H' ∧ G3 Dl = none ∧ H' Dl = some (.lst av) ∧ RDs c.k G3 ac av ∧
        PostE c .fr G S σ H Q (lc2F ga t fi1 ga1 t1 fe vs vs1 (wipeS S vs) (ds.drop (i + 1)) >>= fun ys => lcEnd (ac ++ ys)), fun H' ⟨G3, r3⟩ => ⟨_, by omega, rfl, hlt, G3, r3⟩, fun x H3 hx => ?_⟩
      obtain ⟨G3, sp3, hd3⟩ := hy x H3 hx
      refine hg x _ H3 _ ⟨G3, wipeS S vs, d, rel2.grow sp3, hd3, ?_⟩
      unfold lc2F at p2
      cases e1 : ga d (wipeS S vs) with
      | exc x => rw [e1] at p2; exact p2.elim
      | fail => rw [e1] at p2; exact p2.elim
      | ok S1 =>
        rw [e1, R.nox_ok, R.ok_bind] at p2
        split at p2
        case isFalse => exact p2.elim
        rename_i hun
        intro G4 σ4 H4 sp4 rel4 f4
        refine ⟨wipe_eq (by rw [f4.len, wipe_length]) fun j hj => f4.sg j fun z => hj (hgs j z), ht σ4 H4 _ ⟨G4, S1, rel4, ?_⟩⟩
        cases e2 : t S1 with
        | exc x => rw [e2] at p2; exact p2.elim
        | fail => rw [e2] at p2; exact p2.elim
        | ok b =>
          rw [e2, R.nox_ok, R.ok_bind] at p2
          intro G5 H5 sp5
          have spA : Step G2 H2 G5 H5 := (sp3.trans sp4).trans sp5
          have nA := keep hGD hHD spA
          cases b with
          | false =>
            rw [if_neg Bool.false_ne_true] at p2 ⊢
            exact ⟨G5, ac, av, sp2.trans spA, nA.1, nA.2, hr.mono spA.g, p2⟩
          | true =>
            rw [if_pos rfl] at p2 ⊢
            have rel5 := rel4.grow sp5
            refine hi1 σ4 H5 _ ⟨G5, S1, rel5, ?_⟩
            cases e3 : fi1 S1 with
            | exc x => rw [e3] at p2; exact p2.elim
            | fail => rw [e3] at p2; exact p2.elim
            | ok es =>
              rw [e3, R.nox_ok, R.ok_bind] at p2
              intro J1 G6 H6 sp6 it1
              have spB := spA.trans sp6
              have nB := keep hGD hHD spB
              have rel6 := rel5.grow sp6
              have relc := rel6.wipe vs1
              have noD1 : ∀ (i' : Nat) (a : Addr), OwnAt S1 σ4 i' a → a ≠ Dl := fun i' a ⟨⟨d', z1⟩, z2⟩ e => by
                have hi' : i' ∉ gs := fun hm => by
                  have := List.all_eq_true.mp hun i' (hgs i' hm)
                  rw [z1] at this; cases this
                have hk : i' + 1000 ∉ gs := fun hm => by have := h1000 _ (hgs _ hm); omega
                rw [f4.sl i' hi' hk] at z1
                rw [f4.sg i' hi'] at z2
                obtain ⟨_, _, o, _, ho, _⟩ := relb.own (i := i') (a := a) ⟨⟨d', z1⟩, z2⟩
                rw [e, hD] at ho; cases ho
              have noD : ∀ (i' : Nat) (a : Addr), OwnAt (wipeS S1 vs1) (L2.wipe σ4 vs1) i' a → a ≠ Dl := fun i' a ow => noD1 i' a (own_wipe vs1 ow)
              refine ⟨fun j m H7 => m = es.length - j ∧ j ≤ es.length ∧ ∃ G7 ac1 av1, Step G1 H1 G7 H7 ∧ Ex G6 G7 ∧ (∀ a o, a ≠ Dl → H6 a = some o → H7 a = some o) ∧ (∀ b o, G7 b = some o → G6 b = some o ∨ H6 b = none) ∧ G7 Dl = none ∧ H7 Dl = some (.lst av1) ∧ RDs c.k G7 ac1 av1 ∧
                  PostE c .fr G S σ H Q (lcF ga1 t1 fe (wipeS S1 vs1) (es.drop j) >>= fun ys => lc2F ga t fi1 ga1 t1 fe vs vs1 (wipeS S vs) (ds.drop (i + 1)) >>= fun zs => lcEnd (ac1 ++ (ys ++ zs))),
                ⟨_, rfl, Nat.zero_le _, G6, ac, av, sp2.trans spB, Ex.refl _, fun _ _ _ z => z, fun _ _ z => .inl z, nB.1, nB.2, hr.mono spB.g, ?_⟩, ?_⟩
              · rw [List.drop_zero]
                cases e4 : lcF ga1 t1 fe (wipeS S1 vs1) es with
                | exc x => exact absurd e4 (lcF_exc _)
                | fail => rw [e4] at p2; exact p2.elim
                | ok ys =>
                  rw [e4, R.ok_bind] at p2
                  rw [R.ok_bind]
                  cases e5 : lc2F ga t fi1 ga1 t1 fe vs vs1 (wipeS S vs) (ds.drop (i + 1)) with
                  | exc x => exact absurd e5 (lc2F_exc _)
                  | fail => rw [e5] at p2; exact p2.elim
                  | ok zs => rw [e5] at p2; exact p2
              rintro j m H7 ⟨rfl, hlj, G7, ac1, av1, sp7, xg, xh, xr, nG7, nH7, hr7, p7⟩
              have rel7 : Rel c.nx G7 (wipeS S1 vs1) (L2.wipe σ4 vs1) H7 := by
                refine ⟨relb.st.trans sp7, relc.len, fun i' d' z => ?_, fun i' d' z => ?_, relc.nd⟩
                · obtain ⟨v, z1, z2⟩ := relc.fz i' d' z
                  exact ⟨v, z1, z2.mono xg⟩
                · obtain ⟨a, o, z1, z2, z3, z4, z5⟩ := relc.ow i' d' z
                  refine ⟨a, o, z1, ?_, z3, xh a o (noD i' a ⟨⟨_, z⟩, z1⟩) z4, z5.mono xg⟩
                  cases q : G7 a with
                  | none => rfl
                  | some u =>
                    rcases xr a u q with w | w
                    · rw [z2] at w; cases w
                    · rw [z4] at w; cases w
              have itm1 := it1 G7 H7 xg sp7.gh fun j' hj' x ow => by
                obtain ⟨_, _, o, _, ho, _⟩ := rel6.own ow
                rw [ho, xh x o (noD1 j' x ow) ho]
              by_cases hlt1 : j < es.length
              · obtain ⟨d1, hd1⟩ : ∃ d, es[j]? = some d := ⟨es[j], List.getElem?_eq_getElem hlt1⟩
                have hdrop1 : es.drop j = d1 :: es.drop (j + 1) := by
                  rw [List.drop_eq_getElem_cons hlt1]; congr 1; rw [List.getElem?_eq_getElem hlt1] at hd1; exact Option.some.inj hd1
                rw [hdrop1] at p7
                obtain ⟨hgo1, hy1⟩ := itm1.2 j d1 hd1
                -- what the next turn asks of heaps that grew by a step and, perhaps, at the accumulator
                have nxt : ∀ {G9 H9 H10 : Hp}, Step G7 H7 G9 H9 → H10 Dl ≠ none → (∀ a, a ≠ Dl → H10 a = H9 a) → Step G1 H1 G9 H10 ∧ Ex G6 G9 ∧ (∀ a o, a ≠ Dl → H6 a = some o → H10 a = some o) ∧ (∀ b o, G9 b = some o → G6 b = some o ∨ H6 b = none) := fun {G9 H9 H10} s9 hn h10 => by
                  have sA := sp7.trans s9
                  have nD := keep nG7 nH7 s9
                  refine ⟨⟨sA.g, fun b o z => ?_, fun b o z => ?_, sA.gr⟩, xg.trans s9.g, fun a o ha z => by rw [h10 a ha]; exact s9.h a o (xh a o ha z), fun b o z => ?_⟩
                  · rw [h10 b (ne_of_none z hD)]; exact sA.h b o z
                  · rw [h10 b (ne_of_none z nD.1)]; exact sA.gh b o z
                  · rcases s9.gr b o z with w | w
                    · exact xr b o w
                    · right
                      cases q : H6 b with
                      | none => rfl
                      | some u =>
                        by_cases hb : b = Dl
                        · subst hb; rw [nH7] at w; cases w
                        · rw [xh b u hb q] at w; cases w
                refine .inr ⟨hgo1, fun H' => ∃ G8 ac1 av1, Step G1 H1 G8 H' ∧ Ex G6 G8 ∧ (∀ a o, a ≠ Dl → H6 a = some o → H' a = some o) ∧ (∀ b o, G8 b = some o → G6 b = some o ∨ H6 b = none) ∧ G8 Dl = none ∧ H' Dl = some (.lst av1) ∧ RDs c.k G8 ac1 av1 ∧
                  PostE c .fr G S σ H Q (lcF ga1 t1 fe (wipeS S1 vs1) (es.drop (j + 1)) >>= fun ys => lc2F ga t fi1 ga1 t1 fe vs vs1 (wipeS S vs) (ds.drop (i + 1)) >>= fun zs => lcEnd (ac1 ++ (ys ++ zs))),
                  fun H' ⟨G8, r8⟩ => ⟨_, by omega, rfl, hlt1, G8, r8⟩, fun x H8 hx => ?_⟩
                obtain ⟨G8, sp8, hd8⟩ := hy1 x H8 hx
                refine hg1 x _ H8 _ ⟨G8, wipeS S1 vs1, d1, rel7.grow sp8, hd8, ?_⟩
                unfold lcF at p7
                cases f1 : ga1 d1 (wipeS S1 vs1) with
                | exc x => rw [f1] at p7; exact p7.elim
                | fail => rw [f1] at p7; exact p7.elim
                | ok S3 =>
                  rw [f1, R.nox_ok, R.ok_bind] at p7
                  intro G9 σ9 H9 sp9 rel9 fr9
                  refine ⟨wipe_eq (by rw [fr9.len, wipe_length]) fun j hj => fr9.sg j fun z => hj (hgs1 j z), ht1 σ9 H9 _ ⟨G9, S3, rel9, ?_⟩⟩
                  cases f2 : t1 S3 with
                  | exc x => rw [f2] at p7; exact p7.elim
                  | fail => rw [f2] at p7; exact p7.elim
                  | ok b1 =>
                    rw [f2, R.nox_ok, R.ok_bind] at p7
                    intro Ga Ha spa
                    have sC : Step G7 H7 Ga Ha := (sp8.trans sp9).trans spa
                    have nC := keep nG7 nH7 sC
                    cases b1 with
                    | false =>
                      rw [if_neg Bool.false_ne_true] at p7 ⊢
                      obtain ⟨k1, k2, k3, k4⟩ := nxt (H10 := Ha) sC (by rw [nC.2]; exact fun z => nomatch z) fun _ _ => rfl
                      exact ⟨Ga, ac1, av1, k1, k2, k3, k4, nC.1, nC.2, hr7.mono sC.g, p7⟩
                    | true =>
                      rw [if_pos rfl] at p7 ⊢
                      refine he σ9 Ha _ ⟨Ga, S3, rel9.grow spa, ?_⟩
                      cases f3 : fe S3 with
                      | exc x => rw [f3] at p7; exact p7.elim
                      | fail => rw [f3] at p7; exact p7.elim
                      | ok y =>
                        rw [f3, R.nox_ok, R.ok_bind] at p7
                        intro v Gb Hb spb hv
                        have sD := sC.trans spb
                        have nD := keep nG7 nH7 sD
                        have p8 : PostE c .fr G S σ H Q (lcF ga1 t1 fe (wipeS S1 vs1) (es.drop (j + 1)) >>= fun ys => lc2F ga t fi1 ga1 t1 fe vs vs1 (wipeS S vs) (ds.drop (i + 1)) >>= fun zs => lcEnd (ac1 ++ y :: (ys ++ zs))) := by
                          cases e4 : lcF ga1 t1 fe (wipeS S1 vs1) (es.drop (j + 1)) with
                          | exc x => exact absurd e4 (lcF_exc _)
                          | fail => rw [e4] at p7; exact p7.elim
                          | ok ys => rw [e4] at p7; simpa using p7
                        have hsh : ac1.length < sizeLine := by
                          cases e4 : lcF ga1 t1 fe (wipeS S1 vs1) (es.drop (j + 1)) with
                          | exc x => exact absurd e4 (lcF_exc _)
                          | fail => rw [e4] at p8; exact p8.elim
                          | ok ys =>
                            rw [e4, R.ok_bind] at p8
                            cases e5 : lc2F ga t fi1 ga1 t1 fe vs vs1 (wipeS S vs) (ds.drop (i + 1)) with
                            | exc x => exact absurd e5 (lc2F_exc _)
                            | fail => rw [e5] at p8; exact p8.elim
                            | ok zs => rw [e5] at p8; exact short_of (r := .ok (ys ++ zs)) p8 fun _ z => nomatch z
                        refine ⟨av1, nD.2, by rw [← hr7.length]; exact hsh, ?_⟩
                        obtain ⟨k1, k2, k3, k4⟩ := nxt (H10 := upd Hb Dl (.lst (av1 ++ [v]))) sD (by rw [upd_same]; exact fun z => nomatch z) fun _ ha => upd_ne ha
                        refine ⟨Gb, ac1 ++ [y], av1 ++ [v], k1, k2, k3, k4, nD.1, upd_same, (hr7.mono sD.g).append (.cons hv .nil), ?_⟩
                        have e : ∀ zs : List D, ac1 ++ [y] ++ zs = ac1 ++ y :: zs := fun zs => by simp
                        simp only [e]
                        exact p8
              · have hj : j = es.length := by omega
                subst hj
                rw [List.drop_length] at p7
                exact .inl ⟨itm1.1 _ (Nat.le_refl _), G7, ac1, av1, sp7, nG7, nH7, hr7, p7⟩
    · have hi : i = ds.length := by omega
      subst hi
      rw [List.drop_length] at p2
      refine .inl ⟨itm.1 _ (Nat.le_refl _), ?_⟩
      have p2 : PostE c .fr G S σ H Q (lcEnd (ac ++ [])) := p2
      rw [List.append_nil] at p2
      unfold lcEnd at p2
      by_cases hz : ac.length ≤ sizeLine
      · rw [if_pos hz] at p2
        exact p2 _ G2 H2 (sp.trans sp2) ⟨Dl, _, rfl, hGD, hD0, hHD, .lst hr⟩
      · rw [if_neg hz] at p2; exact p2.elim
/-- [elt for target in iter if .. for target1 in iter1 if ..] -/
theorem d_lc2 {elt iter iter1 : Expr} {ifs ifs1 : List Expr} {scope : Scope} (own : List (Str × Nat)) (vs1 : List Nat) {ki gs ki1 gs1 : List Nat} {fi fi1 : FI} {ga ga1 : FG} {fe : FE} (hc : X.calm = true) (hN : X.N.Nodup) (hi : PI' X c ki tg iter fi) (ok : BlkOk X.N X.env.scope scope own)
    (hg : ∀ (s : Shared) (H : Hp) (C : Addr) (cl : List (Str × Addr)) (fp : List Addr), PG' (X.blk s H scope (compEnvC scope cl C X.env) fp) c.nx gs tg ga) (ht : ∀ (s : Shared) (H : Hp) (C : Addr) (cl : List (Str × Addr)) (fp : List Addr), PTs' (X.blk s H scope (compEnvC scope cl C X.env) fp) c.nx ifs t)
    (hi1 : ∀ (s : Shared) (H : Hp) (C : Addr) (cl : List (Str × Addr)) (fp : List Addr), PI' (X.blk s H scope (compEnvC scope cl C X.env) fp) c.nx ki1 tg1 iter1 fi1)
    (hg1 : ∀ (s : Shared) (H : Hp) (C : Addr) (cl : List (Str × Addr)) (fp : List Addr), PG' (X.blk s H scope (compEnvC scope cl C X.env) fp) c.nx gs1 tg1 ga1) (ht1 : ∀ (s : Shared) (H : Hp) (C : Addr) (cl : List (Str × Addr)) (fp : List Addr), PTs' (X.blk s H scope (compEnvC scope cl C X.env) fp) c.nx ifs1 t1)
    (he : ∀ (s : Shared) (H : Hp) (C : Addr) (cl : List (Str × Addr)) (fp : List Addr), PE' (X.blk s H scope (compEnvC scope cl C X.env) fp) c.nx .st elt fe) (hv : ∀ i ∈ vs1, i ∈ own.map (·.2) := by decide) (h1000 : ∀ i ∈ own.map (·.2), i < 1000 := by decide) (hgs : ∀ i, i ∈ gs → i ∈ own.map (·.2) := by decide) (hgs1 : ∀ i, i ∈ gs1 → i ∈ vs1 := by decide) (hs : ∀ x, foldedSetIterable iter X.env x = pure x := by intro _; rfl) (hs1 : ∀ env x, foldedSetIterable iter1 env x = pure x := by intro _ _; rfl) :
    PE' X c .fr (.ListComp elt [⟨tg, iter, ifs, 0⟩, ⟨tg1, iter1, ifs1, 0⟩] scope pos) (lc2E fi ga t fi1 ga1 t1 fe (own.map (·.2)) vs1) :=
  peI (pe_lc2 hc hN hi ok hv hg ht hi1 hg1 ht1 he hs hs1) fun σ H Q q => lc2_go (fun _ _ _ _ z => z) (fun _ _ _ z => z) (fun _ _ _ z => z) (fun _ _ _ _ z => z) (fun _ _ _ z => z) (fun _ _ _ z => z) h1000 hgs hgs1 q
/-- name = [..] -/
theorem s_lc2 (i : Nat) {y : Str} {py spos : Pos} {elt iter iter1 : Expr} {ifs ifs1 : List Expr} {scope : Scope} (own : List (Str × Nat)) (vs1 : List Nat) {ki gs ki1 gs1 : List Nat} {fi fi1 : FI} {ga ga1 : FG} {fe : FE} (hc : X.calm = true) (hN : X.N.Nodup) (hi : PI' X c ki tg iter fi) (ok : BlkOk X.N X.env.scope scope own)
    (hg : ∀ (s : Shared) (H : Hp) (C : Addr) (cl : List (Str × Addr)) (fp : List Addr), PG' (X.blk s H scope (compEnvC scope cl C X.env) fp) c.nx gs tg ga) (ht : ∀ (s : Shared) (H : Hp) (C : Addr) (cl : List (Str × Addr)) (fp : List Addr), PTs' (X.blk s H scope (compEnvC scope cl C X.env) fp) c.nx ifs t)
    (hi1 : ∀ (s : Shared) (H : Hp) (C : Addr) (cl : List (Str × Addr)) (fp : List Addr), PI' (X.blk s H scope (compEnvC scope cl C X.env) fp) c.nx ki1 tg1 iter1 fi1)
    (hg1 : ∀ (s : Shared) (H : Hp) (C : Addr) (cl : List (Str × Addr)) (fp : List Addr), PG' (X.blk s H scope (compEnvC scope cl C X.env) fp) c.nx gs1 tg1 ga1) (ht1 : ∀ (s : Shared) (H : Hp) (C : Addr) (cl : List (Str × Addr)) (fp : List Addr), PTs' (X.blk s H scope (compEnvC scope cl C X.env) fp) c.nx ifs1 t1)
    (he : ∀ (s : Shared) (H : Hp) (C : Addr) (cl : List (Str × Addr)) (fp : List Addr), PE' (X.blk s H scope (compEnvC scope cl C X.env) fp) c.nx .st elt fe) (hy : X.N[i]? = some y := by rfl) (hyl : X.env.scope.names.lookup y = some .local := by rfl)
    (hsw : swapsWith (.ListComp elt [⟨tg, iter, ifs, 0⟩, ⟨tg1, iter1, ifs1, 0⟩] scope pos) (some (.Name y py)) spos.line X.env = pure true := by exact sw_true rfl rfl rfl (by decide +kernel)) (hv : ∀ i ∈ vs1, i ∈ own.map (·.2) := by decide) (h1000 : ∀ i ∈ own.map (·.2), i < 1000 := by decide) (hgs : ∀ i, i ∈ gs → i ∈ own.map (·.2) := by decide) (hgs1 : ∀ i, i ∈ gs1 → i ∈ vs1 := by decide) (hs : ∀ x, foldedSetIterable iter X.env x = pure x := by intro _; rfl) (hs1 : ∀ env x, foldedSetIterable iter1 env x = pure x := by intro _ _; rfl) :
    PS' X c fr [i] (.Assign [.Name y py] (.ListComp elt [⟨tg, iter, ifs, 0⟩, ⟨tg1, iter1, ifs1, 0⟩] scope pos) spos) (sOwn i (lc2E fi ga t fi1 ga1 t1 fe (own.map (·.2)) vs1)) :=
  psI (ps_setLc2 hc hN hy hyl hsw hi ok hv hg ht hi1 hg1 ht1 he hs hs1) fun Dn σ H q => lc2_go (fun _ _ _ _ z => z) (fun _ _ _ z => z) (fun _ _ _ z => z) (fun _ _ _ _ z => z) (fun _ _ _ z => z) (fun _ _ _ z => z) h1000 hgs hgs1 (own_go q)
end M
set_option Elab.async false
set_option linter.all false
set_option maxRecDepth 100000
set_option maxHeartbeats 4000000
namespace M
open PySem L2 PySem.Spec PyProof.Rows
/-! ### {elt for .. in .. if .. for .. in .. if ..}: the machine -/
section
variable {prog : Program} {w : World} {A : Around} {R : Result → Shared → Prop} {s : Shared} {elt t0 i0 t1 i1 : Expr} {ifs0 ifs1 : List Expr} {scope : Scope} {pos : Pos} {it acc : Value} {env : PySem.Env}
abbrev SC2 (elt t0 i0 t1 i1 : Expr) (ifs0 ifs1 : List Expr) (scope : Scope) (pos : Pos) : Expr := .SetComp elt [⟨t0, i0, ifs0, 0⟩, ⟨t1, i1, ifs1, 0⟩] scope pos
/-- what a turn asks behind the store: the tests, then k -/
abbrev tests (ifs : List Expr) (env : PySem.Env) : Sem Bool := forIn ifs true fun c r => if r = true then do let ok ← PySem.isTrue c env (eval c env); pure (ForInStep.yield ok) else pure (ForInStep.yield r)
theorem sc2_out (hs : ∀ x, foldedSetIterable i1 env x = pure x) (I : Nat → Shared → Prop)
    (turn : ∀ n s, I n s → wpAny (model prog w) A (pyNext it) (fun r s₁ => match r with
      | none => R (.ok .next) s₁
      | some v => wpAny (model prog w) A (letOwnedTupleGo t0 it v) (fun _ s₁' => wpAny (model prog w) A (assign t0 env v) (fun _ s₂ =>
          wpAny (model prog w) A (tests ifs0 env) (fun ok s₃ =>
            if ok = true then wpAny (model prog w) A (eval i1 env) (fun x s₄ => wpAny (model prog w) A (pyIter x) (fun it1 s₅ =>
              codeAny (model prog w) A (.compStart (SC2 elt t0 i0 t1 i1 ifs0 ifs1 scope pos) 1 it1 acc env) (fun r s' => match r with
                | .ok _ => ∃ m, m < n ∧ I m s'
                | .error _ => False) s₅) (notedBy (model prog w) A env fun e s' => R (.error e) s') s₄) (notedBy (model prog w) A env fun e s' => R (.error e) s') s₃
            else ∃ m, m < n ∧ I m s₃) (notedBy (model prog w) A env fun e s' => R (.error e) s') s₂) (notedBy (model prog w) A env fun e s' => R (.error e) s') s₁') (notedBy (model prog w) A env fun e s' => R (.error e) s') s₁) (notedBy (model prog w) A env fun e s' => R (.error e) s') s)
    (n : Nat) (h : I n s) : codeAny (model prog w) A (.compLoop (SC2 elt t0 i0 t1 i1 ifs0 ifs1 scope pos) 0 it acc env) R s := by
  refine codeAny_loop rfl I (fun n s hI => ?_) n h
  show wpAny _ A ((compTurn (SC2 elt t0 i0 t1 i1 ifs0 ifs1 scope pos) 0 it acc env).onRaise (fun x => do noteFrame x env; theTreesLotGoes x)) _ _ s
  have e : compTurn (SC2 elt t0 i0 t1 i1 ifs0 ifs1 scope pos) 0 it acc env = (do
      standAt i0.pos
      match ← pyNext it with
      | none => pure (.done .next)
      | some v =>
        letOwnedTupleGo t0 it v
        assign t0 env v
        let mut ok := true
        for c in ifs0 do
          if ok then ok ← PySem.isTrue c env (eval c env)
        if ok then
          let x ← eval i1 env
          standAt i1.pos
          let x ← foldedSetIterable i1 env x
          let _ ← runOwn (.compStart (SC2 elt t0 i0 t1 i1 ifs0 ifs1 scope pos) 1 (← holding [x] (pyIter x)) acc env) env
        again (.compLoop (SC2 elt t0 i0 t1 i1 ifs0 ifs1 scope pos) 0 it acc env)) := by rfl
  rw [e]
  refine wpAny_noted (wpAny_bind (wpAny_standAt (wpAny_bind (wpAny_mono (turn n s hI) (fun r s₁ h₁ => ?_) fun _ _ h' => h'))))
  match r, h₁ with
  | none, h₁ => exact wpAny_pure h₁
  | some v, h₁ =>
    refine wpAny_bind (wpAny_mono h₁ (fun _ s₁' h₁' => wpAny_bind (wpAny_mono h₁' (fun _ s₂ h₂ => wpAny_bind (wpAny_mono h₂ (fun ok s₃ h₃ => ?_) fun _ _ h' => h')) fun _ _ h' => h')) fun _ _ h' => h')
    match ok, h₃ with
    | false, h₃ => exact wpAny_pure ⟨rfl, h₃⟩
    | true, h₃ =>
      refine wpAny_bind (wpAny_mono h₃ (fun x s₄ h₄ => wpAny_bind (wpAny_standAt (wpAny_bind (wpAny_of_eq (hs x) (wpAny_bind (wpAny_holding (wpAny_mono h₄ (fun it1 s₅ h₅ => ?_) fun _ _ h' => h'))))))) fun _ _ h' => h')
      refine wpAny_bind (wpAny_runOwn ?_)
      rw [Around.mark_none]
      refine codeAny_mono h₅ fun r s' hr => ?_
      match r, hr with
      | .ok f, hr => first | exact wpAny_pure ⟨rfl, hr⟩ | exact wpAny_bind (wpAny_pure (wpAny_pure ⟨rfl, hr⟩))
      | .error e, hr => exact hr.elim
theorem sc2_in (I : Nat → Shared → Prop)
    (turn : ∀ n s, I n s → wpAny (model prog w) A (pyNext it) (fun r s₁ => match r with
      | none => R (.ok .next) s₁
      | some v => wpAny (model prog w) A (letOwnedTupleGo t1 it v) (fun _ s₁' => wpAny (model prog w) A (assign t1 env v) (fun _ s₂ =>
          wpAny (model prog w) A (tests ifs1 env) (fun ok s₃ =>
            if ok = true then wpAny (model prog w) A (eval elt env) (fun x s₄ =>
              wpAny (model prog w) A (call (.builtin "set.add") [acc, x]) (fun _ s₅ => ∃ m, m < n ∧ I m s₅) (notedBy (model prog w) A env fun e s' => R (.error e) s') s₄) (notedBy (model prog w) A env fun e s' => R (.error e) s') s₃
            else ∃ m, m < n ∧ I m s₃) (notedBy (model prog w) A env fun e s' => R (.error e) s') s₂) (notedBy (model prog w) A env fun e s' => R (.error e) s') s₁') (notedBy (model prog w) A env fun e s' => R (.error e) s') s₁) (notedBy (model prog w) A env fun e s' => R (.error e) s') s)
    (n : Nat) (h : I n s) : codeAny (model prog w) A (.compLoop (SC2 elt t0 i0 t1 i1 ifs0 ifs1 scope pos) 1 it acc env) R s := by
  refine codeAny_loop rfl I (fun n s hI => ?_) n h
  show wpAny _ A ((compTurn (SC2 elt t0 i0 t1 i1 ifs0 ifs1 scope pos) 1 it acc env).onRaise (fun x => do noteFrame x env; theTreesLotGoes x)) _ _ s
  have e : compTurn (SC2 elt t0 i0 t1 i1 ifs0 ifs1 scope pos) 1 it acc env = (do
      standAt i1.pos
      match ← pyNext it with
      | none => pure (.done .next)
      | some v =>
        letOwnedTupleGo t1 it v
        assign t1 env v
        let mut ok := true
        for c in ifs1 do
          if ok then ok ← PySem.isTrue c env (eval c env)
        if ok then
          (do let v ← eval elt env; standAt elt.pos; let _ ← call (.builtin "set.add") [acc, v])
        again (.compLoop (SC2 elt t0 i0 t1 i1 ifs0 ifs1 scope pos) 1 it acc env)) := by rfl
  rw [e]
  refine wpAny_noted (wpAny_bind (wpAny_standAt (wpAny_bind (wpAny_mono (turn n s hI) (fun r s₁ h₁ => ?_) fun _ _ h' => h'))))
  match r, h₁ with
  | none, h₁ => exact wpAny_pure h₁
  | some v, h₁ =>
    refine wpAny_bind (wpAny_mono h₁ (fun _ s₁' h₁' => wpAny_bind (wpAny_mono h₁' (fun _ s₂ h₂ => wpAny_bind (wpAny_mono h₂ (fun ok s₃ h₃ => ?_) fun _ _ h' => h')) fun _ _ h' => h')) fun _ _ h' => h')
    match ok, h₃ with
    | false, h₃ => exact wpAny_pure ⟨rfl, h₃⟩
    | true, h₃ => exact wpAny_bind (wpAny_bind (wpAny_mono h₃ (fun x s₄ h₄ => wpAny_bind (wpAny_standAt (wpAny_bind (wpAny_mono h₄ (fun _ s₅ h₅ => wpAny_pure (wpAny_pure ⟨rfl, h₅⟩)) fun _ _ h' => h')))) fun _ _ h' => h'))
theorem sc2_start (h0 : codeAny (model prog w) A (.compLoop (SC2 elt t0 i0 t1 i1 ifs0 ifs1 scope pos) 1 it acc env) R s)
    (h : wpAny (model prog w) A (pyIter it) (fun it' s' => codeAny (model prog w) A (.compLoop (SC2 elt t0 i0 t1 i1 ifs0 ifs1 scope pos) 1 it' acc env) R s') (notedBy (model prog w) A env fun x s' => R (.error x) s') s) :
    codeAny (model prog w) A (.compStart (SC2 elt t0 i0 t1 i1 ifs0 ifs1 scope pos) 1 it acc env) R s := by
  refine codeAny_of_tree ?_
  show wpAny _ _ ((compStart (SC2 elt t0 i0 t1 i1 ifs0 ifs1 scope pos) 1 it acc env).onRaise (fun x => do noteFrame x env; standAt theWindowsPlace)) _ _ s
  refine wpAny_notedAt ?_
  unfold compStart
  show wpAny _ _ (ask >>= _) _ _ s
  refine wpAny_bind (wpAny_askSetting (wpAny_ite ?_))
  have go : ∀ it' s', codeAny (model prog w) A (.compLoop (SC2 elt t0 i0 t1 i1 ifs0 ifs1 scope pos) 1 it' acc env) R s' → _ := fun it' s' h' => And.intro (rfl : (1 : Nat) = 1) h'
  split
  · first
      | exact wpAny_bind (wpAny_pure (wpAny_pure (And.intro rfl h0)))
      | exact wpAny_pure (And.intro rfl h0)
  · first
      | exact wpAny_bind (wpAny_rule (wpAny_bind (wpAny_standAt (wpAny_bind (wpAny_mono h (fun it' s' h' => wpAny_pure (And.intro rfl h')) fun _ _ x => x)))))
      | (refine wpAny_bind (wpAny_rule ?_); show wpAny _ _ (standAt i1.pos >>= _) _ _ s; exact wpAny_bind (wpAny_standAt (wpAny_bind (wpAny_mono h (fun it' s' h' => wpAny_pure (And.intro rfl h')) fun _ _ x => x))))
end
section
variable {τ κ : Type}
def tScG2 {P : Program} {w : World} {K : PySem.W.Frag} (F : Fam P w K τ κ) (wi : TI) (g : TG) (tt : TT) (wi1 : TI) (g1 : TG) (tt1 : TT) (te : TE) (vs vs1 : List Nat) : TE := fun σ H Q => wi σ H fun J H1 => ∀ S, H1 S = none → ∃ W : Nat → Nat → Hp → Prop, (∃ m, W 0 m (upd H1 S (F.ob F.t0 S))) ∧ ∀ i m H, W i m H →
  (J.stop i H ∧ Q (.ref S) H) ∨ (J.go i H ∧ ∃ Nx : Hp → Prop, (∀ H', Nx H' → ∃ m', m' < m ∧ W (i + 1) m' H') ∧ ∀ x H', J.yld i H x H' → g x (L2.wipe σ vs) H' fun σ2 H2 => L2.wipe σ2 vs = L2.wipe σ vs ∧ tt σ2 H2 fun b H3 =>
    if b = true then wi1 σ2 H3 fun J1 H4 => ∃ W1 : Nat → Nat → Hp → Prop, (∃ m, W1 0 m H4) ∧ ∀ j k H, W1 j k H →
      (J1.stop j H ∧ Nx H) ∨ (J1.go j H ∧ ∃ Nx1 : Hp → Prop, (∀ H', Nx1 H' → ∃ k', k' < k ∧ W1 (j + 1) k' H') ∧ ∀ x H', J1.yld j H x H' → g1 x (L2.wipe σ2 vs1) H' fun σ3 H5 => L2.wipe σ3 vs1 = L2.wipe σ2 vs1 ∧ tt1 σ3 H5 fun b H6 =>
        if b = true then te σ3 H6 fun y H7 => ∃ t kk, H7 S = some (F.ob t S) ∧ F.pre t y kk H7 ∧ ∀ t', F.post t y kk t' → Nx1 (upd H7 S (F.ob t' S)) else Nx1 H6)
    else Nx H3)
variable {X : Cx}
theorem pe_scG2 (F : Fam X.prog X.w X.K τ κ) {elt tg iter tg1 iter1 : Expr} {ifs ifs1 : List Expr} {scope : Scope} {own : List (Str × Nat)} {vs1 : List Nat} {pos : Pos} {wi wi1 : TI} {g g1 : TG} {tt tt1 : TT} {te : TE} (hu : X.A.units + 64 < cLine) (hc : X.calm = true) (hN : X.N.Nodup) (hi : PI X tg iter wi) (ok : BlkOk X.N X.env.scope scope own) (hv : ∀ i ∈ vs1, i ∈ own.map (·.2))
    (hg : ∀ (s : Shared) (H : Hp) (C : Addr) (cl : List (Str × Addr)) (fp : List Addr), PG (X.blk s H scope (compEnvC scope cl C X.env) fp) tg g) (ht : ∀ (s : Shared) (H : Hp) (C : Addr) (cl : List (Str × Addr)) (fp : List Addr), PTs (X.blk s H scope (compEnvC scope cl C X.env) fp) ifs tt)
    (hi1 : ∀ (s : Shared) (H : Hp) (C : Addr) (cl : List (Str × Addr)) (fp : List Addr), PI (X.blk s H scope (compEnvC scope cl C X.env) fp) tg1 iter1 wi1)
    (hg1 : ∀ (s : Shared) (H : Hp) (C : Addr) (cl : List (Str × Addr)) (fp : List Addr), PG (X.blk s H scope (compEnvC scope cl C X.env) fp) tg1 g1) (ht1 : ∀ (s : Shared) (H : Hp) (C : Addr) (cl : List (Str × Addr)) (fp : List Addr), PTs (X.blk s H scope (compEnvC scope cl C X.env) fp) ifs1 tt1)
    (he : ∀ (s : Shared) (H : Hp) (C : Addr) (cl : List (Str × Addr)) (fp : List Addr), PE (X.blk s H scope (compEnvC scope cl C X.env) fp) elt te) (hs : ∀ x, foldedSetIterable iter X.env x = pure x := by intro _; rfl) (hs1 : ∀ env x, foldedSetIterable iter1 env x = pure x := by intro _ _; rfl) :
    PE X (SC2 elt tg iter tg1 iter1 ifs ifs1 scope pos) (tScG2 F wi g tt wi1 g1 tt1 te (own.map (·.2)) vs1) := by
  constructor
  intro pins s σ H Q I rd
  rw [PpSet.eval_SetComp]
  have cells : ∀ y ∈ scope.names, y.2 = .free → ∃ c, X.env.cells.lookup y.1 = some c := fun y hy e => (ok.free y hy e).elim (fun k => I.ok.has _ (.inl k)) fun k => I.ok.has _ (.inr k)
  refine wpAny_comprehension_free (use := none) rfl hs (closure_ok cells) ok.kind (fun y hy e => by rw [ok.uniq y hy, e]) (thn (hi.run pins s σ H _ I rd) fun xv s1 hx => thn hx fun itv s2 h2 => ?_)
  obtain ⟨it, fp, tn, J, H2, rfl, I2, T, st2, f2, q⟩ := h2
  refine PpSet.newSet_ok (newEnv_comp ?_)
  have hfr : H2 s2.heap.objs.size = none := I2.hok.fresh (Nat.le_refl _)
  generalize hA : s2.heap.objs.size = A0 at hfr
  obtain ⟨W, ⟨m0, w0⟩, turn⟩ := q A0 hfr
  obtain ⟨s3, hs3⟩ : ∃ s3 : Shared, s3 = { s2 with heap := s2.heap.push (freshSet X.w) } := ⟨_, rfl⟩
  obtain ⟨H3, hH3⟩ : ∃ H3 : Hp, H3 = upd H2 A0 (F.ob F.t0 A0) := ⟨_, rfl⟩
  have old : ∀ b o, s2.heap.get? b = some o → s3.heap.get? b = some o := fun b o e => by rw [hs3]; exact Heap.get?_push_of_some _ e
  have I3 : Inv X pins σ H3 s3 := by
    rw [hs3, hH3]
    exact I2.laid (t' := s2.toks) (fun b o e => Heap.get?_push_of_some _ e) (Nat.le_of_eq hA) (F.new _ _ _ (by rw [← hA]; exact Heap.get?_push_size _ rfl))
  have there : ∀ b ∈ fp, b < s2.heap.objs.size := fun b hb => by
    obtain ⟨o, e, _⟩ := T.obj _ _ st2 b hb
    exact Heap.lt_size e
  have f3 : ∀ b ∈ fp, FpOk X pins H3 b ∧ b < s3.heap.objs.size := fun b hb => by
    have lt := there b hb
    refine ⟨⟨?_, (f2 b hb).2⟩, by rw [hs3]; exact (Heap.size_push ..).symm ▸ Nat.lt_succ_of_lt lt⟩
    rw [hH3, upd_ne (by rw [← hA]; exact Nat.ne_of_lt lt)]
    exact (f2 b hb).1
  have st3 : tn 0 s3.heap := T.keep _ _ _ st2 fun b _ o e => old b o e
  have I4 := block_start I3 ok hN f3
  have pg := hg s3 H3 s3.heap.objs.size (cellsFrom (s3.heap.objs.size + 1) scope.names (cloFrom X.env.cells scope.names [])) fp
  have pt := ht s3 H3 s3.heap.objs.size (cellsFrom (s3.heap.objs.size + 1) scope.names (cloFrom X.env.cells scope.names [])) fp
  have pi1 := hi1 s3 H3 s3.heap.objs.size (cellsFrom (s3.heap.objs.size + 1) scope.names (cloFrom X.env.cells scope.names [])) fp
  have pg1 := hg1 s3 H3 s3.heap.objs.size (cellsFrom (s3.heap.objs.size + 1) scope.names (cloFrom X.env.cells scope.names [])) fp
  have pt1 := ht1 s3 H3 s3.heap.objs.size (cellsFrom (s3.heap.objs.size + 1) scope.names (cloFrom X.env.cells scope.names [])) fp
  have pe := he s3 H3 s3.heap.objs.size (cellsFrom (s3.heap.objs.size + 1) scope.names (cloFrom X.env.cells scope.names [])) fp
  have goal : codeAny (model X.prog X.w) X.A (.compStart (SC2 elt tg iter tg1 iter1 ifs ifs1 scope pos) 0 (.ref it) (.ref A0) (compEnvC scope (cellsFrom (s3.heap.objs.size + 1) scope.names (cloFrom X.env.cells scope.names [])) s3.heap.objs.size X.env))
      (compPost (model X.prog X.w) X.A X.xe none (EP X pins σ Q) (.ref A0) s3.heap.objs.size) { s3 with heap := pushCells (s3.heap.push { cls := .type "dict", data := .dict #[] }) scope.names } := by
    generalize hce : compEnvC scope (cellsFrom (s3.heap.objs.size + 1) scope.names (cloFrom X.env.cells scope.names [])) s3.heap.objs.size X.env = ce at I4 pg pt pi1 pg1 pt1 pe ⊢
    have cL : ce.locals = s3.heap.objs.size := by subst hce; rfl
    generalize hs4 : ({ s3 with heap := pushCells (s3.heap.push { cls := .type "dict", data := .dict #[] }) scope.names } : Shared) = s4 at I4 ⊢
    have st4 : tn 0 s4.heap := T.keep _ _ _ st3 fun b _ o e => by rw [← hs4]; exact pushCells_keeps _ _ _ _ (Heap.get?_push_of_some _ e)
    have fpo : ∀ {σ' : L2.St} {H' : Hp} {s' : Shared}, Inv (X.blk s3 H3 scope ce fp) [] σ' H' s' → (∀ b ∈ fp, H' b = none) → ∀ b ∈ fp, FpOk (X.blk s3 H3 scope ce fp) [] H' b := fun {σ' H' s'} J' hn b hb =>
      ⟨hn b hb, (J'.ok.exf b hb).1, J'.ok.exfs b hb, .inl hb, (J'.ok.exf b hb).2, fun p hp => by cases (show p ∈ ([] : List (Addr × Obj)) from hp)⟩
    have loop : codeAny (model X.prog X.w) X.A (.compLoop (SC2 elt tg iter tg1 iter1 ifs ifs1 scope pos) 0 (.ref it) (.ref A0) ce) (compPost (model X.prog X.w) X.A X.xe none (EP X pins σ Q) (.ref A0) s3.heap.objs.size) s4 := by
      refine sc2_out (hs1 ce) (fun n s' => ∃ i H', Inv (X.blk s3 H3 scope ce fp) [] (L2.wipe σ (own.map (·.2))) H' s' ∧ tn i s'.heap ∧ (∀ b ∈ fp, H' b = none) ∧ W i n H') ?_ m0 ⟨0, H3, I4, st4, fun b hb => (f3 b hb).1.1, by rw [hH3]; exact w0⟩
      rintro n s5 ⟨i, H5, I5, st5, n5, w5⟩
      rcases turn i n H5 w5 with ⟨stop, qq⟩ | ⟨go, Nx, hNx, step⟩
      · refine thnF (T.done (X.blk s3 H3 scope ce fp) rfl rfl rfl hc i [] s5 _ H5 (fun _ _ => False) I5 (fpo I5 n5) st5 stop) fun r s6 ⟨hr, I6⟩ => ?_
        subst hr
        have I7 : Inv X pins σ H5 s6 := I3.call' (ch := fp) I6.os I6.base I6.hok I6.bare fun b hb => ⟨(f3 b hb).1.2.2.2.1, (f3 b hb).1.2.1, (f3 b hb).1.2.2.2.2.1, (f3 b hb).1.2.2.2.2.2⟩
        have nC : H5 s3.heap.objs.size = none := by rw [← cL]; exact I6.free
        obtain ⟨m, hn, _⟩ := I6.loc
        have hn : s6.heap.Ns ce.locals m := hn
        rw [cL] at hn
        have fC := I3.fpOk (Nat.le_refl _) nC
        exact ⟨m, hn, fun h'' sb => ⟨.ref A0, H5, I7.turned (t' := s6.toks) (fun b o hb e => (sb.2 b hb).trans e) fC.1 fC.2.1 fC.2.2.2.1 fC.2.2.2.2.1 fC.2.2.2.2.2, rfl, qq⟩⟩
      · refine thnF (T.item (X.blk s3 H3 scope ce fp) rfl rfl rfl hc i [] s5 _ H5 (fun _ _ => False) I5 (fpo I5 n5) st5 go) fun r s6 ⟨u, hr, h6⟩ => ?_
        subst hr
        refine thnF h6 fun _ s7 ⟨x, H7, I7, r7, y7, st7, n7⟩ => ?_
        have I7' := I7.pinned (fpo I7 n7) (T.obj _ _ st7)
        refine thnF (pg.run _ s7 _ H7 x u _ I7' r7 (step x H7 y7)) fun _ s8 ⟨σ8, H8, I8, hw8, q8⟩ => ?_
        refine thnF (pt.run _ s8 σ8 H8 _ I8 q8) fun b s9 ⟨H9, I9, q9⟩ => ?_
        have fin : ∀ {σ' : L2.St} {s' : Shared} {H' : Hp}, Inv (X.blk s3 H3 scope ce fp) ([] ++ pinsAt fp s7.heap) σ' H' s' → (L2.wipe σ (own.map (·.2))).length = σ'.length → (∀ (j : Nat) v, (L2.wipe σ (own.map (·.2)))[j]? = some (some v) → σ'[j]? = some (some v)) → Nx H' → ∃ m, m < n ∧ ∃ i H', Inv (X.blk s3 H3 scope ce fp) [] (L2.wipe σ (own.map (·.2))) H' s' ∧ tn i s'.heap ∧ (∀ b ∈ fp, H' b = none) ∧ W i m H' := fun {σ' s' H'} I' hl hk nx => by
          obtain ⟨m', hm, w'⟩ := hNx H' nx
          have pinned : ∀ b ∈ fp, ∀ o, s7.heap.get? b = some o → s'.heap.get? b = some o ∧ H' b = none := fun b hb o e =>
            let z := I'.pin (b, o) (List.mem_append_right _ (List.mem_append_right _ (mem_pinsAt hb e)))
            ⟨z.1, z.2.1⟩
          refine ⟨m', hm, i + 1, H', (I'.unpinned (pins := [])).weak hl hk, T.keep _ _ _ st7 fun b hb o e => (pinned b hb o e).1, fun b hb => ?_, w'⟩
          obtain ⟨o, e, _⟩ := T.obj _ _ st7 b hb
          exact (pinned b hb o e).2
        have hl8 : (L2.wipe σ (own.map (·.2))).length = σ8.length := by rw [← hw8, wipe_length]
        have hk8 : ∀ (j : Nat) v, (L2.wipe σ (own.map (·.2)))[j]? = some (some v) → σ8[j]? = some (some v) ∧ j ∉ own.map (·.2) := fun j v e => by
          rw [← hw8] at e
          exact wipe_some e
        match b, q9 with
        | false, q9 => exact fin I9 hl8 (fun j v e => (hk8 j v e).1) q9
        | true, q9 =>
          refine thnF (pi1.run _ s9 σ8 H9 _ I9 q9) fun xv s10 hx => thnF hx fun itv s11 h11 => ?_
          obtain ⟨it1, fp1, tn1, J1, H11, e1, I11, T1, st11, f11, W1, ⟨m1, w1⟩, turn1⟩ := h11
          subst e1
          have fpo1 : ∀ {H' : Hp}, (∀ b ∈ fp1, H' b = none) → ∀ b ∈ fp1, FpOk (X.blk s3 H3 scope ce fp) ([] ++ pinsAt fp s7.heap) H' b := fun hn b hb => ⟨hn b hb, (f11 b hb).2⟩
          have loop1 : codeAny (model X.prog X.w) X.A (.compLoop (SC2 elt tg iter tg1 iter1 ifs ifs1 scope pos) 1 (.ref it1) (.ref A0) ce)
              (fun r s' => match r with
                | .ok _ => ∃ m, m < n ∧ ∃ i H', Inv (X.blk s3 H3 scope ce fp) [] (L2.wipe σ (own.map (·.2))) H' s' ∧ tn i s'.heap ∧ (∀ b ∈ fp, H' b = none) ∧ W i m H'
                | .error _ => False) s11 := by
            refine sc2_in (fun k s' => ∃ j H', Inv (X.blk s3 H3 scope ce fp) ([] ++ pinsAt fp s7.heap) (L2.wipe σ8 vs1) H' s' ∧ tn1 j s'.heap ∧ (∀ b ∈ fp1, H' b = none) ∧ W1 j k H') ?_ m1 ⟨0, H11, I11.weak (wipe_length _ _) (fun j v e => (wipe_some e).1), st11, fun b hb => (f11 b hb).1, w1⟩
            rintro k s12 ⟨j, H12, I12, st12, n12, w12⟩
            rcases turn1 j k H12 w12 with ⟨stop1, nx1⟩ | ⟨go1, Nx1, hNx1, step1⟩
            · refine thnF (T1.done (X.blk s3 H3 scope ce fp) rfl rfl rfl hc j _ s12 (L2.wipe σ8 vs1) H12 (fun _ _ => False) I12 (fpo1 n12) st12 stop1) fun r s13 ⟨hr, I13⟩ => ?_
              subst hr
              refine fin I13 (hl8.trans (wipe_length σ8 vs1).symm) (fun j' v e => ?_) nx1
              obtain ⟨e1, e2⟩ := hk8 j' v e
              rw [L2.wipe_out fun z => e2 (hv j' z)]
              exact e1
            · refine thnF (T1.item (X.blk s3 H3 scope ce fp) rfl rfl rfl hc j _ s12 (L2.wipe σ8 vs1) H12 (fun _ _ => False) I12 (fpo1 n12) st12 go1) fun r s13 ⟨u1, hr, h13⟩ => ?_
              subst hr
              refine thnF h13 fun _ s14 ⟨x1, H14, I14, r14, y14, st14, n14⟩ => ?_
              have I14' := I14.pinned (fpo1 n14) (T1.obj _ _ st14)
              refine thnF (pg1.run _ s14 (L2.wipe σ8 vs1) H14 x1 u1 _ I14' r14 (step1 x1 H14 y14)) fun _ s15 ⟨σ15, H15, I15, hw15, q15⟩ => ?_
              refine thnF (pt1.run _ s15 σ15 H15 _ I15 q15) fun b1 s16 ⟨H16, I16, q16⟩ => ?_
              have fin1 : ∀ {s' : Shared} {H' : Hp}, Inv (X.blk s3 H3 scope ce fp) (([] ++ pinsAt fp s7.heap) ++ pinsAt fp1 s14.heap) σ15 H' s' → Nx1 H' → ∃ m, m < k ∧ ∃ j H', Inv (X.blk s3 H3 scope ce fp) ([] ++ pinsAt fp s7.heap) (L2.wipe σ8 vs1) H' s' ∧ tn1 j s'.heap ∧ (∀ b ∈ fp1, H' b = none) ∧ W1 j m H' := fun {s' H'} I' nx => by
                obtain ⟨m', hm, w'⟩ := hNx1 H' nx
                have pinned : ∀ b ∈ fp1, ∀ o, s14.heap.get? b = some o → s'.heap.get? b = some o ∧ H' b = none := fun b hb o e =>
                  let z := I'.pin (b, o) (List.mem_append_right _ (List.mem_append_right _ (mem_pinsAt hb e)))
                  ⟨z.1, z.2.1⟩
                refine ⟨m', hm, j + 1, H', I'.unpinned.weak (by rw [← hw15, wipe_length]) (fun j v e => by rw [← hw15] at e; exact (wipe_some e).1), T1.keep _ _ _ st14 fun b hb o e => (pinned b hb o e).1, fun b hb => ?_, w'⟩
                obtain ⟨o, e, _⟩ := T1.obj _ _ st14 b hb
                exact (pinned b hb o e).2
              match b1, q16 with
              | false, q16 => exact fin1 I16 q16
              | true, q16 =>
                refine thnF (pe.run _ s16 σ15 H16 _ I16 q16) fun z s17 ⟨yv, H17, I17, r17, t, kk, ht17, hp17, nx⟩ => ?_
                exact F.add (X.blk s3 H3 scope ce fp) rfl rfl rfl hu _ s17 σ15 H17 A0 t yv kk z _ _ I17 ht17 r17 hp17 fun t' s18 hpost I18 => fin1 I18 (nx t' hpost)
          exact sc2_start loop1 (T1.self X.A 0 _ _ _ st11 loop1)
    exact PpSet.codeAny_compStart_set loop (T.self X.A 0 _ _ _ st4 loop)
  rw [hs3] at goal
  exact goal
end
end M
set_option Elab.async false
set_option linter.all false
set_option maxRecDepth 100000
set_option maxHeartbeats 4000000
namespace M
open PySem L2
/-! ### sorted({elt for .. for ..}), the elements ints -/
def nubI1 (acc : List Int) (k : Int) : List Int := if k ∈ acc then acc else acc ++ [k]
def nubI (ks : List Int) : List Int := ks.foldl nubI1 []
theorem nubI_snoc (ks : List Int) (k : Int) : nubI (ks ++ [k]) = nubI1 (nubI ks) k := by unfold nubI; rw [List.foldl_append]; rfl
theorem rev_ind {α : Type} {P : List α → Prop} (h0 : P []) (h1 : ∀ xs x, P xs → P (xs ++ [x])) (xs : List α) : P xs := by
  rw [← List.reverse_reverse xs]
  induction xs.reverse with
  | nil => exact h0
  | cons x xs ih => rw [List.reverse_cons]; exact h1 _ _ ih
theorem nubI_mem {k : Int} : ∀ ks : List Int, k ∈ nubI ks ↔ k ∈ ks := rev_ind (by simp [nubI]) fun xs x ih => by
  rw [nubI_snoc, nubI1]
  split
  · rename_i h
    rw [ih, List.mem_append, List.mem_singleton]
    exact ⟨.inl, fun z => z.elim id fun e => ih.mp (e ▸ h)⟩
  · rw [List.mem_append, ih, List.mem_append]
theorem nubI_nodup : ∀ ks : List Int, (nubI ks).Nodup := rev_ind (by simp [nubI]) fun xs x ih => by
  rw [nubI_snoc, nubI1]
  split
  · exact ih
  · rename_i h
    rw [List.nodup_append]
    refine ⟨ih, by simp, fun a ha b hb => ?_⟩
    rw [List.mem_singleton] at hb; subst hb
    exact fun e => h (e ▸ ha)
theorem nubI_le : ∀ ks : List Int, (nubI ks).length ≤ ks.length := rev_ind (by simp [nubI]) fun xs x ih => by
  rw [nubI_snoc, nubI1]
  split <;> simp <;> omega
def srtN (ks : List Int) : List Int := (nubI ks).mergeSort (fun a b => decide (a ≤ b))
theorem srtN_mem {k : Int} (ks : List Int) : k ∈ srtN ks ↔ k ∈ ks := by unfold srtN; rw [List.mem_mergeSort, nubI_mem]
theorem srtN_strict (ks : List Int) : (srtN ks).Pairwise (· < ·) := by
  have h1 : (srtN ks).Pairwise (fun a b => decide (a ≤ b) = true) := List.pairwise_mergeSort (fun a b c h1 h2 => by simp at *; omega) (fun a b => by simp; omega) _
  have h2 : (srtN ks).Nodup := (List.mergeSort_perm _ _).nodup_iff.mpr (nubI_nodup ks)
  refine (h1.and h2).imp fun {a b} h => ?_
  have := h.1
  have := h.2
  simp at *
  omega
theorem strict_unique {xs ys : List Int} (h1 : xs.Pairwise (· < ·)) (h2 : ys.Pairwise (· < ·)) (h : ∀ k, k ∈ xs ↔ k ∈ ys) : xs = ys := by
  have n1 : xs.Nodup := h1.imp fun h e => by omega
  have n2 : ys.Nodup := h2.imp fun h e => by omega
  have p : xs.Perm ys := (List.perm_ext_iff_of_nodup n1 n2).mpr h
  exact p.eq_of_pairwise (fun a b _ _ h1 h2 => by omega) h1 h2
def intsD : List D → Option (List Int)
  | [] => some []
  | .int i :: ds => (intsD ds).map (i :: ·)
  | _ :: _ => none
theorem intsD_map : ∀ ns : List Int, intsD (ns.map D.int) = some ns
  | [] => rfl
  | n :: ns => by simp [intsD, intsD_map ns]
theorem intsD_app : ∀ (ns : List Int) (ds : List D), intsD (ns.map D.int ++ ds) = (intsD ds).map (ns ++ ·)
  | [], ds => by simp
  | n :: ns, ds => by
    rw [List.map_cons, List.cons_append, intsD, intsD_app ns ds, Option.map_map]
    rfl
def srtEnd (ys : List D) : R D := match intsD ys with
  | some ns => if ns.length ≤ 900 ∧ (nubI ns).length < 64 then .ok (.lst ((srtN ns).map D.int)) else .fail
  | none => .fail
theorem RDs.intsM {k : Kn} {G : Hp} (ns : List Int) : RDs k G (ns.map D.int) (ns.map V.int) := RDs.ints ns
theorem int_of {c : Cf} {G H : Hp} {S : Env} {σ : L2.St} {Q : VK} {av : List Int} {y : D} {r : List D} (p : PostE c .fr G S σ H Q (srtEnd (av.map D.int ++ y :: r))) : ∃ k, y = .int k ∧ av.length < 901 := by
  unfold srtEnd at p
  rw [intsD_app] at p
  cases e : intsD (y :: r) with
  | none => rw [e] at p; exact p.elim
  | some zs =>
    rw [e] at p
    dsimp only [Option.map] at p
    cases y <;> simp only [intsD] at e <;> first | (cases e; done) | skip
    rename_i k
    refine ⟨k, rfl, ?_⟩
    by_cases hz : (av ++ zs).length ≤ 900 ∧ (nubI (av ++ zs)).length < 64
    · have := hz.1
      simp at this; omega
    · rw [if_neg hz] at p; exact p.elim
def iset (w : World) (L : List Int) (a : Addr) : HO := SetO w a (fun q => decide (q ∈ L)) (nubI L).length
def famI (P : Program) (w : World) (K : PySem.W.Frag) : Fam P w K (List Int) Int where
  ob := fun t a => iset w t a
  t0 := []
  pre := fun t y k H => y = .int k ∧ (nubI t).length + 1 < scanBound
  post := fun t y k t' => t' = t ++ [k]
  new := fun H h a e => by
    refine setO_new (w := w) ?_
    exact ⟨freshSet w, #[], 0, _, e, ⟨rfl, rfl, rfl⟩, rfl, (fun e he => by simp at he), (by simp), (fun k => by simp), (by decide), (by rfl), rfl, List.Pairwise.nil, by
      show _ ∨ (!w.params.followText "set-order") = true
      cases w.params.followText "set-order"
      · exact .inr rfl
      · exact .inl rfl⟩
  add := by
    intro X hP hw hK hu pins s σ H S t y k u Q E I hS ry hp hq
    subst hP hw hK
    obtain ⟨rfl, h2⟩ := hp
    obtain ⟨tk, rfl⟩ := ry
    have R := setO_get I hS
    refine setR_add R h2 fun h' sb new => ?_
    have he : ∃ u, h'.get? S = some u := by
      have ⟨o, _, _, _, ho, _⟩ := new
      exact ⟨o, ho⟩
    have e : (fun j => decide (j ∈ t) || decide (j = k)) = fun q => decide (q ∈ t ++ [k]) := by
      funext j; simp
    have e2 : (if decide (k ∈ t) = true then (nubI t).length else (nubI t).length + 1) = (nubI (t ++ [k])).length := by
      rw [nubI_snoc, nubI1]
      by_cases h : k ∈ t
      · rw [if_pos (by simpa using h), if_pos ((nubI_mem t).mpr h)]
      · rw [if_neg (by simpa using h), if_neg (fun z => h ((nubI_mem t).mp z))]; simp
    refine hq _ _ rfl (I.write (e := S) (by rw [hS]; trivial) (.inl rfl) (fun b u hb hu => (sb.2 b hb).trans hu) he (setO_new ?_))
    have new := new
    simp only [e] at new
    rw [e2] at new
    exact new
variable {c : Cf} {kd : Kd} {a : Expr} {t t1 : FT} {fr : Bool} {pos : Pos} {tg tg1 : Expr}
def srtSc2E (fi : FI) (ga : FG) (t : FT) (fi1 : FI) (ga1 : FG) (t1 : FT) (fe : FE) (vs vs1 : List Nat) : FE := fun S => fi S >>= fun ds => lc2F ga t fi1 ga1 t1 fe vs vs1 (wipeS S vs) ds >>= fun ys => srtEnd ys
theorem srtSc2_go {X : Cx} {ki ki1 gs gs1 vs vs1 : List Nat} {fi fi1 : FI} {ga ga1 : FG} {fe : FE} {σ : L2.St} {H : Hp} {Q : VK} {gi gi1 : TG} {tt tt1 : TT} {te : TE} {wi1 : TI} (hg : ∀ v σ H Q, RdG c.nx gs ga v σ H Q → gi v σ H Q) (ht : ∀ σ H Q, RdT c.nx t σ H Q → tt σ H Q)
    (hi1 : ∀ σ H Q, RdI c.nx ki1 fi1 σ H Q → wi1 σ H Q) (hg1 : ∀ v σ H Q, RdG c.nx gs1 ga1 v σ H Q → gi1 v σ H Q) (ht1 : ∀ σ H Q, RdT c.nx t1 σ H Q → tt1 σ H Q) (he : ∀ σ H Q, RdE c.nx .st fe σ H Q → te σ H Q)
    (h1000 : ∀ i ∈ vs, i < 1000) (hgs : ∀ i, i ∈ gs → i ∈ vs) (hgs1 : ∀ i, i ∈ gs1 → i ∈ vs1) (q : RdE c .fr (srtSc2E fi ga t fi1 ga1 t1 fe vs vs1) σ H Q) : tScG2 (famI X.prog X.w X.K) (RdI c ki fi) gi tt wi1 gi1 tt1 te vs vs1 σ H fun v H1 => rSortedSet X.w [v] H1 Q := by
  obtain ⟨G, S, rel, p⟩ := q
  refine ⟨G, S, rel, ?_⟩
  have p : PostE c .fr G S σ H Q (fi S >>= fun ds => lc2F ga t fi1 ga1 t1 fe vs vs1 (wipeS S vs) ds >>= fun ys => srtEnd ys) := p
  cases e0 : fi S with
  | exc x => rw [e0] at p; exact p
  | fail => rw [e0] at p; exact p
  | ok ds =>
    rw [e0, R.ok_bind] at p
    intro J G1 H1 sp it Dl hD
    have relb := ((rel.grow sp).wipe vs).cw (W := liftX E0)
    have hD0 : H Dl = none := sp.h.free hD
    -- the accumulator, from the start on
    have keep : ∀ {G2 H2 G6 H6 : Hp} {av : List Int}, G2 Dl = none → H2 Dl = some (iset X.w av Dl) → Step G2 H2 G6 H6 → G6 Dl = none ∧ H6 Dl = some (iset X.w av Dl) := fun {G2 H2 G6 H6 av} hGD hHD z => by
      refine ⟨?_, z.h _ _ hHD⟩
      cases q : G6 Dl with
      | none => rfl
      | some o =>
        rcases z.gr _ _ q with w | w
        · rw [hGD] at w; cases w
        · rw [hHD] at w; cases w
    refine ⟨fun i m H2 => m = ds.length - i ∧ i ≤ ds.length ∧ ∃ G2 av, Step G1 H1 G2 H2 ∧ G2 Dl = none ∧ H2 Dl = some (iset X.w av Dl) ∧
        PostE c .fr G S σ H Q (lc2F ga t fi1 ga1 t1 fe vs vs1 (wipeS S vs) (ds.drop i) >>= fun ys => srtEnd (av.map D.int ++ ys)),
      ⟨_, rfl, Nat.zero_le _, G1, [], Step.new' sp.gh hD, sp.gh.free hD, upd_same, by simpa using p⟩, ?_⟩
    rintro i m H2 ⟨rfl, hle, G2, av, sp2, hGD, hHD, p2⟩
    have rel2 : Rel c.nx G2 (wipeS S vs) (L2.wipe σ vs) H2 := relb.grow sp2
    have itm := it G2 H2 sp2.g sp2.gh fun j hj x ow => by
      obtain ⟨_, _, o, _, ho, _⟩ := (rel.grow sp).own ow
      rw [ho, sp2.h _ _ ho]
    by_cases hlt : i < ds.length
    · obtain ⟨d, hd⟩ : ∃ d, ds[i]? = some d := ⟨ds[i], List.getElem?_eq_getElem hlt⟩
      have hdrop : ds.drop i = d :: ds.drop (i + 1) := by
        rw [List.drop_eq_getElem_cons hlt]; congr 1; rw [List.getElem?_eq_getElem hlt] at hd; exact Option.some.inj hd
      rw [hdrop] at p2
      obtain ⟨hgo, hy⟩ := itm.2 i d hd
      refine .inr ⟨hgo, fun H' => ∃ G3 av, Step G1 H1 G3 H' ∧ G3 Dl = none ∧ H' Dl = some (iset X.w av Dl) ∧
        PostE c .fr G S σ H Q (lc2F ga t fi1 ga1 t1 fe vs vs1 (wipeS S vs) (ds.drop (i + 1)) >>= fun ys => srtEnd (av.map D.int ++ ys)), fun H' ⟨G3, r3⟩ => ⟨_, by omega, rfl, hlt, G3, r3⟩, fun x H3 hx => ?_⟩
      obtain ⟨G3, sp3, hd3⟩ := hy x H3 hx
      refine hg x _ H3 _ ⟨G3, wipeS S vs, d, rel2.grow sp3, hd3, ?_⟩
      unfold lc2F at p2
      cases e1 : ga d (wipeS S vs) with
      | exc x => rw [e1] at p2; exact p2.elim
      | fail => rw [e1] at p2; exact p2.elim
      | ok S1 =>
        rw [e1, R.nox_ok, R.ok_bind] at p2
        split at p2
        case isFalse => exact p2.elim
        rename_i hun
        intro G4 σ4 H4 sp4 rel4 f4
        refine ⟨wipe_eq (by rw [f4.len, wipe_length]) fun j hj => f4.sg j fun z => hj (hgs j z), ht σ4 H4 _ ⟨G4, S1, rel4, ?_⟩⟩
        cases e2 : t S1 with
        | exc x => rw [e2] at p2; exact p2.elim
        | fail => rw [e2] at p2; exact p2.elim
        | ok b =>
          rw [e2, R.nox_ok, R.ok_bind] at p2
          intro G5 H5 sp5
          have spA : Step G2 H2 G5 H5 := (sp3.trans sp4).trans sp5
          have nA := keep hGD hHD spA
          cases b with
          | false =>
            rw [if_neg Bool.false_ne_true] at p2 ⊢
            exact ⟨G5, av, sp2.trans spA, nA.1, nA.2, p2⟩
          | true =>
            rw [if_pos rfl] at p2 ⊢
            have rel5 := rel4.grow sp5
            refine hi1 σ4 H5 _ ⟨G5, S1, rel5, ?_⟩
            cases e3 : fi1 S1 with
            | exc x => rw [e3] at p2; exact p2.elim
            | fail => rw [e3] at p2; exact p2.elim
            | ok es =>
              rw [e3, R.nox_ok, R.ok_bind] at p2
              intro J1 G6 H6 sp6 it1
              have spB := spA.trans sp6
              have nB := keep hGD hHD spB
              have rel6 := rel5.grow sp6
              have relc := rel6.wipe vs1
              have noD1 : ∀ (i' : Nat) (a : Addr), OwnAt S1 σ4 i' a → a ≠ Dl := fun i' a ⟨⟨d', z1⟩, z2⟩ e => by
                have hi' : i' ∉ gs := fun hm => by
                  have := List.all_eq_true.mp hun i' (hgs i' hm)
                  rw [z1] at this; cases this
                have hk : i' + 1000 ∉ gs := fun hm => by have := h1000 _ (hgs _ hm); omega
                rw [f4.sl i' hi' hk] at z1
                rw [f4.sg i' hi'] at z2
                obtain ⟨_, _, o, _, ho, _⟩ := relb.own (i := i') (a := a) ⟨⟨d', z1⟩, z2⟩
                rw [e, hD] at ho; cases ho
              have noD : ∀ (i' : Nat) (a : Addr), OwnAt (wipeS S1 vs1) (L2.wipe σ4 vs1) i' a → a ≠ Dl := fun i' a ow => noD1 i' a (own_wipe vs1 ow)
              refine ⟨fun j m H7 => m = es.length - j ∧ j ≤ es.length ∧ ∃ G7 av1, Step G1 H1 G7 H7 ∧ Ex G6 G7 ∧ (∀ a o, a ≠ Dl → H6 a = some o → H7 a = some o) ∧ (∀ b o, G7 b = some o → G6 b = some o ∨ H6 b = none) ∧ G7 Dl = none ∧ H7 Dl = some (iset X.w av1 Dl) ∧
                  PostE c .fr G S σ H Q (lcF ga1 t1 fe (wipeS S1 vs1) (es.drop j) >>= fun ys => lc2F ga t fi1 ga1 t1 fe vs vs1 (wipeS S vs) (ds.drop (i + 1)) >>= fun zs => srtEnd (av1.map D.int ++ (ys ++ zs))),
                ⟨_, rfl, Nat.zero_le _, G6, av, sp2.trans spB, Ex.refl _, fun _ _ _ z => z, fun _ _ z => .inl z, nB.1, nB.2, ?_⟩, ?_⟩
              · rw [List.drop_zero]
                cases e4 : lcF ga1 t1 fe (wipeS S1 vs1) es with
                | exc x => exact absurd e4 (lcF_exc _)
                | fail => rw [e4] at p2; exact p2.elim
                | ok ys =>
                  rw [e4, R.ok_bind] at p2
                  rw [R.ok_bind]
                  cases e5 : lc2F ga t fi1 ga1 t1 fe vs vs1 (wipeS S vs) (ds.drop (i + 1)) with
                  | exc x => exact absurd e5 (lc2F_exc _)
                  | fail => rw [e5] at p2; exact p2.elim
                  | ok zs => rw [e5] at p2; exact p2
              rintro j m H7 ⟨rfl, hlj, G7, av1, sp7, xg, xh, xr, nG7, nH7, p7⟩
              have rel7 : Rel c.nx G7 (wipeS S1 vs1) (L2.wipe σ4 vs1) H7 := by
                refine ⟨relb.st.trans sp7, relc.len, fun i' d' z => ?_, fun i' d' z => ?_, relc.nd⟩
                · obtain ⟨v, z1, z2⟩ := relc.fz i' d' z
                  exact ⟨v, z1, z2.mono xg⟩
                · obtain ⟨a, o, z1, z2, z3, z4, z5⟩ := relc.ow i' d' z
                  refine ⟨a, o, z1, ?_, z3, xh a o (noD i' a ⟨⟨_, z⟩, z1⟩) z4, z5.mono xg⟩
                  cases q : G7 a with
                  | none => rfl
                  | some u =>
                    rcases xr a u q with w | w
                    · rw [z2] at w; cases w
                    · rw [z4] at w; cases w
              have itm1 := it1 G7 H7 xg sp7.gh fun j' hj' x ow => by
                obtain ⟨_, _, o, _, ho, _⟩ := rel6.own ow
                rw [ho, xh x o (noD1 j' x ow) ho]
              by_cases hlt1 : j < es.length
              · obtain ⟨d1, hd1⟩ : ∃ d, es[j]? = some d := ⟨es[j], List.getElem?_eq_getElem hlt1⟩
                have hdrop1 : es.drop j = d1 :: es.drop (j + 1) := by
                  rw [List.drop_eq_getElem_cons hlt1]; congr 1; rw [List.getElem?_eq_getElem hlt1] at hd1; exact Option.some.inj hd1
                rw [hdrop1] at p7
                obtain ⟨hgo1, hy1⟩ := itm1.2 j d1 hd1
                -- what the next turn asks of heaps that grew by a step and, perhaps, at the accumulator
                have nxt : ∀ {G9 H9 H10 : Hp}, Step G7 H7 G9 H9 → H10 Dl ≠ none → (∀ a, a ≠ Dl → H10 a = H9 a) → Step G1 H1 G9 H10 ∧ Ex G6 G9 ∧ (∀ a o, a ≠ Dl → H6 a = some o → H10 a = some o) ∧ (∀ b o, G9 b = some o → G6 b = some o ∨ H6 b = none) := fun {G9 H9 H10} s9 hn h10 => by
                  have sA := sp7.trans s9
                  have nD := keep nG7 nH7 s9
                  refine ⟨⟨sA.g, fun b o z => ?_, fun b o z => ?_, sA.gr⟩, xg.trans s9.g, fun a o ha z => by rw [h10 a ha]; exact s9.h a o (xh a o ha z), fun b o z => ?_⟩
                  · rw [h10 b (ne_of_none z hD)]; exact sA.h b o z
                  · rw [h10 b (ne_of_none z nD.1)]; exact sA.gh b o z
                  · rcases s9.gr b o z with w | w
                    · exact xr b o w
                    · right
                      cases q : H6 b with
                      | none => rfl
                      | some u =>
                        by_cases hb : b = Dl
                        · subst hb; rw [nH7] at w; cases w
                        · rw [xh b u hb q] at w; cases w
                refine .inr ⟨hgo1, fun H' => ∃ G8 av1, Step G1 H1 G8 H' ∧ Ex G6 G8 ∧ (∀ a o, a ≠ Dl → H6 a = some o → H' a = some o) ∧ (∀ b o, G8 b = some o → G6 b = some o ∨ H6 b = none) ∧ G8 Dl = none ∧ H' Dl = some (iset X.w av1 Dl) ∧
                  PostE c .fr G S σ H Q (lcF ga1 t1 fe (wipeS S1 vs1) (es.drop (j + 1)) >>= fun ys => lc2F ga t fi1 ga1 t1 fe vs vs1 (wipeS S vs) (ds.drop (i + 1)) >>= fun zs => srtEnd (av1.map D.int ++ (ys ++ zs))),
                  fun H' ⟨G8, r8⟩ => ⟨_, by omega, rfl, hlt1, G8, r8⟩, fun x H8 hx => ?_⟩
                obtain ⟨G8, sp8, hd8⟩ := hy1 x H8 hx
                refine hg1 x _ H8 _ ⟨G8, wipeS S1 vs1, d1, rel7.grow sp8, hd8, ?_⟩
                unfold lcF at p7
                cases f1 : ga1 d1 (wipeS S1 vs1) with
                | exc x => rw [f1] at p7; exact p7.elim
                | fail => rw [f1] at p7; exact p7.elim
                | ok S3 =>
                  rw [f1, R.nox_ok, R.ok_bind] at p7
                  intro G9 σ9 H9 sp9 rel9 fr9
                  refine ⟨wipe_eq (by rw [fr9.len, wipe_length]) fun j hj => fr9.sg j fun z => hj (hgs1 j z), ht1 σ9 H9 _ ⟨G9, S3, rel9, ?_⟩⟩
                  cases f2 : t1 S3 with
                  | exc x => rw [f2] at p7; exact p7.elim
                  | fail => rw [f2] at p7; exact p7.elim
                  | ok b1 =>
                    rw [f2, R.nox_ok, R.ok_bind] at p7
                    intro Ga Ha spa
                    have sC : Step G7 H7 Ga Ha := (sp8.trans sp9).trans spa
                    have nC := keep nG7 nH7 sC
                    cases b1 with
                    | false =>
                      rw [if_neg Bool.false_ne_true] at p7 ⊢
                      obtain ⟨k1, k2, k3, k4⟩ := nxt (H10 := Ha) sC (by rw [nC.2]; exact fun z => nomatch z) fun _ _ => rfl
                      exact ⟨Ga, av1, k1, k2, k3, k4, nC.1, nC.2, p7⟩
                    | true =>
                      rw [if_pos rfl] at p7 ⊢
                      refine he σ9 Ha _ ⟨Ga, S3, rel9.grow spa, ?_⟩
                      cases f3 : fe S3 with
                      | exc x => rw [f3] at p7; exact p7.elim
                      | fail => rw [f3] at p7; exact p7.elim
                      | ok y =>
                        rw [f3, R.nox_ok, R.ok_bind] at p7
                        intro v Gb Hb spb hv
                        have sD := sC.trans spb
                        have nD := keep nG7 nH7 sD
                        have p8 : PostE c .fr G S σ H Q (lcF ga1 t1 fe (wipeS S1 vs1) (es.drop (j + 1)) >>= fun ys => lc2F ga t fi1 ga1 t1 fe vs vs1 (wipeS S vs) (ds.drop (i + 1)) >>= fun zs => srtEnd (av1.map D.int ++ y :: (ys ++ zs))) := by
                          cases e4 : lcF ga1 t1 fe (wipeS S1 vs1) (es.drop (j + 1)) with
                          | exc x => exact absurd e4 (lcF_exc _)
                          | fail => rw [e4] at p7; exact p7.elim
                          | ok ys => rw [e4] at p7; simpa using p7
                        have hsh : ∃ k, y = .int k ∧ av1.length < 901 := by
                          cases e4 : lcF ga1 t1 fe (wipeS S1 vs1) (es.drop (j + 1)) with
                          | exc x => exact absurd e4 (lcF_exc _)
                          | fail => rw [e4] at p8; exact p8.elim
                          | ok ys =>
                            rw [e4, R.ok_bind] at p8
                            cases e5 : lc2F ga t fi1 ga1 t1 fe vs vs1 (wipeS S vs) (ds.drop (i + 1)) with
                            | exc x => exact absurd e5 (lc2F_exc _)
                            | fail => rw [e5] at p8; exact p8.elim
                            | ok zs => rw [e5] at p8; exact int_of p8
                        obtain ⟨k, rfl, hsh⟩ := hsh
                        have hv : RD c.k Gb (.int k) v := hv
                        cases hv
                        refine ⟨av1, k, nD.2, ⟨rfl, scan_ok (by have := nubI_le av1; omega)⟩, ?_⟩
                        rintro t' rfl
                        obtain ⟨k1, k2, k3, k4⟩ := nxt (H10 := upd Hb Dl (iset X.w (av1 ++ [k]) Dl)) sD (by rw [upd_same]; exact fun z => nomatch z) fun _ ha => upd_ne ha
                        refine ⟨Gb, av1 ++ [k], k1, k2, k3, k4, nD.1, upd_same, ?_⟩
                        have e : ∀ zs : List D, (av1 ++ [k]).map D.int ++ zs = av1.map D.int ++ D.int k :: zs := fun zs => by simp
                        simp only [e]
                        exact p8
              · have hj : j = es.length := by omega
                subst hj
                rw [List.drop_length] at p7
                exact .inl ⟨itm1.1 _ (Nat.le_refl _), G7, av1, sp7, nG7, nH7, p7⟩
    · have hi : i = ds.length := by omega
      subst hi
      rw [List.drop_length] at p2
      refine .inl ⟨itm.1 _ (Nat.le_refl _), ?_⟩
      have p2 : PostE c .fr G S σ H Q (srtEnd (av.map D.int ++ [])) := p2
      rw [List.append_nil] at p2
      unfold srtEnd at p2
      rw [intsD_map] at p2
      dsimp only at p2
      by_cases hz : av.length ≤ 900 ∧ (nubI av).length < 64
      · rw [if_pos hz] at p2
        refine ⟨Dl, _, _, rfl, hHD, hz.2, fun ns pp h1 h2 h3 hp => ?_⟩
        obtain rfl : ns = srtN av := strict_unique h1 (srtN_strict av) fun k => by rw [h2, decide_eq_true_iff, srtN_mem]
        have sE := sp.trans sp2
        exact p2 _ G2 _ ⟨sE.g, sE.h.upd (sE.h.free hp), sE.gh.upd (sE.gh.free hp) , sE.gr⟩ ⟨pp, _, rfl, sE.gh.free hp, sE.h.free hp, upd_same, .lst (RDs.ints _)⟩
      · rw [if_neg hz] at p2; exact p2.elim
/-- sorted({elt for target in iter if .. for target1 in iter1 if ..}) -/
theorem d_srtSc2 {X : Cx} {elt iter iter1 : Expr} {ifs ifs1 : List Expr} {scope : Scope} {p1 p2 : Pos} {x : Str} (own : List (Str × Nat)) (vs1 : List Nat) {ki gs ki1 gs1 : List Nat} {fi fi1 : FI} {ga ga1 : FG} {fe : FE} (hu : X.A.units + 64 < cLine) (hm : X.mg x = none) (hc : X.calm = true) (hN : X.N.Nodup) (hi : PI' X c ki tg iter fi) (ok : BlkOk X.N X.env.scope scope own)
    (hg : ∀ (s : Shared) (H : Hp) (C : Addr) (cl : List (Str × Addr)) (fp : List Addr), PG' (X.blk s H scope (compEnvC scope cl C X.env) fp) c.nx gs tg ga) (ht : ∀ (s : Shared) (H : Hp) (C : Addr) (cl : List (Str × Addr)) (fp : List Addr), PTs' (X.blk s H scope (compEnvC scope cl C X.env) fp) c.nx ifs t)
    (hi1 : ∀ (s : Shared) (H : Hp) (C : Addr) (cl : List (Str × Addr)) (fp : List Addr), PI' (X.blk s H scope (compEnvC scope cl C X.env) fp) c.nx ki1 tg1 iter1 fi1)
    (hg1 : ∀ (s : Shared) (H : Hp) (C : Addr) (cl : List (Str × Addr)) (fp : List Addr), PG' (X.blk s H scope (compEnvC scope cl C X.env) fp) c.nx gs1 tg1 ga1) (ht1 : ∀ (s : Shared) (H : Hp) (C : Addr) (cl : List (Str × Addr)) (fp : List Addr), PTs' (X.blk s H scope (compEnvC scope cl C X.env) fp) c.nx ifs1 t1)
    (he : ∀ (s : Shared) (H : Hp) (C : Addr) (cl : List (Str × Addr)) (fp : List Addr), PE' (X.blk s H scope (compEnvC scope cl C X.env) fp) c.nx .st elt fe) (hv : ∀ i ∈ vs1, i ∈ own.map (·.2) := by decide) (h1000 : ∀ i ∈ own.map (·.2), i < 1000 := by decide) (hgs : ∀ i, i ∈ gs → i ∈ own.map (·.2) := by decide) (hgs1 : ∀ i, i ∈ gs1 → i ∈ vs1 := by decide) (hs : ∀ x, foldedSetIterable iter X.env x = pure x := by intro _; rfl) (hs1 : ∀ env x, foldedSetIterable iter1 env x = pure x := by intro _ _; rfl)
    (hbt : bootBuiltins x = some (.builtin "sorted") := by decide +kernel) (hgl : Gl X x := by rfl) (hn : x ≠ "__name__" := by decide) (hdb : (x == ("__debug__" : Str)) = false := by decide) :
    PE' X c .fr (.Call (.Name x p1) [.SetComp elt [⟨tg, iter, ifs, 0⟩, ⟨tg1, iter1, ifs1, 0⟩] scope p2] [] pos) (srtSc2E fi ga t fi1 ga1 t1 fe (own.map (·.2)) vs1) :=
  peI (pe_callB (cr_sortedSet hc) hgl hm hbt (pa_cons (pe_scG2 (famI X.prog X.w X.K) hu hc hN hi ok hv hg ht hi1 hg1 ht1 he hs hs1) pa_nil rfl) hn hdb rfl rfl) fun σ H Q q => srtSc2_go (fun _ _ _ _ z => z) (fun _ _ _ z => z) (fun _ _ _ z => z) (fun _ _ _ _ z => z) (fun _ _ _ z => z) (fun _ _ _ z => z) h1000 hgs hgs1 q
end M
set_option Elab.async false
set_option linter.all false
set_option maxRecDepth 100000
set_option maxHeartbeats 4000000
namespace M
open PySem L2 PySem.Spec PyProof.Rows
/-! ### {k: v for target in iter if ..}, any keys that dicts have -/
section
variable {X : Cx} {pins : List (Addr × Obj)} {σ : L2.St} {H H' : Hp} {s : Shared} {a : Addr} {y v : V} {u r : Value} {A : Around} {E : Value → Shared → Prop}
theorem dct_put {Q : Unit → Shared → Prop} (hu : A.units + 1 < cLine) (I : Inv X pins σ H s) (g : DPut H a y v H') (ry : RelV y u) (rv : RelV v r) (h : ∀ s', Inv X pins σ H' s' → Q () s') :
    wpAny (model X.prog X.w) A (dictSet a u r) Q E s := by
  rcases g with ⟨kvs, k, e, rfl, l, rfl⟩ | ⟨kvs, k, b, e, rfl, eb, l, rfl⟩
  · obtain ⟨z, hd, vs, rel, dd⟩ := dk_of I.hok e
    have hl : (putK kvs k v).length ≤ sizeLine := by have := length_putK kvs k v; omega
    refine wpAny_dictSet_pairs (hsz := by rw [← rel.length]; exact z) (kV_is ry) dd fun h' dd' hs => h _ ?_
    exact d_write I (by rw [e]; exact True.intro) hs (let ⟨q, _, _, hq, _⟩ := dd'; ⟨q, hq⟩) (dk_new hl hd (rel.put k rv) dd')
  · cases (show u = Value.ref b from ry)
    obtain ⟨z, hd, xs, rel, dd⟩ := dt_of I.hok e
    have hl : (putK kvs k v).length ≤ sizeLine := by have := length_putK kvs k v; omega
    refine wpAny_dictSet_heap (hsz := by rw [← Paired.length rel]; exact z) (show A.units < cLine by omega) (key_of I.hok eb) dd fun h' dd' hs => h _ ?_
    obtain ⟨q, es, ep, hq, h2, h3, h4, _, h5⟩ := dd'
    refine d_write I (by rw [e]; exact True.intro) hs ⟨q, hq⟩ ⟨hl, hd, _, (rel.put k eb rv).keeps fun c ys ec => ?_, q, es, ep, hq, h2, h3, h4, h5⟩
    rw [upd_ne (ne_of ec e (fun z => nomatch z))]
    exact ec
end
/-- a kind of keys -/
structure DK (κ : Type) [DecidableEq κ] where
  key : D → Option κ
  mkd : List κ → List D → D
  ho : List (κ × V) → HO
  put : ∀ {k : Kn} {G H : Hp} {a : Addr} {d : D} {y v : V} {q : κ} {kvs : List (κ × V)}, Ex G H → key d = some q → RD k G d y → H a = some (ho kvs) → kvs.length < sizeLine → DPut H a y v (upd H a (ho (putK kvs q v)))
  cont : ∀ {k : Kn} {G : Hp} {ks : List κ} {ds : List D} {vs : List V}, ks.length = ds.length → RDs k G ds vs → Cont k G (mkd ks ds) (ho (ks.zip vs))
  new : ∀ {P : Program} {w : World} {H : Hp} (h : Heap), sysModules < h.objs.size → ObjOk P w H (h.push { cls := .type "dict", data := .dict #[] }) h.objs.size (ho [])
def dkT : DK (List Key) where
  key := keyT
  mkd := .dit
  ho := .dT
  put := fun e hq r ha hl => by
    obtain ⟨b, rfl, hb⟩ := keyT_now e hq (.inl r)
    exact DPut.t ha hb hl
  cont := fun l r => .dit l r
  new := fun h hb => dt_empty h hb
def dkK : DK Key where
  key := keyD
  mkd := .dic
  ho := .dK
  put := fun e hq r ha hl => by
    obtain rfl := keyD_rd hq r
    exact DPut.k ha hl
  cont := fun l r => .dic l r
  new := fun h hb => dk_empty h hb
section
variable {κ : Type} [DecidableEq κ] {X : Cx}
def tDcG (F : DK κ) (wi : TI) (g : TG) (tt : TT) (tk tv : TE) (vs : List Nat) : TE := fun σ H Q => wi σ H fun J H1 => ∀ S, H1 S = none → ∃ W : Nat → Nat → Hp → Prop, (∃ m, W 0 m (upd H1 S (F.ho []))) ∧ ∀ i m H, W i m H →
  (J.stop i H ∧ Q (.ref S) H) ∨ (J.go i H ∧ ∃ Nx : Hp → Prop, (∀ H', Nx H' → ∃ m', m' < m ∧ W (i + 1) m' H') ∧ ∀ x H', J.yld i H x H' → g x (L2.wipe σ vs) H' fun σ2 H2 => L2.wipe σ2 vs = L2.wipe σ vs ∧ tt σ2 H2 fun b H3 =>
    if b = true then tk σ2 H3 fun y H4 => tv σ2 H4 fun z H5 => ∃ H6, DPut H5 S y z H6 ∧ Nx H6 else Nx H3)
theorem dcG_core {pins : List (Addr × Obj)} {s : Shared} {σ : L2.St} {H : Hp} {Q : VK} {pos' : Pos} {use : Option (Value → Sem Unit)} {Qf : Value → Shared → Prop} (I : Inv X pins σ H s) (F : DK κ) {kx vx tg iter : Expr} {ifs : List Expr} {scope : Scope} {own : List (Str × Nat)} {pos : Pos} {wi : TI} {g : TG} {tt : TT} {tk tv : TE} (hu : X.A.units + 64 < cLine) (hc : X.calm = true) (hN : X.N.Nodup) (hi : PI X tg iter wi) (ok : BlkOk X.N X.env.scope scope own)
    (hg : ∀ (s : Shared) (H : Hp) (C : Addr) (cl : List (Str × Addr)) (fp : List Addr), PG (X.blk s H scope (compEnvC scope cl C X.env) fp) tg g) (ht : ∀ (s : Shared) (H : Hp) (C : Addr) (cl : List (Str × Addr)) (fp : List Addr), PTs (X.blk s H scope (compEnvC scope cl C X.env) fp) ifs tt)
    (hk : ∀ (s : Shared) (H : Hp) (C : Addr) (cl : List (Str × Addr)) (fp : List Addr), PE (X.blk s H scope (compEnvC scope cl C X.env) fp) kx tk)
    (he : ∀ (s : Shared) (H : Hp) (C : Addr) (cl : List (Str × Addr)) (fp : List Addr), PE (X.blk s H scope (compEnvC scope cl C X.env) fp) vx tv) (hs : ∀ x, foldedSetIterable iter X.env x = pure x) (rd : tDcG F wi g tt tk tv (own.map (·.2)) σ H Q)
    (hRR : ∀ D C s' m H', Inv X pins σ H' s' → Q (.ref D) H' → s'.heap.Ns C m → FpOk X pins H' C → compPost (model X.prog X.w) X.A X.xe use Qf (.ref D) C (.ok .next) s') :
    wpAny (model X.prog X.w) X.A (comprehension (.DictComp kx vx [⟨tg, iter, ifs, 0⟩] scope pos) scope X.env pos' newDict false (eval iter X.env) use) Qf X.xe s := by
  have cells : ∀ y ∈ scope.names, y.2 = .free → ∃ c, X.env.cells.lookup y.1 = some c := fun y hy e => (ok.free y hy e).elim (fun k => I.ok.has _ (.inl k)) fun k => I.ok.has _ (.inr k)
  refine wpAny_comprehension_free (use := use) rfl hs (closure_ok cells) ok.kind (fun y hy e => by rw [ok.uniq y hy, e]) (thn (hi.run pins s σ H _ I rd) fun xv s1 hx => thn hx fun itv s2 h2 => ?_)
  obtain ⟨it, fp, tn, J, H2, rfl, I2, T, st2, f2, q⟩ := h2
  refine wpAny_newObj_type (newEnv_comp ?_)
  have hfr : H2 s2.heap.objs.size = none := I2.hok.fresh (Nat.le_refl _)
  generalize hA : s2.heap.objs.size = A0 at hfr
  obtain ⟨W, ⟨m0, w0⟩, turn⟩ := q A0 hfr
  obtain ⟨s3, hs3⟩ : ∃ s3 : Shared, s3 = { s2 with heap := s2.heap.push { cls := .type "dict", data := .dict #[] } } := ⟨_, rfl⟩
  obtain ⟨H3, hH3⟩ : ∃ H3 : Hp, H3 = upd H2 A0 (F.ho []) := ⟨_, rfl⟩
  have old : ∀ b o, s2.heap.get? b = some o → s3.heap.get? b = some o := fun b o e => by rw [hs3]; exact Heap.get?_push_of_some _ e
  have I3 : Inv X pins σ H3 s3 := by
    rw [hs3, hH3]
    exact I2.laid (t' := s2.toks) (fun b o e => Heap.get?_push_of_some _ e) (Nat.le_of_eq hA) (by rw [← hA]; exact F.new s2.heap I2.big)
  have there : ∀ b ∈ fp, b < s2.heap.objs.size := fun b hb => by
    obtain ⟨o, e, _⟩ := T.obj _ _ st2 b hb
    exact Heap.lt_size e
  have f3 : ∀ b ∈ fp, FpOk X pins H3 b ∧ b < s3.heap.objs.size := fun b hb => by
    have lt := there b hb
    refine ⟨⟨?_, (f2 b hb).2⟩, by rw [hs3]; exact (Heap.size_push ..).symm ▸ Nat.lt_succ_of_lt lt⟩
    rw [hH3, upd_ne (by rw [← hA]; exact Nat.ne_of_lt lt)]
    exact (f2 b hb).1
  have st3 : tn 0 s3.heap := T.keep _ _ _ st2 fun b _ o e => old b o e
  have I4 := block_start I3 ok hN f3
  have pg := hg s3 H3 s3.heap.objs.size (cellsFrom (s3.heap.objs.size + 1) scope.names (cloFrom X.env.cells scope.names [])) fp
  have pt := ht s3 H3 s3.heap.objs.size (cellsFrom (s3.heap.objs.size + 1) scope.names (cloFrom X.env.cells scope.names [])) fp
  have pk := hk s3 H3 s3.heap.objs.size (cellsFrom (s3.heap.objs.size + 1) scope.names (cloFrom X.env.cells scope.names [])) fp
  have pe := he s3 H3 s3.heap.objs.size (cellsFrom (s3.heap.objs.size + 1) scope.names (cloFrom X.env.cells scope.names [])) fp
  have goal : codeAny (model X.prog X.w) X.A (.compStart (.DictComp kx vx [⟨tg, iter, ifs, 0⟩] scope pos) 0 (.ref it) (.ref A0) (compEnvC scope (cellsFrom (s3.heap.objs.size + 1) scope.names (cloFrom X.env.cells scope.names [])) s3.heap.objs.size X.env))
      (compPost (model X.prog X.w) X.A X.xe use Qf (.ref A0) s3.heap.objs.size) { s3 with heap := pushCells (s3.heap.push { cls := .type "dict", data := .dict #[] }) scope.names } := by
    generalize hce : compEnvC scope (cellsFrom (s3.heap.objs.size + 1) scope.names (cloFrom X.env.cells scope.names [])) s3.heap.objs.size X.env = ce at I4 pg pt pk pe ⊢
    have cL : ce.locals = s3.heap.objs.size := by subst hce; rfl
    generalize hs4 : ({ s3 with heap := pushCells (s3.heap.push { cls := .type "dict", data := .dict #[] }) scope.names } : Shared) = s4 at I4 ⊢
    have st4 : tn 0 s4.heap := T.keep _ _ _ st3 fun b _ o e => by rw [← hs4]; exact pushCells_keeps _ _ _ _ (Heap.get?_push_of_some _ e)
    have fpo : ∀ {σ' : L2.St} {H' : Hp} {s' : Shared}, Inv (X.blk s3 H3 scope ce fp) [] σ' H' s' → (∀ b ∈ fp, H' b = none) → ∀ b ∈ fp, FpOk (X.blk s3 H3 scope ce fp) [] H' b := fun {σ' H' s'} J' hn b hb =>
      ⟨hn b hb, (J'.ok.exf b hb).1, J'.ok.exfs b hb, .inl hb, (J'.ok.exf b hb).2, fun p hp => by cases (show p ∈ ([] : List (Addr × Obj)) from hp)⟩
    have loop : codeAny (model X.prog X.w) X.A (.compLoop (.DictComp kx vx [⟨tg, iter, ifs, 0⟩] scope pos) 0 (.ref it) (.ref A0) ce) (compPost (model X.prog X.w) X.A X.xe use Qf (.ref A0) s3.heap.objs.size) s4 := by
      refine compLoop_anyD (fun n s' => ∃ i H', Inv (X.blk s3 H3 scope ce fp) [] (L2.wipe σ (own.map (·.2))) H' s' ∧ tn i s'.heap ∧ (∀ b ∈ fp, H' b = none) ∧ W i n H') ?_ m0 ⟨0, H3, I4, st4, fun b hb => (f3 b hb).1.1, by rw [hH3]; exact w0⟩
      rintro n s5 ⟨i, H5, I5, st5, n5, w5⟩
      rcases turn i n H5 w5 with ⟨stop, qq⟩ | ⟨go, Nx, hNx, step⟩
      · refine thnF (T.done (X.blk s3 H3 scope ce fp) rfl rfl rfl hc i [] s5 _ H5 (fun _ _ => False) I5 (fpo I5 n5) st5 stop) fun r s6 ⟨hr, I6⟩ => ?_
        subst hr
        have I7 : Inv X pins σ H5 s6 := I3.call' (ch := fp) I6.os I6.base I6.hok I6.bare fun b hb => ⟨(f3 b hb).1.2.2.2.1, (f3 b hb).1.2.1, (f3 b hb).1.2.2.2.2.1, (f3 b hb).1.2.2.2.2.2⟩
        have nC : H5 s3.heap.objs.size = none := by rw [← cL]; exact I6.free
        obtain ⟨m, hn, _⟩ := I6.loc
        have hn : s6.heap.Ns ce.locals m := hn
        rw [cL] at hn
        exact hRR A0 s3.heap.objs.size s6 m H5 I7 qq hn (I3.fpOk (Nat.le_refl _) nC)
      · refine thnF (T.item (X.blk s3 H3 scope ce fp) rfl rfl rfl hc i [] s5 _ H5 (fun _ _ => False) I5 (fpo I5 n5) st5 go) fun r s6 ⟨u, hr, h6⟩ => ?_
        subst hr
        refine thnF h6 fun _ s7 ⟨x, H7, I7, r7, y7, st7, n7⟩ => ?_
        have I7' := I7.pinned (fpo I7 n7) (T.obj _ _ st7)
        refine thnF (pg.run _ s7 _ H7 x u _ I7' r7 (step x H7 y7)) fun _ s8 ⟨σ8, H8, I8, hw8, q8⟩ => ?_
        refine thnF (pt.run _ s8 σ8 H8 _ I8 q8) fun b s9 ⟨H9, I9, q9⟩ => ?_
        have fin : ∀ {s' : Shared} {H' : Hp}, Inv (X.blk s3 H3 scope ce fp) ([] ++ pinsAt fp s7.heap) σ8 H' s' → Nx H' → ∃ m, m < n ∧ ∃ i H', Inv (X.blk s3 H3 scope ce fp) [] (L2.wipe σ (own.map (·.2))) H' s' ∧ tn i s'.heap ∧ (∀ b ∈ fp, H' b = none) ∧ W i m H' := fun {s' H'} I' nx => by
          obtain ⟨m', hm, w'⟩ := hNx H' nx
          have pinned : ∀ b ∈ fp, ∀ o, s7.heap.get? b = some o → s'.heap.get? b = some o ∧ H' b = none := fun b hb o e =>
            let z := I'.pin (b, o) (List.mem_append_right _ (List.mem_append_right _ (mem_pinsAt hb e)))
            ⟨z.1, z.2.1⟩
          refine ⟨m', hm, i + 1, H', (I'.unpinned (pins := [])).weak (by rw [← hw8, wipe_length]) (fun j v e => ?_), T.keep _ _ _ st7 fun b hb o e => (pinned b hb o e).1, fun b hb => ?_, w'⟩
          · rw [← hw8] at e
            exact (wipe_some e).1
          · obtain ⟨o, e, _⟩ := T.obj _ _ st7 b hb
            exact (pinned b hb o e).2
        match b, q9 with
        | false, q9 => exact fin I9 q9
        | true, q9 =>
          refine thnF (pk.run _ s9 σ8 H9 _ I9 q9) fun z s10 ⟨yk, H10, I10, r10, q10⟩ => ?_
          refine thnF (pe.run _ s10 σ8 H10 _ I10 q10) fun z2 s11 ⟨yv, H11, I11, r11, H12, dp, nx⟩ => ?_
          exact dct_put (X := X.blk s3 H3 scope ce fp) (by show X.A.units + 1 < cLine; omega) I11 dp r10 r11 fun s12 I12 => fin I12 nx
    exact codeAny_compStart_dict loop (T.self X.A 0 _ _ _ st4 loop)
  rw [hs3] at goal
  exact goal
theorem pe_dcG (F : DK κ) {kx vx tg iter : Expr} {ifs : List Expr} {scope : Scope} {own : List (Str × Nat)} {pos : Pos} {wi : TI} {g : TG} {tt : TT} {tk tv : TE} (hu : X.A.units + 64 < cLine) (hc : X.calm = true) (hN : X.N.Nodup) (hi : PI X tg iter wi) (ok : BlkOk X.N X.env.scope scope own)
    (hg : ∀ (s : Shared) (H : Hp) (C : Addr) (cl : List (Str × Addr)) (fp : List Addr), PG (X.blk s H scope (compEnvC scope cl C X.env) fp) tg g) (ht : ∀ (s : Shared) (H : Hp) (C : Addr) (cl : List (Str × Addr)) (fp : List Addr), PTs (X.blk s H scope (compEnvC scope cl C X.env) fp) ifs tt)
    (hk : ∀ (s : Shared) (H : Hp) (C : Addr) (cl : List (Str × Addr)) (fp : List Addr), PE (X.blk s H scope (compEnvC scope cl C X.env) fp) kx tk)
    (he : ∀ (s : Shared) (H : Hp) (C : Addr) (cl : List (Str × Addr)) (fp : List Addr), PE (X.blk s H scope (compEnvC scope cl C X.env) fp) vx tv) (hs : ∀ x, foldedSetIterable iter X.env x = pure x := by intro _; rfl) :
    PE X (.DictComp kx vx [⟨tg, iter, ifs, 0⟩] scope pos) (tDcG F wi g tt tk tv (own.map (·.2))) := by
  constructor
  intro pins s σ H Q I rd
  rw [arm_eval_DictComp]
  refine dcG_core I F hu hc hN hi ok hg ht hk he hs rd fun D C s' m H' I' q hn f => ⟨m, hn, fun h'' sb => ?_⟩
  exact ⟨.ref D, H', I'.turned (t' := s'.toks) (fun b o hb e => (sb.2 b hb).trans e) f.1 f.2.1 f.2.2.2.1 f.2.2.2.2.1 f.2.2.2.2.2, rfl, q⟩
/-- name = {..} -/
theorem ps_setDcG (F : DK κ) {i : Nat} {y : Str} {py : Pos} {kx vx tg iter : Expr} {ifs : List Expr} {scope : Scope} {own : List (Str × Nat)} {pos spos : Pos} {wi : TI} {g : TG} {tt : TT} {tk tv : TE} (hu : X.A.units + 64 < cLine) (hc : X.calm = true) (hN : X.N.Nodup) (hy : X.N[i]? = some y) (hyl : X.env.scope.names.lookup y = some .local)
    (hsw : swapsWith (.DictComp kx vx [⟨tg, iter, ifs, 0⟩] scope pos) (some (.Name y py)) spos.line X.env = pure true) (hi : PI X tg iter wi) (ok : BlkOk X.N X.env.scope scope own)
    (hg : ∀ (s : Shared) (H : Hp) (C : Addr) (cl : List (Str × Addr)) (fp : List Addr), PG (X.blk s H scope (compEnvC scope cl C X.env) fp) tg g) (ht : ∀ (s : Shared) (H : Hp) (C : Addr) (cl : List (Str × Addr)) (fp : List Addr), PTs (X.blk s H scope (compEnvC scope cl C X.env) fp) ifs tt)
    (hk : ∀ (s : Shared) (H : Hp) (C : Addr) (cl : List (Str × Addr)) (fp : List Addr), PE (X.blk s H scope (compEnvC scope cl C X.env) fp) kx tk)
    (he : ∀ (s : Shared) (H : Hp) (C : Addr) (cl : List (Str × Addr)) (fp : List Addr), PE (X.blk s H scope (compEnvC scope cl C X.env) fp) vx tv) (hs : ∀ x, foldedSetIterable iter X.env x = pure x := by intro _; rfl) :
    PS X (.Assign [.Name y py] (.DictComp kx vx [⟨tg, iter, ifs, 0⟩] scope pos) spos) (tAsg (tDcG F wi g tt tk tv (own.map (·.2))) (gName i)) := by
  constructor
  intro pins s σ H D I h
  rw [exec_Assign_Name_used _ _ _ _ hsw]
  refine wpAny_bind (wpAny_standAt (wpAny_bind ?_))
  show wpAny _ X.A (do let _ ← comprehension (.DictComp kx vx [⟨tg, iter, ifs, 0⟩] scope pos) scope X.env (firstIterPos [⟨tg, iter, ifs, 0⟩] pos) newDict false (eval iter X.env) (some (assign (.Name y py) X.env))) _ _ s
  have h : tDcG F wi g tt tk tv (own.map (·.2)) σ H (fun x H1 => gName i x σ H1 D.nx) := h
  refine wpAny_bind (thn (dcG_core (Qf := fun _ s' => SP X pins D .next s') I F hu hc hN hi ok hg ht hk he hs h fun L C s' m H' I' q hn f => ?_) fun _ s' hq => wpAny_pure (wpAny_pure hq))
  show wpAny _ _ (assign (.Name y py) X.env (.ref L)) _ _ _
  refine wpAny_assign_Name (store_ok2 (v := V.ref L) I' hN hy (.inl hyl) rfl (fun s2 I2 ⟨a, sb, ha⟩ => ?_) (.inr hyl))
  have haC : C ≠ a := by
    rcases ha with z | z
    · rw [z]; exact f.2.1
    · exact fun e => f.2.2.2.2.1 y a z e.symm
  refine ⟨m, hn.sameBut sb haC, fun h3 sb3 => ?_⟩
  exact ⟨_, H', I2.turned (t' := s2.toks) (fun b o hb e => (sb3.2 b hb).trans e) f.1 f.2.1 f.2.2.2.1 f.2.2.2.2.1 f.2.2.2.2.2, q⟩
end
end M
set_option Elab.async false
set_option linter.all false
set_option maxRecDepth 100000
set_option maxHeartbeats 4000000
namespace M
open PySem L2
section
variable {κ : Type} [DecidableEq κ]
theorem putL_nodup {ks : List κ} {ds : List D} {q : κ} {d : D} (h : ks.Nodup) : (putL ks ds q d).1.Nodup := by
  unfold putL
  cases e : ks.idxOf? q with
  | some i => exact h
  | none =>
    rw [List.idxOf?_eq_none_iff] at e
    rw [List.nodup_append]
    exact ⟨h, by simp, fun a ha b hb z => by rw [List.mem_singleton] at hb; subst hb; exact e (z ▸ ha)⟩
theorem putL_len {ks : List κ} {ds : List D} {q : κ} {d : D} (h : ks.length = ds.length) : (putL ks ds q d).1.length = (putL ks ds q d).2.length := by
  unfold putL
  cases e : ks.idxOf? q <;> simp [h]
theorem putL_le {ks : List κ} {ds : List D} {q : κ} {d : D} : (putL ks ds q d).1.length ≤ ks.length + 1 := by
  unfold putL
  cases e : ks.idxOf? q <;> simp
def putAll (ps : List (κ × D)) : List κ × List D := ps.foldl (fun z p => putL z.1 z.2 p.1 p.2) ([], [])
theorem putAll_snoc (ps : List (κ × D)) (p : κ × D) : putAll (ps ++ [p]) = putL (putAll ps).1 (putAll ps).2 p.1 p.2 := by unfold putAll; rw [List.foldl_append]; rfl
theorem rev_ind' {α : Type} {P : List α → Prop} (h0 : P []) (h1 : ∀ xs x, P xs → P (xs ++ [x])) (xs : List α) : P xs := by
  rw [← List.reverse_reverse xs]
  induction xs.reverse with
  | nil => exact h0
  | cons x xs ih => rw [List.reverse_cons]; exact h1 _ _ ih
theorem putAll_nodup : ∀ ps : List (κ × D), (putAll ps).1.Nodup := rev_ind' (by simp [putAll]) fun xs x ih => by rw [putAll_snoc]; exact putL_nodup ih
theorem putAll_len : ∀ ps : List (κ × D), (putAll ps).1.length = (putAll ps).2.length := rev_ind' (by simp [putAll]) fun xs x ih => by rw [putAll_snoc]; exact putL_len ih
theorem putAll_le : ∀ ps : List (κ × D), (putAll ps).1.length ≤ ps.length := rev_ind' (by simp [putAll]) fun xs x ih => by
  rw [putAll_snoc]
  have := putL_le (ks := (putAll xs).1) (ds := (putAll xs).2) (q := x.1) (d := x.2)
  rw [List.length_append]; simp; omega
end
theorem swT_dc {kx vx : Expr} {gens : List Comprehension} {scope : Scope} {pos py : Pos} {l : Nat} {y : Str} {env : PySem.Env} (hk : env.scope.kind = .function) (hy : env.scope.names.lookup y = some .local) (hl : (py.line == pos.line) = true)
    (ha : (scope.names.any fun (n, k) => n == y && (k == .local || k == .cell)) = false) : swapsWith (.DictComp kx vx gens scope pos) (some (.Name y py)) l env = pure true := by
  have ky : env.kindOf y = some .local := hy
  have hb : env.blockKind = .function := by unfold Env.blockKind; rw [hk]; rfl
  unfold swapsWith
  simp only [hb, ky, ha, Expr.pos, hl]
  rfl
def dcF (ga : FG) (t : FT) (fk fv : FE) (S : Env) : List D → R (List (D × D))
  | [] => .ok []
  | d :: ds => (ga d S).nox >>= fun S1 => (t S1).nox >>= fun b => if b then (fk S1).nox >>= fun y => (fv S1).nox >>= fun z => dcF ga t fk fv S ds >>= fun ys => .ok ((y, z) :: ys) else dcF ga t fk fv S ds
theorem dcF_exc {ga : FG} {t : FT} {fk fv : FE} {S : Env} {x : Exc} : ∀ ds, dcF ga t fk fv S ds ≠ .exc x
  | [] => by intro h; cases h
  | d :: ds => by
    intro h
    unfold dcF at h
    obtain ⟨S1, _, h⟩ := nox_exc h
    obtain ⟨b, _, h⟩ := nox_exc h
    cases b with
    | false => exact dcF_exc ds h
    | true =>
      rw [if_pos rfl] at h
      obtain ⟨y, _, h⟩ := nox_exc h
      obtain ⟨z, _, h⟩ := nox_exc h
      cases e4 : dcF ga t fk fv S ds with
      | ok ys => rw [e4] at h; cases h
      | exc y => exact dcF_exc ds e4
      | fail => rw [e4] at h; cases h
section
variable {κ : Type} [DecidableEq κ]
def keysOf (F : DK κ) : List (D × D) → Option (List (κ × D))
  | [] => some []
  | p :: ps => match F.key p.1, keysOf F ps with
    | some q, some qs => some ((q, p.2) :: qs)
    | _, _ => none
def dcEnd (F : DK κ) (qs : List (κ × D)) (ps : List (D × D)) : R D := match keysOf F ps with
  | some rs => if (qs ++ rs).length ≤ 900 then .ok (F.mkd (putAll (qs ++ rs)).1 (putAll (qs ++ rs)).2) else .fail
  | none => .fail
def dcE (F : DK κ) (fi : FI) (ga : FG) (t : FT) (fk fv : FE) (vs : List Nat) : FE := fun S => fi S >>= fun ds => dcF ga t fk fv (wipeS S vs) ds >>= fun ps => dcEnd F [] ps
theorem dc_key {F : DK κ} {c : Cf} {G H : Hp} {S : Env} {σ : L2.St} {Q : VK} {qs : List (κ × D)} {y z : D} {ps : List (D × D)} (p : PostE c .fr G S σ H Q (dcEnd F qs ((y, z) :: ps))) :
    ∃ q, F.key y = some q ∧ qs.length < 901 ∧ PostE c .fr G S σ H Q (dcEnd F (qs ++ [(q, z)]) ps) := by
  unfold dcEnd at p
  simp only [keysOf] at p
  cases e1 : F.key y with
  | none => rw [e1] at p; exact p.elim
  | some q =>
    cases e2 : keysOf F ps with
    | none => rw [e1, e2] at p; exact p.elim
    | some rs =>
      rw [e1, e2] at p
      dsimp only at p
      by_cases hl : (qs ++ (q, z) :: rs).length ≤ 900
      · rw [if_pos hl] at p
        refine ⟨q, rfl, by simp at hl; omega, ?_⟩
        unfold dcEnd
        rw [e2]
        dsimp only
        have e : qs ++ [(q, z)] ++ rs = qs ++ (q, z) :: rs := by simp
        rw [e, if_pos hl]
        exact p
      · rw [if_neg hl] at p; exact p.elim
theorem dc_go {F : DK κ} {c : Cf} {t : FT} {ki gs vs : List Nat} {fi : FI} {ga : FG} {fk fv : FE} {σ : L2.St} {H : Hp} {Q : VK} {gi : TG} {tt : TT} {tk tv : TE} (hg : ∀ v σ H Q, RdG c.nx gs ga v σ H Q → gi v σ H Q) (ht : ∀ σ H Q, RdT c.nx t σ H Q → tt σ H Q)
    (hk : ∀ σ H Q, RdE c.nx .st fk σ H Q → tk σ H Q) (hv : ∀ σ H Q, RdE c.nx .st fv σ H Q → tv σ H Q) (hgs : ∀ i, i ∈ gs → i ∈ vs) (q : RdE c .fr (dcE F fi ga t fk fv vs) σ H Q) : tDcG F (RdI c ki fi) gi tt tk tv vs σ H Q := by
  obtain ⟨G, S, rel, p⟩ := q
  refine ⟨G, S, rel, ?_⟩
  have p : PostE c .fr G S σ H Q (fi S >>= fun ds => dcF ga t fk fv (wipeS S vs) ds >>= fun ps => dcEnd F [] ps) := p
  cases e0 : fi S with
  | exc x => rw [e0] at p; exact p
  | fail => rw [e0] at p; exact p
  | ok ds =>
    rw [e0, R.ok_bind] at p
    intro J G1 H1 sp it Dl hD
    have relb := ((rel.grow sp).wipe vs).cw (W := liftX E0)
    have hD0 : H Dl = none := sp.h.free hD
    refine ⟨fun i m H2 => m = ds.length - i ∧ i ≤ ds.length ∧ ∃ G2 qs av, Step G1 H1 G2 H2 ∧ G2 Dl = none ∧ H2 Dl = some (F.ho ((putAll qs).1.zip av)) ∧ RDs c.k G2 (putAll qs).2 av ∧
        PostE c .fr G S σ H Q (dcF ga t fk fv (wipeS S vs) (ds.drop i) >>= fun ps => dcEnd F qs ps),
      ⟨_, rfl, Nat.zero_le _, G1, [], [], Step.new' sp.gh hD, sp.gh.free hD, upd_same, .nil, by simpa using p⟩, ?_⟩
    rintro i m H2 ⟨rfl, hle, G2, qs, av, sp2, hGD, hHD, hr, p2⟩
    have rel2 : Rel c.nx G2 (wipeS S vs) (L2.wipe σ vs) H2 := relb.grow sp2
    have itm := it G2 H2 sp2.g sp2.gh fun j hj x ow => by
      obtain ⟨_, _, o, _, ho, _⟩ := (rel.grow sp).own ow
      rw [ho, sp2.h _ _ ho]
    have nD : ∀ {G6 H6 : Hp}, Step G2 H2 G6 H6 → G6 Dl = none ∧ H6 Dl = some (F.ho ((putAll qs).1.zip av)) := fun {G6 H6} z => by
      refine ⟨?_, z.h _ _ hHD⟩
      cases q : G6 Dl with
      | none => rfl
      | some o =>
        rcases z.gr _ _ q with w | w
        · rw [hGD] at w; cases w
        · rw [hHD] at w; cases w
    by_cases hlt : i < ds.length
    · obtain ⟨d, hd⟩ : ∃ d, ds[i]? = some d := ⟨ds[i], List.getElem?_eq_getElem hlt⟩
      have hdrop : ds.drop i = d :: ds.drop (i + 1) := by
        rw [List.drop_eq_getElem_cons hlt]; congr 1; rw [List.getElem?_eq_getElem hlt] at hd; exact Option.some.inj hd
      rw [hdrop] at p2
      obtain ⟨hgo, hy⟩ := itm.2 i d hd
      refine .inr ⟨hgo, fun H' => ∃ G3 qs av, Step G1 H1 G3 H' ∧ G3 Dl = none ∧ H' Dl = some (F.ho ((putAll qs).1.zip av)) ∧ RDs c.k G3 (putAll qs).2 av ∧
        PostE c .fr G S σ H Q (dcF ga t fk fv (wipeS S vs) (ds.drop (i + 1)) >>= fun ps => dcEnd F qs ps), fun H' ⟨G3, r3⟩ => ⟨_, by omega, rfl, hlt, G3, r3⟩, fun x H3 hx => ?_⟩
      obtain ⟨G3, sp3, hd3⟩ := hy x H3 hx
      refine hg x _ H3 _ ⟨G3, wipeS S vs, d, rel2.grow sp3, hd3, ?_⟩
      unfold dcF at p2
      cases e1 : ga d (wipeS S vs) with
      | exc x => rw [e1] at p2; exact p2.elim
      | fail => rw [e1] at p2; exact p2.elim
      | ok S1 =>
        rw [e1, R.nox_ok, R.ok_bind] at p2
        intro G4 σ4 H4 sp4 rel4 f4
        refine ⟨wipe_eq (by rw [f4.len, wipe_length]) fun j hj => f4.sg j fun z => hj (hgs j z), ht σ4 H4 _ ⟨G4, S1, rel4, ?_⟩⟩
        cases e2 : t S1 with
        | exc x => rw [e2] at p2; exact p2.elim
        | fail => rw [e2] at p2; exact p2.elim
        | ok b =>
          rw [e2, R.nox_ok, R.ok_bind] at p2
          intro G5 H5 sp5
          have spA : Step G2 H2 G5 H5 := (sp3.trans sp4).trans sp5
          cases b with
          | false =>
            rw [if_neg Bool.false_ne_true] at p2 ⊢
            exact ⟨G5, qs, av, sp2.trans spA, (nD spA).1, (nD spA).2, hr.mono spA.g, p2⟩
          | true =>
            rw [if_pos rfl] at p2 ⊢
            refine hk σ4 H5 _ ⟨G5, S1, rel4.grow sp5, ?_⟩
            cases e3 : fk S1 with
            | exc x => rw [e3] at p2; exact p2.elim
            | fail => rw [e3] at p2; exact p2.elim
            | ok y =>
              rw [e3, R.nox_ok, R.ok_bind] at p2
              intro v G6 H6 sp6 ry
              have ry : RD c.k G6 y v := ry
              refine hv σ4 H6 _ ⟨G6, S1, rel4.grow (sp5.trans sp6), ?_⟩
              cases e5 : fv S1 with
              | exc x => rw [e5] at p2; exact p2.elim
              | fail => rw [e5] at p2; exact p2.elim
              | ok z =>
                rw [e5, R.nox_ok, R.ok_bind] at p2
                intro u G7 H7 sp7 rz
                have rz : RD c.k G7 z u := rz
                have spB := (spA.trans sp6).trans sp7
                have nB := nD spB
                cases e4 : dcF ga t fk fv (wipeS S vs) (ds.drop (i + 1)) with
                | exc x => exact absurd e4 (dcF_exc _)
                | fail => rw [e4] at p2; exact p2.elim
                | ok ps =>
                  rw [e4] at p2
                  obtain ⟨qk, hqk, hql, p3⟩ := dc_key (ps := ps) p2
                  have hz : ((putAll qs).1.zip av).length < sizeLine := by
                    have h1 := putAll_le qs
                    have h2 : (901 : Nat) < sizeLine := by rw [sizeLine_eq]; decide
                    rw [List.length_zip]; exact Nat.lt_of_le_of_lt (Nat.min_le_left _ _) (by omega)
                  obtain ⟨av', e6, r', l'⟩ := putL_zip (q := qk) (putAll_nodup qs) (putAll_len qs) (hr.mono spB.g) rz
                  refine ⟨_, F.put sp7.gh hqk (ry.mono sp7.g) nB.2 hz, ?_⟩
                  have spC : Step G1 H1 G7 (upd H7 Dl (F.ho (putK ((putAll qs).1.zip av) qk u))) := by
                    have w := sp2.trans spB
                    exact ⟨w.g, w.h.upd hD, w.gh.upd nB.1, w.gr⟩
                  refine ⟨G7, qs ++ [(qk, z)], av', spC, nB.1, ?_, ?_, ?_⟩
                  · rw [upd_same, e6, putAll_snoc]
                  · rw [putAll_snoc]; exact r'
                  · rw [R.ok_bind]; exact p3
    · have hi : i = ds.length := by omega
      subst hi
      rw [List.drop_length] at p2
      refine .inl ⟨itm.1 _ (Nat.le_refl _), ?_⟩
      have p2 : PostE c .fr G S σ H Q (dcEnd F qs []) := p2
      unfold dcEnd at p2
      simp only [keysOf, List.append_nil] at p2
      by_cases hl : qs.length ≤ 900
      · rw [if_pos hl] at p2
        exact p2 _ G2 H2 (sp.trans sp2) ⟨Dl, _, rfl, hGD, hD0, hHD, F.cont (putAll_len qs) hr⟩
      · rw [if_neg hl] at p2; exact p2.elim
/-- {k: v for target in iter if ..} -/
theorem d_dc {X : Cx} {c : Cf} {tg : Expr} {t : FT} {pos : Pos} (F : DK κ) {kx vx iter : Expr} {ifs : List Expr} {scope : Scope} (own : List (Str × Nat)) {ki gs : List Nat} {fi : FI} {ga : FG} {fk fv : FE} (hu : X.A.units + 64 < cLine) (hc : X.calm = true) (hN : X.N.Nodup) (hi : PI' X c ki tg iter fi) (ok : BlkOk X.N X.env.scope scope own)
    (hg : ∀ (s : Shared) (H : Hp) (C : Addr) (cl : List (Str × Addr)) (fp : List Addr), PG' (X.blk s H scope (compEnvC scope cl C X.env) fp) c.nx gs tg ga) (ht : ∀ (s : Shared) (H : Hp) (C : Addr) (cl : List (Str × Addr)) (fp : List Addr), PTs' (X.blk s H scope (compEnvC scope cl C X.env) fp) c.nx ifs t)
    (hk : ∀ (s : Shared) (H : Hp) (C : Addr) (cl : List (Str × Addr)) (fp : List Addr), PE' (X.blk s H scope (compEnvC scope cl C X.env) fp) c.nx .st kx fk) (hv : ∀ (s : Shared) (H : Hp) (C : Addr) (cl : List (Str × Addr)) (fp : List Addr), PE' (X.blk s H scope (compEnvC scope cl C X.env) fp) c.nx .st vx fv)
    (hgs : ∀ i, i ∈ gs → i ∈ own.map (·.2) := by decide) (hs : ∀ x, foldedSetIterable iter X.env x = pure x := by intro _; rfl) :
    PE' X c .fr (.DictComp kx vx [⟨tg, iter, ifs, 0⟩] scope pos) (dcE F fi ga t fk fv (own.map (·.2))) :=
  peI (pe_dcG F hu hc hN hi ok hg ht hk hv hs) fun σ H Q q => dc_go (fun _ _ _ _ z => z) (fun _ _ _ z => z) (fun _ _ _ z => z) (fun _ _ _ z => z) hgs q
/-- name = {..}: the slot takes it, stable -/
theorem s_dcZ (i : Nat) {X : Cx} {c : Cf} {tg : Expr} {t : FT} {fr : Bool} {pos py spos : Pos} {y : Str} (F : DK κ) {kx vx iter : Expr} {ifs : List Expr} {scope : Scope} (own : List (Str × Nat)) {ki gs : List Nat} {fi : FI} {ga : FG} {fk fv : FE} (hu : X.A.units + 64 < cLine) (hc : X.calm = true) (hN : X.N.Nodup) (hi : PI' X c ki tg iter fi) (ok : BlkOk X.N X.env.scope scope own)
    (hg : ∀ (s : Shared) (H : Hp) (C : Addr) (cl : List (Str × Addr)) (fp : List Addr), PG' (X.blk s H scope (compEnvC scope cl C X.env) fp) c.nx gs tg ga) (ht : ∀ (s : Shared) (H : Hp) (C : Addr) (cl : List (Str × Addr)) (fp : List Addr), PTs' (X.blk s H scope (compEnvC scope cl C X.env) fp) c.nx ifs t)
    (hk : ∀ (s : Shared) (H : Hp) (C : Addr) (cl : List (Str × Addr)) (fp : List Addr), PE' (X.blk s H scope (compEnvC scope cl C X.env) fp) c.nx .st kx fk) (hv : ∀ (s : Shared) (H : Hp) (C : Addr) (cl : List (Str × Addr)) (fp : List Addr), PE' (X.blk s H scope (compEnvC scope cl C X.env) fp) c.nx .st vx fv)
    (hy : X.N[i]? = some y := by rfl) (hyl : X.env.scope.names.lookup y = some .local := by rfl) (hsw : swapsWith (.DictComp kx vx [⟨tg, iter, ifs, 0⟩] scope pos) (some (.Name y py)) spos.line X.env = pure true := by exact swT_dc rfl rfl rfl (by decide +kernel))
    (hgs : ∀ i, i ∈ gs → i ∈ own.map (·.2) := by decide) (hs : ∀ x, foldedSetIterable iter X.env x = pure x := by intro _; rfl) :
    PS' X c fr [i] (.Assign [.Name y py] (.DictComp kx vx [⟨tg, iter, ifs, 0⟩] scope pos) spos) (sSet i (dcE F fi ga t fk fv (own.map (·.2)))) :=
  psI (ps_setDcG F hu hc hN hy hyl hsw hi ok hg ht hk hv hs) fun Dn σ H q => dc_go (fun _ _ _ _ z => z) (fun _ _ _ z => z) (fun _ _ _ z => z) (fun _ _ _ z => z) hgs (setF_go q)
end
end M
set_option Elab.async false
set_option linter.all false
set_option maxRecDepth 100000
set_option maxHeartbeats 4000000
namespace M
open PySem L2
variable {X : Cx} {c : Cf} {kd k1 k2 k3 : Kd} {e o : Expr} {f g h : FE} {pos apos cpos : Pos} {k : Kn}
/-- xs.index(y) -/
def idxD (x y : D) : R D := match x with
  | .lst ds => if dok 60 y && doks 59 ds then (match ds.findIdx? fun z => deq z y with | some j => .ok (.int j) | none => .fail) else .fail
  | _ => .fail
def isLst : D → Bool
  | .lst _ => true
  | _ => false
def eIdx (f g : FE) : FE := fun S => f S >>= fun x => if isLst x then g S >>= fun y => (idxD x y).nox else .fail
theorem toPs_get : ∀ {ds : List D} {j : Nat} {d : D}, ds[j]? = some d → (D.toPs ds)[j]? = some d.toP
  | [], _, _, h => by simp at h
  | d :: ds, 0, _, h => by simp at h; subst h; simp [D.toPs]
  | d :: ds, j + 1, _, h => by simp only [D.toPs]; simpa using toPs_get (ds := ds) (by simpa using h)
theorem toPs_back : ∀ {ds : List D} {j : Nat} {z : PyData}, (D.toPs ds)[j]? = some z → ∃ d, ds[j]? = some d ∧ z = d.toP
  | [], _, _, h => by simp [D.toPs] at h
  | d :: ds, 0, _, h => by simp [D.toPs] at h; exact ⟨d, by simp, h.symm⟩
  | d :: ds, j + 1, _, h => by simp only [D.toPs] at h; simpa using toPs_back (ds := ds) (by simpa using h)
theorem idx_go (hk : k.K = X.K) {G H : Hp} {x y : D} {u v : V} {d : D} {Q : VK} (ex : Ex G H) (nx : Now k G H x u) (ny : Now k G H y v) (hg : idxD x y = .ok d) (q : ∀ j : Int, d = .int j → Q (.int j) H) : rIndexD X.K u [v] H Q := by
  cases x with
  | lst ds =>
    simp only [idxD] at hg
    split at hg
    · rename_i hf
      simp only [Bool.and_eq_true] at hf
      split at hg
      · rename_i j hj
        cases hg
        obtain ⟨a, vs, rfl, ha, r⟩ := nx.lst ex
        have hl : dok 60 (.lst ds) = true := by simp only [dok]; exact hf.2
        have ds' : SeqAt.shaped (.list (D.toPs ds)) = true := by
          have := dok_shaped hl
          simpa only [D.toP] using this
        rw [List.findIdx?_eq_some_iff_getElem] at hj
        obtain ⟨h1, h2, h3⟩ := hj
        refine ⟨a, v, y.toP, D.toPs ds, j, (ds[j]).toP, rfl, rfl, hk ▸ .lst (SqL.of ha) ((r.mono ex).dp 59 hf.2), hk ▸ (ny.rd ex).dp 60 hf.1, ds', dok_shaped hf.1, toPs_get (by simp [h1]), ?_, fun m z' hm hz => ?_, q _ rfl⟩
        · rw [deq_eqv 59 60 _ _ (doks_mem hf.2 (List.getElem_mem h1)) hf.1]; exact h2
        · obtain ⟨d', hd', rfl⟩ := toPs_back hz
          have hm2 : d' ∈ ds := List.mem_of_getElem? hd'
          rw [deq_eqv 59 60 _ _ (doks_mem hf.2 hm2) hf.1]
          have := h3 m hm
          obtain ⟨hlt, e⟩ := List.getElem?_eq_some_iff.mp hd'
          subst e
          simpa using this
      · cases hg
    · cases hg
  | _ => simp [idxD] at hg
theorem d_idx (hk : c.k.K = X.K) (hu : X.A.units + 65 < cLine) (ho : PE' X c k1 o f) (he : PE' X c k2 e g)
    (h3 : starEach [e] X.env = [(false, eval e X.env)] := by rfl) (hb : attributeBase o "index" X.env (eval o X.env) = eval o X.env := by rfl) (h2 : (apos.endLine == cpos.line) = true := by rfl) :
    PE' X c .st (.Call (.Attribute o "index" apos) [e] [] cpos) (eIdx f g) :=
  peI (pe_bm PySem.F.plainAttrs_list PySem.F.slot_list_index PySem.F.type_list_index (mt_indexD hu) ho (pa_cons he pa_nil h3) hb (by rw [h3]; rfl) h2 h3 rfl) fun σ H Q ⟨G, S, rel, p⟩ => by
    refine rdE_go (g := fun x => if isLst x then g S >>= fun y => (idxD x y).nox else .fail) (Post := PostE c .st G S σ H Q) rel p (fun _ z => z) (fun z => z) fun d1 v1 G1 H1 s1 q1 p1 => ?_
    by_cases hl : isLst d1 = true
    · rw [if_pos hl] at p1
      have ty : tyV X.K "list" v1 H1 := by
        cases d1 <;> simp only [isLst] at hl <;> first | (cases hl; done) | skip
        obtain ⟨a, vs, rfl, ha, r⟩ := q1.now.lst s1.gh
        exact .inl ⟨rfl, vs, SqL.of ha⟩
      refine ⟨ty, ?_⟩
      refine rdE_go (g := fun y => (idxD d1 y).nox) (Post := PostE c .st G S σ H Q) (rel.grow s1) p1 (fun _ z => z) (fun z => z) fun d2 v2 G2 H2 s2 q2 p2 => ?_
      cases e : idxD d1 d2 with
      | exc x => rw [e] at p2; exact p2.elim
      | fail => rw [e] at p2; exact p2.elim
      | ok d =>
        rw [e] at p2
        refine idx_go hk s2.gh (q1.now.grow s2) q2.now e fun j hj => ?_
        subst hj
        exact p2 _ G2 H2 (s1.trans s2) (.int _)
    · rw [if_neg hl] at p1; exact p1.elim
end M
set_option Elab.async false
set_option linter.all false
set_option maxRecDepth 100000
set_option maxHeartbeats 4000000
namespace M
open PySem L2 PySem.W
/-! ### x in o, o an instance whose class has its own __contains__ -/
section
variable {prog : Program} {w : World} {A : Around} {E : Value → Shared → Prop} {s : Shared} {K : PySem.W.Frag} {a C f : Addr} {ox : Obj} {od : Option Obj} {x : Value}
theorem has_own {M : Model} {Q : Bool → Shared → Prop} (X : K.In s.heap) (I : InstAt s.heap a ox C od) (hs : findIn K (.ref C) "__contains__" = some (some (.ref f))) (hf : isFn K (.ref f) = true)
    (h : wpAny M A (call (.ref f) [.ref a, x]) (fun r s' => wpAny M A (truthy r) Q E s') E s) : wpAny M A (contains (.ref a) x) Q E s := by
  unfold contains
  refine wpAny_holding ?_
  have e : stdlibNamesSay? (.ref a) x = none := rfl
  rw [e]
  refine wpAny_bind (wpAny_bind (I.type.here ((looks_findIn X hs).here ?_)))
  have e2 : (some (Value.ref f) == some Value.none) = false := rfl
  simp only [e2, Bool.false_eq_true, if_false]
  refine wpAny_bind ?_
  unfold callSpecialUnlessNone?
  refine wpAny_bind (wpAny_bind (I.type.here ((looks_findIn X hs).here ?_)))
  refine wpAny_holding (wpAny_bind ((bind_fn X _ (beq_iff_eq.mp hf)).here ?_))
  have e3 : (Value.ref f == Value.none) = false := rfl
  simp only [e3, Bool.false_eq_true, if_false]
  exact wpAny_bind (wpAny_mono h (fun v s' h' => wpAny_pure h') fun _ _ h' => h')
end
section
variable {X : Cx} {k : Kn} {lv m' ci : Nat} {den : List D → R D}
def rHas (k : Kn) (C : Addr) (den : List D → R D) (neg : Bool) : R2 := fun x y H Q => ∃ a dx fs, y = .ref a ∧ H a = some (.ins C dx fs) ∧ SpF k false 2 den [.ref a, x] H (fun v H' => ∃ b, v = .bl b ∧ Q (.bl (b != neg)) H') E0
theorem op_has {C f : Addr} {fd : FuncData} {ps : List Str} (F : FnOk X.prog X.w X.K X.mg X.base CX0 lv f fd ps (SpF k false 2 den)) (hr : Room lv X.A) (hm : Meth X.K C "__contains__" f) (hb : Binds X.K fd ps []) (neg : Bool) :
    OpR X (compareOp (if neg then .NotIn else .In)) (rHas k C den neg) := by
  intro pins s σ H x y v u Q I rx ry h
  obtain ⟨a, dx, fs, rfl, ha, sp⟩ := h
  cases (show u = Value.ref a from ry)
  obtain ⟨mA, J, _⟩ := ins_get I.hok ha
  obtain ⟨od, J, _⟩ := J.look
  have go : wpAny (model X.prog X.w) X.A (contains (.ref a) v) (fun b s' => EP X pins σ Q (.bool (b != neg)) s') X.xe s := by
    refine has_own I.kIn J hm.at_ hm.fn (thn (run_fn (Q := fun v H' => ∃ b, v = .bl b ∧ Q (.bl (b != neg)) H') (us := [.ref a, v]) (vs := [.ref a, x]) (dvs := []) (ds := []) F hr hb .nil pass0 I (.cons rfl (.cons rx .nil)) (by simpa using sp)) fun w s' hw => ?_)
    obtain ⟨z, H', I', rz, b, ez, q⟩ := hw
    subst ez
    cases (show w = Value.bool b from rz)
    exact wpAny_pure ⟨.bl (b != neg), H', I', rfl, q⟩
  cases neg with
  | false =>
    show wpAny _ _ (do return Value.bool (← contains (.ref a) v)) _ _ s
    exact wpAny_bind (thn go fun b s' q => wpAny_pure (by simpa using q))
  | true =>
    show wpAny _ _ (do return Value.bool (!(← contains (.ref a) v))) _ _ s
    exact wpAny_bind (thn go fun b s' q => wpAny_pure (by
      have e : (b != true) = !b := by cases b <;> rfl
      rw [e] at q
      exact q))
end
section
variable {X : Cx} {c : Cf} {a b : Expr} {f g : FE} {pos : Pos} {den : List D → R D}
def hasB (neg : Bool) : D → R D
  | .bl b => .ok (.bl (b != neg))
  | _ => .fail
/-- x in o, x not in o -/
def eHas (ci : Nat) (den : List D → R D) (neg : Bool) (f g : FE) : FE := fun S => f S >>= fun x => g S >>= fun o => if o.isObj ci then (den [o, x]).nox >>= hasB neg else .fail
theorem has_go {C : Addr} {nm : List Str} {ci : Nat} {neg : Bool} {σ : L2.St} {H : Hp} {Q : VK} (hcl : c.k.cl ci = some (C, nm)) (q : RdE c .st (eHas ci den neg f g) σ H Q) : RdE c .st f σ H fun x H1 => RdE c .st g σ H1 fun y H2 => rHas c.k C den neg x y H2 Q := by
  obtain ⟨G, S, rel, p⟩ := q
  refine rdE_go (g := fun x => g S >>= fun o => if o.isObj ci then (den [o, x]).nox >>= hasB neg else .fail) (Post := PostE c .st G S σ H Q) rel p (fun _ z => z) (fun z => z) fun d1 v1 G1 H1 s1 q1 p1 => ?_
  refine rdE_go (g := fun o => if o.isObj ci then (den [o, d1]).nox >>= hasB neg else .fail) (Post := PostE c .st G S σ H Q) (rel.grow s1) p1 (fun _ z => z) (fun z => z) fun d2 v2 G2 H2 s2 q2 p2 => ?_
  by_cases ho : d2.isObj ci = true
  · rw [if_pos ho] at p2
    have q1 : RD c.k G1 d1 v1 := q1
    have q2 : RD c.k G2 d2 v2 := q2
    cases d2 with
    | obj c' ds =>
      have hc : c' = ci := by simpa [D.isObj] using ho
      subst hc
      obtain ⟨a', C', dx, nm', vs', rfl, hcl', hH, _⟩ := (Now.obj s2.gh (.inl q2))
      rw [hcl] at hcl'
      cases hcl'
      refine ⟨a', dx, _, rfl, hH, rfl, G2, [.obj c' ds, d1], s2.gh, .cons q2 (.cons (q1.mono s2.g) .nil), ?_⟩
      cases e : den [.obj c' ds, d1] with
      | exc x => rw [e] at p2; exact p2.elim
      | fail => rw [e] at p2; exact p2.elim
      | ok r =>
        rw [e, R.nox_ok, R.ok_bind] at p2
        cases r <;> first | exact p2.elim | skip
        rename_i bb
        have p2 : PostE c .st G S σ H Q (.ok (.bl (bb != neg))) := p2
        intro v G' H' s3 r3
        have r3 : RD c.k G' (.bl bb) v := r3
        cases r3
        exact ⟨bb, rfl, p2 _ G' H' ((s1.trans s2).trans s3) (.bl _)⟩
    | _ => simp [D.isObj] at ho
  · rw [if_neg ho] at p2; exact p2.elim
theorem d_has {lv m' ci : Nat} (neg : Bool) (F : Method X.prog X.w X.K X.mg X.base c.k lv ci "__contains__" 2 false den) (hr : Room m' X.A) (hle : lv ≤ m') (ha : PE' X c .st a f) (hb : PE' X c .st b g) (hm : behindInMarks (if neg then .NotIn else .In) b = false := by rfl) :
    PE' X c .st (.Compare a [if neg then .NotIn else .In] [b] pos) (eHas ci den neg f g) := by
  obtain ⟨C, fa', fd, ps, nm, hn, hcl, hmn, cl, mt, ok, bd⟩ := F.ex
  exact peI (pe_cmpR (op_has ok (hr.mono hle) mt bd neg) ha hb hm) fun σ H Q q => has_go hcl q
theorem d_hasT {lv m' ci : Nat} (neg : Bool) (F : Method X.prog X.w X.K X.mg X.base c.k lv ci "__contains__" 2 false den) (hr : Room m' X.A) (hle : lv ≤ m') (ha : PE' X c .st a f) (hb : PE' X c .st b g) (hm : behindInMarks (if neg then .NotIn else .In) b = false := by rfl) :
    PT' X c (.Compare a [if neg then .NotIn else .In] [b] pos) (tB' (eHas ci den neg f g)) := by
  obtain ⟨C, fa', fd, ps, nm, hn, hcl, hmn, cl, mt, ok, bd⟩ := F.ex
  exact ptI (pt_cmpR (op_has ok (hr.mono hle) mt bd neg) ha hb hm) fun σ H Q q => tB_go (t := tOp (rHas c.k C den neg) (RdE c .st f) (RdE c .st g)) (fun σ H Q q => has_go hcl q) q
theorem d_hasInT {lv m' ci : Nat} (F : Method X.prog X.w X.K X.mg X.base c.k lv ci "__contains__" 2 false den) (hr : Room m' X.A) (hle : lv ≤ m') (ha : PE' X c .st a f) (hb : PE' X c .st b g) (hm : behindInMarks .In b = false := by rfl) :
    PT' X c (.Compare a [.In] [b] pos) (tB' (eHas ci den false f g)) := d_hasT false F hr hle ha hb hm
theorem d_hasNiT {lv m' ci : Nat} (F : Method X.prog X.w X.K X.mg X.base c.k lv ci "__contains__" 2 false den) (hr : Room m' X.A) (hle : lv ≤ m') (ha : PE' X c .st a f) (hb : PE' X c .st b g) (hm : behindInMarks .NotIn b = false := by rfl) :
    PT' X c (.Compare a [.NotIn] [b] pos) (tB' (eHas ci den true f g)) := d_hasT true F hr hle ha hb hm
theorem d_hasIn {lv m' ci : Nat} (F : Method X.prog X.w X.K X.mg X.base c.k lv ci "__contains__" 2 false den) (hr : Room m' X.A) (hle : lv ≤ m') (ha : PE' X c .st a f) (hb : PE' X c .st b g) (hm : behindInMarks .In b = false := by rfl) :
    PE' X c .st (.Compare a [.In] [b] pos) (eHas ci den false f g) := d_has false F hr hle ha hb hm
theorem d_hasNi {lv m' ci : Nat} (F : Method X.prog X.w X.K X.mg X.base c.k lv ci "__contains__" 2 false den) (hr : Room m' X.A) (hle : lv ≤ m') (ha : PE' X c .st a f) (hb : PE' X c .st b g) (hm : behindInMarks .NotIn b = false := by rfl) :
    PE' X c .st (.Compare a [.NotIn] [b] pos) (eHas ci den true f g) := d_has true F hr hle ha hb hm
end
end M
set_option Elab.async false
set_option linter.all false
set_option maxRecDepth 100000
set_option maxHeartbeats 4000000
namespace M
open PySem L2 PyProof.Rows
open PySem.Sem (wp)
theorem meets_bool_tup (l : Addr) (items : Array Value) (hfit : (items.size : Int) < 2 ^ 63) :
    Meets (Builtin.«bool.__new__» ⟨[.type "bool", .ref l], []⟩) (fun _ R s => IsTup s.heap l items ∧ R (.ok (.ret (.bool (!items.isEmpty)))) { s with toks := s.toks + 1 + 1 }) :=
  Meets.of_wp fun prog w A R s hs => by
    obtain ⟨hl, hs⟩ := hs
    obtain ⟨hp, g, d, tk, os⟩ := s
    have f1 := F.conv_sub_bool
    repeat (any_goals (first | assumption | (with_reducible refine truthy_tuple hl hfit ?_) | wp_step))
    all_goals first | exact ⟨_, rfl, hs⟩ | exact hs | skip
theorem call_boolT {X : Cx} : CallR X (.type "bool") (fun xs H Q => ∃ (a : Addr) (zs : List V), xs = [.ref a] ∧ SqT X.K H a zs ∧ Q (.bl (!zs.isEmpty)) H) := by
  intro pins s σ H xs us Q I r h
  obtain ⟨a, zs, rfl, hq, q⟩ := h
  obtain rfl := Vals.ref1 r
  obtain ⟨its, rv, pl, hz⟩ := I.tuple hq
  have hl := line63
  have hlen := rv.length
  refine call_bool_1 (meets_bool_tup a its.toArray (by simp only [List.size_toArray]; omega)) ⟨pl, rfl, ?_⟩
  exact ⟨.bl (!zs.isEmpty), H, I.tok _, by rw [isEmpty_of rv]; rfl, q⟩
def boolD : D → R D
  | .lst ds => .ok (.bl (!ds.isEmpty))
  | .tup ds => .ok (.bl (!ds.isEmpty))
  | .bl b => .ok (.bl b)
  | .int i => .ok (.bl (i != 0))
  | _ => .fail
section
variable {X : Cx} {k : Kn}
theorem RDs.isE {G : Hp} : ∀ {ds : List D} {vs : List V}, RDs k G ds vs → vs.isEmpty = ds.isEmpty
  | _, _, .nil => rfl
  | _, _, .cons _ _ => rfl
theorem c_bool (hk : k.K = X.K) : ClR X k (.type "bool") .st (f1 boolD) := cl1 ((call_boolL.or call_boolT).or call_bool1) fun G H x v d e n hg Q p => by
  cases x <;> simp only [boolD] at hg <;> first | (cases hg; done) | skip
  · cases hg; obtain rfl := n.bl
    exact .inr (.inr ⟨_, rfl, p _ G H (Step.refl e) (.bl _)⟩)
  · cases hg; obtain rfl := n.int
    exact .inr (.inl ⟨_, rfl, p _ G H (Step.refl e) (.bl _)⟩)
  · cases hg; obtain ⟨a, vs, rfl, ha, r⟩ := n.tup
    exact .inl (.inr ⟨a, vs, rfl, hk ▸ e.sqT ha.t, by rw [r.isE]; exact p _ G H (Step.refl e) (.bl _)⟩)
  · cases hg; obtain ⟨a, vs, rfl, ha, r⟩ := n.lst e
    exact .inl (.inl ⟨a, vs, rfl, SqL.of ha, by rw [r.isE]; exact p _ G H (Step.refl e) (.bl _)⟩)
end
end M
set_option Elab.async false
set_option linter.all false
set_option maxRecDepth 100000
set_option maxHeartbeats 4000000
namespace M
open PySem L2 RZ
/-! ### zip of two lists, or of two tuples, of one length -/
def zipD (xs ys : List D) : List D := (xs.zip ys).map fun p => .tup [p.1, p.2]
def zipF : List D → R (List D)
  | [.lst xs, .lst ys] => if xs.length = ys.length then .ok (zipD xs ys) else .fail
  | [.tup xs, .tup ys] => if xs.length = ys.length then .ok (zipD xs ys) else .fail
  | _ => .fail
theorem zipD_get {xs ys : List D} {i : Nat} {d : D} (h : (zipD xs ys)[i]? = some d) : ∃ x y, xs[i]? = some x ∧ ys[i]? = some y ∧ d = .tup [x, y] := by
  unfold zipD at h
  rw [List.getElem?_map] at h
  cases e : (xs.zip ys)[i]? with
  | none => rw [e] at h; cases h
  | some p =>
    rw [e] at h
    have h : D.tup [p.1, p.2] = d := Option.some.inj h
    rw [List.getElem?_zip_eq_some] at e
    exact ⟨p.1, p.2, e.1, e.2, h.symm⟩
theorem zipD_length {xs ys : List D} (h : xs.length = ys.length) : (zipD xs ys).length = xs.length := by
  unfold zipD; rw [List.length_map, List.length_zip, ← h, Nat.min_self]
theorem itm_zipL {k : Kn} {ki : List Nat} {G1 H1 : Hp} {S : Env} {σ : L2.St} {K : PySem.W.Frag} {ds es : List D} {vs us : List V} {p q : Addr} (hl : ds.length = es.length) (r1 : RDs k G1 ds vs) (r2 : RDs k G1 es us) (h1 : G1 p = some (.lst vs)) (h2 : G1 q = some (.lst us)) : Itm k ki G1 S σ H1 (Itz K p q) (zipD ds es) := fun G H e1 e2 kp => by
  have q1 : SqL K H p vs := SqL.of (e2 _ _ (e1 _ _ h1))
  have q2 : SqL K H q us := SqL.of (e2 _ _ (e1 _ _ h2))
  refine ⟨fun i hi => ⟨vs, us, q1, q2, .inl (by rw [zipD_length hl] at hi; rw [← r1.length]; exact hi)⟩, fun i d hd => ?_⟩
  obtain ⟨x, y, hx, hy, rfl⟩ := zipD_get hd
  obtain ⟨v, hv, rv⟩ := (r1.mono e1).get hx
  obtain ⟨u, hu, ru⟩ := (r2.mono e1).get hy
  refine ⟨⟨vs, us, v, u, q1, q2, hv, hu⟩, fun x' H' hx' => ?_⟩
  obtain ⟨T, a, b, rfl, hT, rfl, z1, z2⟩ := hx'
  have := z1 vs q1; rw [hv] at this; cases this
  have := z2 us q2; rw [hu] at this; cases this
  exact ⟨_, Step.new e2 hT, .tup (SqU.of upd_same) (.cons (rv.mono (Ex.new (e2.free hT))) (.cons (ru.mono (Ex.new (e2.free hT))) .nil))⟩
theorem itm_zipT {k : Kn} {ki : List Nat} {G1 H1 : Hp} {S : Env} {σ : L2.St} {K : PySem.W.Frag} {ds es : List D} {vs us : List V} {p q : Addr} (hl : ds.length = es.length) (r1 : RDs k G1 ds vs) (r2 : RDs k G1 es us) (h1 : SqT K G1 p vs) (h2 : SqT K G1 q us) : Itm k ki G1 S σ H1 (ItzT K p q) (zipD ds es) := fun G H e1 e2 kp => by
  have q1 : SqT K H p vs := e2.sqT (e1.sqT h1)
  have q2 : SqT K H q us := e2.sqT (e1.sqT h2)
  refine ⟨fun i hi => ⟨vs, us, q1, q2, .inl (by rw [zipD_length hl] at hi; rw [← r1.length]; exact hi)⟩, fun i d hd => ?_⟩
  obtain ⟨x, y, hx, hy, rfl⟩ := zipD_get hd
  obtain ⟨v, hv, rv⟩ := (r1.mono e1).get hx
  obtain ⟨u, hu, ru⟩ := (r2.mono e1).get hy
  refine ⟨⟨vs, us, v, u, q1, q2, hv, hu⟩, fun x' H' hx' => ?_⟩
  obtain ⟨T, a, b, rfl, hT, rfl, z1, z2⟩ := hx'
  have := z1 vs q1; rw [hv] at this; cases this
  have := z2 us q2; rw [hu] at this; cases this
  exact ⟨_, Step.new e2 hT, .tup (SqU.of upd_same) (.cons (rv.mono (Ex.new (e2.free hT))) (.cons (ru.mono (Ex.new (e2.free hT))) .nil))⟩
theorem i_zip {X : Cx} {c : Cf} {e e2 : Expr} {fa : FA} {p pos tpos : Pos} {elts : List Expr} {kk : Nat} (hk : c.k.K = X.K) (hm : X.mg "zip" = none) (ha : PA' X c false [e, e2] fa) (hg : Gl X "zip" := by rfl)
    (hs : starEach [e, e2] X.env = (false, eval e X.env) :: starEach [e2] X.env := by rfl) (hpl : (backTo pos (starEach [e2] X.env)).any (·.1) = false := by rfl) :
    PI' X c [] (.Tuple elts kk tpos) (.Call (.Name "zip" p) [e, e2] [] pos) (fun S => fa S >>= zipF) := by
  constructor
  intro pins st σ H Rq I q
  refine (pi_zipA hg hm ha hs hpl).run pins st σ H Rq I ?_
  obtain ⟨G, S, rel, p⟩ := q
  have p : PostI c [] G S σ H Rq (fa S >>= zipF) := p
  refine ⟨G, S, rel, ?_⟩
  cases e1 : fa S with
  | exc x => rw [e1] at p; exact p
  | fail => rw [e1] at p; exact p
  | ok ds =>
    rw [e1, R.ok_bind] at p
    intro vs G' H' sp q
    have q : RDs c.k G' ds vs := q
    unfold zipF at p
    split at p
    · split at p
      · rename_i xs ys hl
        cases q with
        | cons qa qb =>
          cases qb with
          | cons qb qc =>
            cases qc
            cases qa with
            | lst h r =>
              cases qb with
              | lst h' r' => exact ⟨_, _, _, _, rfl, .inl ⟨SqL.of (sp.gh _ _ h), SqL.of (sp.gh _ _ h'), p _ G' H' sp (itm_zipL hl r r' h h')⟩⟩
      · exact p.elim
    · split at p
      · rename_i xs ys hl
        cases q with
        | cons qa qb =>
          cases qb with
          | cons qb qc =>
            cases qc
            cases qa with
            | tup h r =>
              cases qb with
              | tup h' r' => exact ⟨_, _, _, _, rfl, .inr ⟨hk ▸ sp.gh.sqT h.t, hk ▸ sp.gh.sqT h'.t, p _ G' H' sp (itm_zipT hl r r' (hk ▸ h.t) (hk ▸ h'.t))⟩⟩
      · exact p.elim
    · exact p.elim
end M
set_option Elab.async false
set_option linter.all false
set_option maxRecDepth 100000
set_option maxHeartbeats 4000000
namespace M
open PySem L2
section
variable {X : Cx} {c : Cf} {kd k1 k2 k3 : Kd} {a b e o : Expr} {f g h : FE} {pos apos : Pos} {fr : Bool} {x : Str} {den : List D → R D} {ci : Nat}
theorem d_cmethXS {lv m' : Nat} (ci : Nat) {m : Str} {n : Nat} {es : List Expr} {fa : FA} {pl : Sem Bool} (F : CmethX X.prog X.w X.K X.mg X.base c.k lv ci m (n + 1) false den) (hr : Room m' X.A) (hle : lv ≤ m') (tk : L2N.Takes X c.W) (ho : PE' X c .st o f) (ha : PA' X c false (e :: es) fa) (hl : Len n fa)
    (hst : starEach (e :: es) X.env = (false, eval e X.env) :: starEach es X.env := by rfl) (hpl : (backTo pos (starEach es X.env)).any (·.1) = false := by rfl)
    (ht : eval (.Call (.Attribute o m apos) (e :: es) [] pos) X.env = (do
      let ov ← eval o X.env
      standAt apos.atName
      let (f, first) ← holding [ov] (getMethod ov m pl)
      callWith pos f first (backTo pos (starEach (e :: es) X.env)) (backToKw pos (keywordEach [] X.env))) := by rfl) :
    PE' X c .st (.Call (.Attribute o m apos) (e :: es) [] pos) (eCMX ci den f fa) := d_cmethX ci F hr hle tk ho ha hl hst hpl ht
theorem d_cmethXF {lv m' : Nat} (ci : Nat) {m : Str} {n : Nat} {es : List Expr} {fa : FA} {pl : Sem Bool} (F : CmethX X.prog X.w X.K X.mg X.base c.k lv ci m (n + 1) true den) (hr : Room m' X.A) (hle : lv ≤ m') (tk : L2N.Takes X c.W) (ho : PE' X c .st o f) (ha : PA' X c false (e :: es) fa) (hl : Len n fa)
    (hst : starEach (e :: es) X.env = (false, eval e X.env) :: starEach es X.env := by rfl) (hpl : (backTo pos (starEach es X.env)).any (·.1) = false := by rfl)
    (ht : eval (.Call (.Attribute o m apos) (e :: es) [] pos) X.env = (do
      let ov ← eval o X.env
      standAt apos.atName
      let (f, first) ← holding [ov] (getMethod ov m pl)
      callWith pos f first (backTo pos (starEach (e :: es) X.env)) (backToKw pos (keywordEach [] X.env))) := by rfl) :
    PE' X c .fr (.Call (.Attribute o m apos) (e :: es) [] pos) (eCMX ci den f fa) := d_cmethX ci F hr hle tk ho ha hl hst hpl ht
/-- name = [.. for .. for ..]: the slot takes it, stable -/
theorem s_lc2Z (i : Nat) {y : Str} {py spos : Pos} {tg tg1 : Expr} {t t1 : FT} {elt iter iter1 : Expr} {ifs ifs1 : List Expr} {scope : Scope} (own : List (Str × Nat)) (vs1 : List Nat) {ki gs ki1 gs1 : List Nat} {fi fi1 : FI} {ga ga1 : FG} {fe : FE} (hc : X.calm = true) (hN : X.N.Nodup) (hi : PI' X c ki tg iter fi) (ok : BlkOk X.N X.env.scope scope own)
    (hg : ∀ (s : Shared) (H : Hp) (C : Addr) (cl : List (Str × Addr)) (fp : List Addr), PG' (X.blk s H scope (compEnvC scope cl C X.env) fp) c.nx gs tg ga) (ht : ∀ (s : Shared) (H : Hp) (C : Addr) (cl : List (Str × Addr)) (fp : List Addr), PTs' (X.blk s H scope (compEnvC scope cl C X.env) fp) c.nx ifs t)
    (hi1 : ∀ (s : Shared) (H : Hp) (C : Addr) (cl : List (Str × Addr)) (fp : List Addr), PI' (X.blk s H scope (compEnvC scope cl C X.env) fp) c.nx ki1 tg1 iter1 fi1)
    (hg1 : ∀ (s : Shared) (H : Hp) (C : Addr) (cl : List (Str × Addr)) (fp : List Addr), PG' (X.blk s H scope (compEnvC scope cl C X.env) fp) c.nx gs1 tg1 ga1) (ht1 : ∀ (s : Shared) (H : Hp) (C : Addr) (cl : List (Str × Addr)) (fp : List Addr), PTs' (X.blk s H scope (compEnvC scope cl C X.env) fp) c.nx ifs1 t1)
    (he : ∀ (s : Shared) (H : Hp) (C : Addr) (cl : List (Str × Addr)) (fp : List Addr), PE' (X.blk s H scope (compEnvC scope cl C X.env) fp) c.nx .st elt fe) (hy : X.N[i]? = some y := by rfl) (hyl : X.env.scope.names.lookup y = some .local := by rfl)
    (hsw : swapsWith (.ListComp elt [⟨tg, iter, ifs, 0⟩, ⟨tg1, iter1, ifs1, 0⟩] scope pos) (some (.Name y py)) spos.line X.env = pure true := by exact sw_true rfl rfl rfl (by decide +kernel)) (hv : ∀ i ∈ vs1, i ∈ own.map (·.2) := by decide) (h1000 : ∀ i ∈ own.map (·.2), i < 1000 := by decide) (hgs : ∀ i, i ∈ gs → i ∈ own.map (·.2) := by decide) (hgs1 : ∀ i, i ∈ gs1 → i ∈ vs1 := by decide) (hs : ∀ x, foldedSetIterable iter X.env x = pure x := by intro _; rfl) (hs1 : ∀ env x, foldedSetIterable iter1 env x = pure x := by intro _ _; rfl) :
    PS' X c fr [i] (.Assign [.Name y py] (.ListComp elt [⟨tg, iter, ifs, 0⟩, ⟨tg1, iter1, ifs1, 0⟩] scope pos) spos) (sSet i (lc2E fi ga t fi1 ga1 t1 fe (own.map (·.2)) vs1)) :=
  psI (ps_setLc2 hc hN hy hyl hsw hi ok hv hg ht hi1 hg1 ht1 he hs hs1) fun Dn σ H q => lc2_go (fun _ _ _ _ z => z) (fun _ _ _ z => z) (fun _ _ _ z => z) (fun _ _ _ _ z => z) (fun _ _ _ z => z) (fun _ _ _ z => z) h1000 hgs hgs1 (setF_go q)
end
end M
set_option Elab.async false
set_option linter.all false
set_option maxRecDepth 100000
set_option maxHeartbeats 4000000
namespace M
open PySem L2
section
variable {X : Cx} {c : Cf} {k : Kn} {kd k1 k2 k3 : Kd} {a b e o : Expr} {f g h : FE} {pos apos cpos p' : Pos} {fr : Bool} {x y : Str} {den : List D → R D}
/-! ### a call with arguments that slots own: the answer is flat -/
theorem RD.flatG {k : Kn} {G G' : Hp} {d : D} {v : V} (r : RD k G d v) (h : flatD d = true) : RD k G' d v := by
  cases d <;> first | (simp [flatD] at h; done) | skip
  all_goals (cases r <;> constructor)
def eCB (den : List D → R D) (fa : FA) : FE := fun S => fa S >>= fun ds => (den ds).nox >>= fun d => if flatD d then .ok d else .fail
theorem callB_go {n : Nat} {fa : FA} {σ : L2.St} {H : Hp} {Q : VK} (hl : Len n fa) (q : RdE c .st (eCB den fa) σ H Q) : RdA c true fa σ H fun vs H1 => SpF c.k false n den (vs ++ []) H1 Q E0 := by
  obtain ⟨G, S, rel, p⟩ := q
  have p : PostE c .st G S σ H Q (fa S >>= fun ds => (den ds).nox >>= fun d => if flatD d then .ok d else .fail) := p
  refine ⟨G, S, rel, ?_⟩
  cases e0 : fa S with
  | exc x => rw [e0] at p; exact p
  | fail => rw [e0] at p; exact p
  | ok ds =>
    rw [e0] at p
    intro vs G1 H1 s1 q1
    have q1 : Nows c.k G1 H1 ds vs := q1
    have q2 := q1.rd s1.gh
    rw [List.append_nil]
    refine ⟨by rw [← q2.length]; exact hl S ds e0, H1, ds, Ex.refl _, q2, ?_⟩
    have p : PostE c .st G S σ H Q ((den ds).nox >>= fun d => if flatD d then .ok d else .fail) := p
    cases e1 : den ds with
    | ok d =>
      rw [e1] at p
      have p : PostE c .st G S σ H Q (if flatD d then .ok d else .fail) := p
      by_cases hf : flatD d = true
      · rw [if_pos hf] at p
        exact fun v G' H' s2 r2 => p v G1 H' (s1.trans ⟨Ex.refl _, s2.h, s1.gh.trans s2.h, fun b u q => .inl q⟩) (RD.flatG (show RD c.k G' d v from r2) hf)
      · rw [if_neg hf] at p; exact p.elim
    | exc x => rw [e1] at p; exact p.elim
    | fail => rw [e1] at p; exact p.elim
theorem d_callB {n : Nat} {p : Pos} {es : List Expr} {fa : FA} (F : Fn0 X c.k x n false den) (ha : PA' X c true (e :: es) fa) (hl : Len n fa) (hg : Gl X x := by rfl) (hdb : (x == ("__debug__" : Str)) = false := by decide)
    (hs : starEach (e :: es) X.env = (false, eval e X.env) :: starEach es X.env := by rfl) (hs2 : ((backTo pos (starEach es X.env)).any fun x => x.1) = false := by rfl) : PE' X c .st (.Call (.Name x p) (e :: es) [] pos) (eCB den fa) := by
  obtain ⟨f, fd, lv, ps, hn, ok, hr, hm, hk, hb⟩ := F.ex
  exact peI (pe_call ok hr hg hm hk hb .nil pass0 ha hdb hs hs2) fun σ H Q q => callB_go hl q
end
end M
set_option Elab.async false
set_option linter.all false
set_option maxRecDepth 100000
set_option maxHeartbeats 4000000
namespace Pf
open PySem L2 M
def topS (i : Nat) : Stmt := PySem.Challenge.pw_firstbreach_k01_share_states.main.body.getD i (.Pass ⟨0, 0, 0, 0⟩)
def clsB : Stmt → List Stmt
  | .ClassDef _ _ _ b .. => b
  | _ => []
def clsS (i j : Nat) : Stmt := (clsB (topS i)).getD j (.Pass ⟨0, 0, 0, 0⟩)
structure Bt (mg : Str → Option Value) : Prop where
  ValueError : mg "ValueError" = none
  abs : mg "abs" = none
  all : mg "all" = none
  bool : mg "bool" = none
  enumerate : mg "enumerate" = none
  int : mg "int" = none
  isinstance : mg "isinstance" = none
  len : mg "len" = none
  min : mg "min" = none
  range : mg "range" = none
  set : mg "set" = none
  sorted : mg "sorted" = none
  tuple : mg "tuple" = none
  zip : mg "zip" = none
section
variable {P : Program} {w : World} {K : PySem.W.Frag} {mg : Str → Option Value} {base : Heap} {cl : Nat → Option (Addr × List Str)}
def mt_InvalidSupply : Nat → Option Bool := mtOf [(11, true)]
def xtab : Nat → D → Option Bool := xtabOf [((11, .cls 10), true), ((11, .ty "ValueError"), true), ((11, .cls 13), false)]
def gv_MOST_STATES : D := .int 5000
def gv_LONGEST_PERIOD : D := .int 8
abbrev st_check_supply : Stmt := topS 10
def m_check_supply : FS :=
    (sSeq (sIf (tNo (tB' (e3 leD leD (eI (1)) (eW 0) (eG gv_MOST_STATES)))) (sExc0 11) sNil)
    (sSeq (sIf (tO (tNo (tT' (eW 2))) (tO (tB' (e2 ltD (e1 lenSetD (eW 2)) (eC (f1 lenD) (aC (eW 2) aN)))) (tO (tB' (e2 ltD (e2 ixA (eW 2) (eI (0))) (eI (0)))) (tB' (e2 geD (e2 ixA (eW 2) (e1 negD (eI (1)))) (eW 0)))))) (sExc0 11) sNil)
    (sSeq (sIf (tB' (e2 ltD (e1 lenSetD (eW 1)) (eC (f1 lenD) (aC (eW 1) aN)))) (sExc0 11) sNil)
    (sSeq (sFor (fun S => (eV 1) S >>= itemsD) (gT 3 (gsC (gN 3) (gsC (gN 4) (gsC (gN 5) gsN)))) (sIf (tO (tNo (tB' (e3 leD ltD (eI (0)) (eW 3) (eW 0)))) (tO (tNo (tB' (e3 leD ltD (eI (0)) (eW 5) (eW 0)))) (tB' (e2 notInA (eW 4) (eT (aC (eI (0)) (aC (eI (1)) aN))))))) (sExc0 11) sNil))
    (sIf (tB' (e2 ltD (lenScK (fun S => (eV 1) S >>= itemsD) (gT 3 (gsC (gN 3) (gsC (gN 4) (gsC (gN 5) gsN)))) tY (eV 3) [3, 4, 5]) (eW 0))) (sExc0 11) sNil)))))
def d_check_supply : List D → R D := runF false 6 m_check_supply
theorem sc_check_supply : FnScope ["size", "steps", "starts", "state", "bit", "ahead"] ["size", "steps", "starts"] (defScope st_check_supply) := ⟨rfl, rfl, rfl, by decide +kernel, rfl, by decide +kernel, by decide +kernel⟩
theorem ok_check_supply {f : Addr} {fd : FuncData} (F : FunD K "check_supply" "check_supply" (defArgs st_check_supply) (defBody st_check_supply) (defScope st_check_supply) [] [] f fd) (mgf : mg "check_supply" = some (.ref f)) (B : Bt mg) (g_MOST_STATES : Gc mg ⟨K, cl⟩ "MOST_STATES" gv_MOST_STATES) (R_InvalidSupply : RaO K mg ⟨K, cl⟩ "InvalidSupply" 11) : CalleeX P w K mg base ⟨K, cl⟩ 1 "check_supply" 3 false d_check_supply := by
  have nd : (["size", "steps", "starts", "state", "bit", "ahead"] : List Str).Nodup := sc_check_supply.nd
  have z := fn_okX (P := P) (w := w) (mg := mg) (base := base) (k := ⟨K, cl⟩) (fr := false) (lv := 0) (as := [3, 4, 5]) (s := m_check_supply) F sc_check_supply fun cdv A outer sh H G0 E hr tk => by
    have hu := hr.units
    have hu5 := hr.units5
    exact (b_cons (s_if (d_not (d_tch (o_le) (o_le) d_int (d_w 0) (d_g g_MOST_STATES))) (b_one (s_raise0 R_InvalidSupply rfl tk)) b_nil)
    (b_cons (s_if (d_pw (d_or (d_not (d_tt rfl (d_w 2))) (d_or (d_tc (o_lt) (d_lenSet rfl rfl hu B.len B.set (d_w 2)) (d_bltn (c_len rfl) B.len (d_ab (d_w 2) d_an))) (d_or (d_tc (o_lt) (d_ix (o_ixA rfl hu5) (d_w 2) d_int) d_int) (d_or1 (d_tc (o_ge) (d_ix (o_ixA rfl hu5) (d_w 2) (d_un o_neg d_int)) (d_w 0))))))) (b_one (s_raise0 R_InvalidSupply rfl tk)) b_nil)
    (b_cons (s_if (d_tc (o_lt) (d_lenSet rfl rfl hu B.len B.set (d_w 1)) (d_bltn (c_len rfl) B.len (d_ab (d_w 1) d_an))) (b_one (s_raise0 R_InvalidSupply rfl tk)) b_nil)
    (b_cons (s_for (L2.passes_of rfl) rfl (i_seq rfl (d_v 1)) (g_t rfl rfl (gs_c (g_n 3 nd) (gs_c (g_n 4 nd) (gs_c (g_n 5 nd) gs_n)))) (b_one (s_if (d_pw (d_or (d_not (d_tch (o_le) (o_lt) d_int (d_w 3) (d_w 0))) (d_or (d_not (d_tch (o_le) (o_lt) d_int (d_w 5) (d_w 0))) (d_or1 (d_tc (o_notinA rfl hu5) (d_w 4) (d_tup (d_ac d_int (d_ac d_int d_an)))))))) (b_one (s_raise0 R_InvalidSupply rfl tk)) b_nil)))
    (b_one (s_if (d_tc (o_lt) (d_lenScK [("state", 3), ("bit", 4), ("ahead", 5)] rfl hu B.len rfl nd (i_seq rfl (d_v 1)) (blkOk_by (N := ["size", "steps", "starts", "state", "bit", "ahead"]) (sc := (defScope st_check_supply)) (by decide +kernel)) (fun _ _ _ _ _ => (g_t rfl rfl (gs_c (g_n 3 nd) (gs_c (g_n 4 nd) (gs_c (g_n 5 nd) gs_n))))) (fun _ _ _ _ _ => ts_n) (fun _ _ _ _ _ => (d_v 3))) (d_w 0)) (b_one (s_raise0 R_InvalidSupply rfl tk)) b_nil))))))
  exact ⟨f, fd, ["size", "steps", "starts"], rfl, z, mgf, F.kp, F.bindsN fun _ _ _ _ _ _ us hl => match us, hl with | [_, _, _], _ => rfl⟩
abbrev st_moves_of : Stmt := topS 11
def m_moves_of : FS :=
    (sSeq (sOwn 1 (fun _ => .ok (.dit [] [])))
    (sSeq (sFor (fun S => (eV 0) S >>= itemsD) (gT 3 (gsC (gN 2) (gsC (gN 3) (gsC (gN 4) gsN)))) (sPutA 1 (eT (aC (eV 2) (aC (eV 3) aN))) (e2 addD (eGet2 (eW 1) (eT (aC (eV 2) (aC (eV 3) aN))) (eT aN)) (eT (aC (eV 4) aN)))))
    (sRetO 1)))
def d_moves_of : List D → R D := fun ds => (runF true 5 m_moves_of ds).nox
theorem sc_moves_of : FnScope ["steps", "found", "state", "bit", "ahead"] ["steps"] (defScope st_moves_of) := ⟨rfl, rfl, rfl, by decide +kernel, rfl, by decide +kernel, by decide +kernel⟩
theorem ok_moves_of {f : Addr} {fd : FuncData} (F : FunD K "moves_of" "moves_of" (defArgs st_moves_of) (defBody st_moves_of) (defScope st_moves_of) [] [] f fd) (mgf : mg "moves_of" = some (.ref f)) (B : Bt mg)  : Callee P w K mg base ⟨K, cl⟩ 1 "moves_of" 1 true d_moves_of := by
  have nd : (["steps", "found", "state", "bit", "ahead"] : List Str).Nodup := sc_moves_of.nd
  have z := fn_ok (P := P) (w := w) (mg := mg) (base := base) (k := ⟨K, cl⟩) (fr := true) (lv := 0) (as := [1, 2, 3, 4, 1001]) (s := m_moves_of) F sc_moves_of fun cdv A outer sh H G0 hr => by
    have hu := hr.units
    have hu5 := hr.units5
    exact (b_cons (s_own 1 nd d_dnewT)
    (b_cons (s_for PassesOwn.never rfl (i_seq rfl (d_v 0)) (g_t rfl rfl (gs_c (g_n 2 nd) (gs_c (g_n 3 nd) (gs_c (g_n 4 nd) gs_n)))) (b_one (s_putA 1 hu (d_op (o_add rfl) (d_get2A hu (d_w 1) (d_tup (d_ac (d_v 2) (d_ac (d_v 3) d_an))) (d_tup d_an)) (d_tup (d_ac (d_v 4) d_an))) (d_tup (d_ac (d_v 2) (d_ac (d_v 3) d_an))))))
    (b_one (s_retO 1))))
  exact ⟨f, fd, ["steps"], rfl, z, mgf, F.kp, F.bindsN fun _ _ _ _ _ _ us hl => match us, hl with | [_], _ => rfl⟩
abbrev st_Supply : Stmt := clsS 9 0
def m_Supply : FS :=
    (sSeq (sFldN 14 0 0 (eV 1))
    (sSeq (sFldN 14 0 1 (eC (f1 tupD) (aC (eC (f1 srtAD) (aC (lcE (fun S => (eV 2) S >>= itemsD) (gN 4) tY (eC (f1 tupD) (aC (eW 4) aN)) [4]) aN)) aN)))
    (sSeq (sFldN 14 0 2 (eC (f1 tupD) (aC (eC (f1 srtAD) (aC (eW 3) aN)) aN)))
    (sSeq (sDrop (eCX d_check_supply (aC (eV 1) (aC (e1 (fldD 14 1) (eW 0)) (aC (e1 (fldD 14 2) (eW 0)) aN)))))
    (sFldN 14 0 3 (eC d_moves_of (aC (e1 (fldD 14 1) (eW 0)) aN)))))))
def d_Supply : List D → R D := runN 5 14 m_Supply
theorem sc_Supply : FnScope ["self", "size", "steps", "starts", "step"] ["self", "size", "steps", "starts"] (defScope st_Supply) := ⟨rfl, rfl, rfl, by decide +kernel, rfl, by decide +kernel, by decide +kernel⟩
theorem ok_Supply {C f : Addr} {fd : FuncData} {dvs : List V} (hdd : ∀ G, RDs ⟨K, cl⟩ G [.tup [.int 0]] dvs) (F : FunD K "__init__" "Supply.__init__" (defArgs st_Supply) (defBody st_Supply) (defScope st_Supply) [] ((["starts"] : List Str).zip dvs) f fd) (hcl : cl 14 = some (C, (["size", "steps", "starts", "moves"] : List Str))) (mk : Mk K C f) (mgf : mg "Supply" = some (.ref C)) (B : Bt mg) (C_Supply : ClsI K ⟨K, cl⟩ 14 (["size", "steps", "starts", "moves"] : List Str)) (h_check_supply : CalleeX P w K mg base ⟨K, cl⟩ 1 "check_supply" 3 false d_check_supply) (h_moves_of : Callee P w K mg base ⟨K, cl⟩ 1 "moves_of" 1 true d_moves_of) : MakerXD P w K mg base ⟨K, cl⟩ 2 "Supply" 14 2 [.tup [.int 0]] d_Supply := by
  have nd : (["self", "size", "steps", "starts", "step"] : List Str).Nodup := sc_Supply.nd
  have z := init_okX (P := P) (w := w) (mg := mg) (base := base) (k := ⟨K, cl⟩) (ci := 14) (lv := 1) (as := [1000, 1000, 1000, 1000]) (s := m_Supply) F sc_Supply (by decide) fun cdv A outer sh H H0 G0 E hr tk => by
    have hu := hr.units
    have hu5 := hr.units5
    exact (b_cons (s_fld 14 0 0 C_Supply rfl (d_v 1))
    (b_cons (s_fld 14 0 1 C_Supply rfl (d_btyp (c_tup rfl) B.tuple (d_ab (d_bltn (c_srtA rfl hu) B.sorted (d_ab (d_lc [("step", 4)] rfl nd (i_seq rfl (d_v 2)) (blkOk_by (N := ["self", "size", "steps", "starts", "step"]) (sc := (defScope st_Supply)) (by decide +kernel)) (fun _ _ _ _ _ => (g_n 4 nd)) (fun _ _ _ _ _ => ts_n) (fun _ _ _ _ _ => (d_btyp (c_tup rfl) B.tuple (d_ab (d_w 4) d_an)))) d_an)) d_an)))
    (b_cons (s_fld 14 0 2 C_Supply rfl (d_btyp (c_tup rfl) B.tuple (d_ab (d_bltn (c_srtA rfl hu) B.sorted (d_ab (d_w 3) d_an)) d_an)))
    (b_cons (s_drop (d_callXS h_check_supply hr (by decide) tk (d_ac (d_v 1) (d_ac (d_fld 14 1 C_Supply rfl (d_w 0)) (d_ac (d_fld 14 2 C_Supply rfl (d_w 0)) d_an))) (len_c (len_c (len_c len_n)))))
    (b_one (s_fld 14 0 3 C_Supply rfl (d_z (d_callF (h_moves_of.at hr (by decide)) (d_ac (d_fld 14 1 C_Supply rfl (d_w 0)) d_an) (len_c len_n)))))))))
  have hl0 : dvs.length = 1 := (hdd (fun _ => none)).length.symm
  obtain ⟨ds, hv, hb⟩ := F.binds0 (ps := ["self", "size", "steps", "starts"]) 3 (by intro h; have := congrArg List.length h; simp [hl0] at this) (by simp [hl0]) (match dvs, hl0 with | [_], _ => fun D doc pm an cdv ct us ks l1 l2 => match us, ks, l1, l2 with | [_, _, _], [_], _, _ => ⟨_, _, _, _, _, _, rfl, rfl, rfl⟩)
  exact ⟨C, f, fd, ["self", "size", "steps", "starts"], (["size", "steps", "starts", "moves"] : List Str), dvs, ds, hcl, mk, z, mgf, hb, (match dvs, hl0, hv with | [_], _, hv => hv), hdd⟩
abbrev st_Supply_share : Stmt := clsS 9 1
def m_Supply_share : FS :=
    (sSeq (sIf (tO (tNo (tB' (e3 leD leD (eI (1)) (eW 2) (eG gv_LONGEST_PERIOD)))) (tNo (tB' (e3 leD leD (eI (0)) (eW 1) (eW 2))))) (sExc0 11) sNil)
    (sSeq (sSet 5 (lc2E (fun S => (aC (eW 2) aN) S >>= rng1) (gN 3) tY (fun S => (aC (e2 addD (eC (f2 min2D) (aC (eW 3) (aC (eW 1) aN))) (eI (1))) aN) S >>= rng1) (gN 4) (tB' (e2 leD (e2 subD (eW 1) (eW 4)) (e2 subD (eW 2) (eW 3)))) (eT (aC (eV 3) (aC (eV 4) aN))) [3, 4] [4]))
    (sSeq (sSet 6 (dcE dkT (fun S => (aC (eV 5) aN) S >>= enumerateF) (gT 2 (gsC (gN 10) (gsC (gN 11) gsN))) tY (eV 11) (eV 10) [10, 11]))
    (sSeq (sOwn 7 (eL aN))
    (sSeq (sFor (fun S => (eV 5) S >>= itemsD) (gT 2 (gsC (gN 3) (gsC (gN 4) gsN))) (sFor (fun S => (eT (aC (eI (0)) (aC (eI (1)) aN))) S >>= itemsD) (gN 8) (sSeq (sSet 9 (eT (aC (e2 addD (eW 3) (eI (1))) (aC (eC (f2 min2D) (aC (e2 addD (eW 4) (eW 8)) (aC (eW 1) aN))) aN))))
    (sSeq (sIf (tB' (e2 eqD (eW 9) (eT (aC (eV 2) (aC (eV 1) aN))))) (sSet 9 (eT (aC (eI (0)) (aC (eI (0)) aN)))) sNil)
    (sIf (tB' (e2 inA (eW 9) (eW 6))) (sApp 7 (eT (aC (e2 ixA (eW 6) (eT (aC (eV 3) (aC (eV 4) aN)))) (aC (eV 8) (aC (e2 ixA (eW 6) (eW 9)) aN))))) sNil)))))
    (sFz 7 (sRet (eCXL 0 14 [.tup [.int 0]] d_Supply (aC (eC (f1 lenD) (aC (eW 5) aN)) (aC (eV 7) aN))))))))))
def d_Supply_share : List D → R D := runF true 12 m_Supply_share
theorem sc_Supply_share : FnScope ["cls", "q", "p", "i", "k", "pairs", "numbers", "steps", "bit", "then", "at", "pair"] ["cls", "q", "p"] (defScope st_Supply_share) := ⟨rfl, rfl, rfl, by decide +kernel, rfl, by decide +kernel, by decide +kernel⟩
theorem ok_Supply_share {C p f : Addr} {mc : Value} {fd : FuncData} (F : FunD K "share" "Supply.share" (defArgs st_Supply_share) (defBody st_Supply_share) (defScope st_Supply_share) [] [] f fd) (hcl : cl 14 = some (C, (["size", "steps", "starts", "moves"] : List Str))) (cr : ClX.CRead K C mc) (cm : ClX.CMet K C mc "share" p f) (B : Bt mg) (g_LONGEST_PERIOD : Gc mg ⟨K, cl⟩ "LONGEST_PERIOD" gv_LONGEST_PERIOD) (R_InvalidSupply : RaO K mg ⟨K, cl⟩ "InvalidSupply" 11) (m_Supply : MakerXD P w K mg base ⟨K, cl⟩ 2 "Supply" 14 2 [.tup [.int 0]] d_Supply) : CmethX P w K mg base ⟨K, cl⟩ 4 14 "share" 3 true d_Supply_share := by
  have nd : (["cls", "q", "p", "i", "k", "pairs", "numbers", "steps", "bit", "then", "at", "pair"] : List Str).Nodup := sc_Supply_share.nd
  have z := fn_okX (P := P) (w := w) (mg := mg) (base := base) (k := ⟨K, cl⟩) (fr := true) (lv := 3) (as := [5, 6, 7, 3, 4, 8, 9, 9, 1007, 7]) (s := m_Supply_share) F sc_Supply_share fun cdv A outer sh H G0 E hr tk => by
    have hu := hr.units
    have hu5 := hr.units5
    exact (b_cons (s_if (d_pw (d_or (d_not (d_tch (o_le) (o_le) d_int (d_w 2) (d_g g_LONGEST_PERIOD))) (d_or1 (d_not (d_tch (o_le) (o_le) d_int (d_w 1) (d_w 2)))))) (b_one (s_raise0 R_InvalidSupply rfl tk)) b_nil)
    (b_cons (s_lc2Z 5 [("i", 3), ("k", 4)] [4] rfl nd (i_rng1 B.range (d_ab (d_w 2) d_an)) (blkOk_by (N := ["cls", "q", "p", "i", "k", "pairs", "numbers", "steps", "bit", "then", "at", "pair"]) (sc := (defScope st_Supply_share)) (by decide +kernel)) (fun _ _ _ _ _ => (g_n 3 nd)) (fun _ _ _ _ _ => ts_n) (fun _ _ _ _ _ => (i_rng1 B.range (d_ab (d_op (o_add rfl) (d_bltn (c_min2 rfl) B.min (d_ab (d_w 3) (d_ab (d_w 1) d_an))) d_int) d_an))) (fun _ _ _ _ _ => (g_n 4 nd)) (fun _ _ _ _ _ => (ts_1 (d_tc (o_le) (d_op (o_sub) (d_w 1) (d_w 4)) (d_op (o_sub) (d_w 2) (d_w 3))))) (fun _ _ _ _ _ => (d_tup (d_ac (d_v 3) (d_ac (d_v 4) d_an)))))
    (b_cons (s_dcZ 6 dkT [("at", 10), ("pair", 11)] hu rfl nd (i_enumerate rfl B.enumerate (d_ac (d_v 5) d_an)) (blkOk_by (N := ["cls", "q", "p", "i", "k", "pairs", "numbers", "steps", "bit", "then", "at", "pair"]) (sc := (defScope st_Supply_share)) (by decide +kernel)) (fun _ _ _ _ _ => (g_t rfl rfl (gs_c (g_n 10 nd) (gs_c (g_n 11 nd) gs_n)))) (fun _ _ _ _ _ => ts_n) (fun _ _ _ _ _ => (d_v 11)) (fun _ _ _ _ _ => (d_v 10)))
    (b_cons (s_own 7 nd (d_lst d_an))
    (b_cons (s_for (L2.passes_of rfl) rfl (i_seq rfl (d_v 5)) (g_t rfl rfl (gs_c (g_n 3 nd) (gs_c (g_n 4 nd) gs_n))) (b_one (s_for (L2.passes_of rfl) rfl (i_seq rfl (d_tup (d_ac d_int (d_ac d_int d_an)))) (g_n 8 nd) (b_cons (s_set 9 nd (d_tup (d_ac (d_op (o_add rfl) (d_w 3) d_int) (d_ac (d_bltn (c_min2 rfl) B.min (d_ab (d_op (o_add rfl) (d_w 4) (d_w 8)) (d_ab (d_w 1) d_an))) d_an))))
    (b_cons (s_if (d_tc (o_eq rfl hu) (d_w 9) (d_tup (d_ac (d_v 2) (d_ac (d_v 1) d_an)))) (b_one (s_set 9 nd (d_tup (d_ac d_int (d_ac d_int d_an))))) b_nil)
    (b_one (s_if (d_tc (o_inA rfl hu5) (d_w 9) (d_w 6)) (b_one (s_app 7 (d_tup (d_ac (d_ix (o_ixA rfl hu5) (d_w 6) (d_tup (d_ac (d_v 3) (d_ac (d_v 4) d_an)))) (d_ac (d_v 8) (d_ac (d_ix (o_ixA rfl hu5) (d_w 6) (d_w 9)) d_an)))))) b_nil)))))))
    (b_one (s_fz 7 (s_retF (d_makerXL 0 m_Supply hr (by decide) tk (d_ac (d_bltn (c_len rfl) B.len (d_ab (d_w 5) d_an)) (d_ac (d_v 7) d_an)) (len_c (len_c len_n)))))))))))
  exact ⟨C, p, f, mc, fd, ["cls", "q", "p"], (["size", "steps", "starts", "moves"] : List Str), rfl, hcl, cr, cm, z, F.bindsN fun _ _ _ _ _ _ us hl => match us, hl with | [_, _, _], _ => rfl⟩
abbrev st_Supply_after : Stmt := clsS 9 3
def m_Supply_after : FS :=
    (sSeq (sIf (tB' (e2 eqD (eC (f1 lenD) (aC (eW 1) aN)) (eI (1)))) (sRet (eGet2 (e1 (fldD 14 3) (eW 0)) (eT (aC (e2 ixA (eW 1) (eI (0))) (aC (eV 2) aN))) (eT aN))) sNil)
    (sRet (eC (f1 tupD) (aC (srtSc2E (fun S => (eV 1) S >>= itemsD) (gN 3) tY (fun S => (eGet2 (e1 (fldD 14 3) (eW 0)) (eT (aC (eV 3) (aC (eV 2) aN))) (eT aN)) S >>= itemsD) (gN 4) tY (eV 4) [3, 4] [4]) aN))))
def d_Supply_after : List D → R D := fun ds => (runF false 5 m_Supply_after ds).nox
theorem sc_Supply_after : FnScope ["self", "states", "bit", "state", "then"] ["self", "states", "bit"] (defScope st_Supply_after) := ⟨rfl, rfl, rfl, by decide +kernel, rfl, by decide +kernel, by decide +kernel⟩
theorem ok_Supply_after {C f : Addr} {fd : FuncData} (F : FunD K "after" "Supply.after" (defArgs st_Supply_after) (defBody st_Supply_after) (defScope st_Supply_after) [] [] f fd) (hcl : cl 14 = some (C, (["size", "steps", "starts", "moves"] : List Str))) (mc : Cls K C) (mk : Meth K C "after" f) (B : Bt mg) (C_Supply : ClsI K ⟨K, cl⟩ 14 (["size", "steps", "starts", "moves"] : List Str)) : Method P w K mg base ⟨K, cl⟩ 1 14 "after" 3 false d_Supply_after := by
  have nd : (["self", "states", "bit", "state", "then"] : List Str).Nodup := sc_Supply_after.nd
  have z := fn_ok (P := P) (w := w) (mg := mg) (base := base) (k := ⟨K, cl⟩) (fr := false) (lv := 0) (as := []) (s := m_Supply_after) F sc_Supply_after fun cdv A outer sh H G0 hr => by
    have hu := hr.units
    have hu5 := hr.units5
    exact (b_cons (s_if (d_tc (o_eq rfl hu) (d_bltn (c_len rfl) B.len (d_ab (d_w 1) d_an)) d_int) (b_one (s_ret (d_get2A hu (d_fld 14 3 C_Supply rfl (d_w 0)) (d_tup (d_ac (d_ix (o_ixA rfl hu5) (d_w 1) d_int) (d_ac (d_v 2) d_an))) (d_tup d_an)))) b_nil)
    (b_one (s_ret (d_btyp (c_tup rfl) B.tuple (d_ab (d_srtSc2 [("state", 3), ("then", 4)] [4] hu B.sorted rfl nd (i_seq rfl (d_v 1)) (blkOk_by (N := ["self", "states", "bit", "state", "then"]) (sc := (defScope st_Supply_after)) (by decide +kernel)) (fun _ _ _ _ _ => (g_n 3 nd)) (fun _ _ _ _ _ => ts_n) (fun _ _ _ _ _ => (i_seq rfl (d_get2A hu (d_fld 14 3 C_Supply rfl (d_w 0)) (d_tup (d_ac (d_v 3) (d_ac (d_v 2) d_an))) (d_tup d_an)))) (fun _ _ _ _ _ => (g_n 4 nd)) (fun _ _ _ _ _ => ts_n) (fun _ _ _ _ _ => (d_v 4))) d_an)))))
  exact ⟨C, f, fd, ["self", "states", "bit"], (["size", "steps", "starts", "moves"] : List Str), rfl, hcl, by decide, mc, mk, z, F.bindsN fun _ _ _ _ _ _ us hl => match us, hl with | [_, _, _], _ => rfl⟩
abbrev st_Supply___contains__ : Stmt := clsS 9 7
def m_Supply___contains__ : FS :=
    (sSeq (sSet 2 (e1 (fldD 14 2) (eW 0)))
    (sSeq (sFor (fun S => (eV 1) S >>= itemsD) (gN 3) (sSet 2 (srtSc2E (fun S => (eV 2) S >>= itemsD) (gN 4) tY (fun S => (eGet2 (e1 (fldD 14 3) (eW 0)) (eT (aC (eV 4) (aC (eV 3) aN))) (eT aN)) S >>= itemsD) (gN 5) tY (eV 5) [4, 5] [5])))
    (sRet (eC (f1 boolD) (aC (eW 2) aN)))))
def d_Supply___contains__ : List D → R D := fun ds => (runF false 6 m_Supply___contains__ ds).nox
theorem sc_Supply___contains__ : FnScope ["self", "word", "states", "bit", "state", "ahead"] ["self", "word"] (defScope st_Supply___contains__) := ⟨rfl, rfl, rfl, by decide +kernel, rfl, by decide +kernel, by decide +kernel⟩
theorem ok_Supply___contains__ {C f : Addr} {fd : FuncData} (F : FunD K "__contains__" "Supply.__contains__" (defArgs st_Supply___contains__) (defBody st_Supply___contains__) (defScope st_Supply___contains__) [] [] f fd) (hcl : cl 14 = some (C, (["size", "steps", "starts", "moves"] : List Str))) (mc : Cls K C) (mk : Meth K C "__contains__" f) (B : Bt mg) (C_Supply : ClsI K ⟨K, cl⟩ 14 (["size", "steps", "starts", "moves"] : List Str)) : Method P w K mg base ⟨K, cl⟩ 1 14 "__contains__" 2 false d_Supply___contains__ := by
  have nd : (["self", "word", "states", "bit", "state", "ahead"] : List Str).Nodup := sc_Supply___contains__.nd
  have z := fn_ok (P := P) (w := w) (mg := mg) (base := base) (k := ⟨K, cl⟩) (fr := false) (lv := 0) (as := [2, 3, 2]) (s := m_Supply___contains__) F sc_Supply___contains__ fun cdv A outer sh H G0 hr => by
    have hu := hr.units
    have hu5 := hr.units5
    exact (b_cons (s_set 2 nd (d_fld 14 2 C_Supply rfl (d_w 0)))
    (b_cons (s_for PassesOwn.never rfl (i_seq rfl (d_v 1)) (g_n 3 nd) (b_one (s_set 2 nd (d_z (d_srtSc2 [("state", 4), ("ahead", 5)] [5] hu B.sorted rfl nd (i_seq rfl (d_v 2)) (blkOk_by (N := ["self", "word", "states", "bit", "state", "ahead"]) (sc := (defScope st_Supply___contains__)) (by decide +kernel)) (fun _ _ _ _ _ => (g_n 4 nd)) (fun _ _ _ _ _ => ts_n) (fun _ _ _ _ _ => (i_seq rfl (d_get2A hu (d_fld 14 3 C_Supply rfl (d_w 0)) (d_tup (d_ac (d_v 4) (d_ac (d_v 3) d_an))) (d_tup d_an)))) (fun _ _ _ _ _ => (g_n 5 nd)) (fun _ _ _ _ _ => ts_n) (fun _ _ _ _ _ => (d_v 5)))))))
    (b_one (s_ret (d_btyp (c_bool rfl) B.bool (d_ab (d_w 2) d_an))))))
  exact ⟨C, f, fd, ["self", "word"], (["size", "steps", "starts", "moves"] : List Str), rfl, hcl, by decide, mc, mk, z, F.bindsN fun _ _ _ _ _ _ us hl => match us, hl with | [_, _], _ => rfl⟩
abbrev st__law_cell : Stmt := topS 15
def m__law_cell : FS :=
    (sSeq (sIf (tB' (e2 ltD (eW 1) (eC (f1 lenD) (aC (eW 0) aN)))) (sRet (e2 ixA (eW 0) (eW 1))) sNil)
    (sRet (eI (0))))
def d__law_cell : List D → R D := fun ds => (runF false 2 m__law_cell ds).nox
theorem sc__law_cell : FnScope ["_law_script", "_law_at"] ["_law_script", "_law_at"] (defScope st__law_cell) := ⟨rfl, rfl, rfl, by decide +kernel, rfl, by decide +kernel, by decide +kernel⟩
theorem ok__law_cell {f : Addr} {fd : FuncData} (F : FunD K "_law_cell" "_law_cell" (defArgs st__law_cell) (defBody st__law_cell) (defScope st__law_cell) [] [] f fd) (mgf : mg "_law_cell" = some (.ref f)) (B : Bt mg)  : Callee P w K mg base ⟨K, cl⟩ 1 "_law_cell" 2 false d__law_cell := by
  have nd : (["_law_script", "_law_at"] : List Str).Nodup := sc__law_cell.nd
  have z := fn_ok (P := P) (w := w) (mg := mg) (base := base) (k := ⟨K, cl⟩) (fr := false) (lv := 0) (as := []) (s := m__law_cell) F sc__law_cell fun cdv A outer sh H G0 hr => by
    have hu := hr.units
    have hu5 := hr.units5
    exact (b_cons (s_if (d_tc (o_lt) (d_w 1) (d_bltn (c_len rfl) B.len (d_ab (d_w 0) d_an))) (b_one (s_ret (d_ix (o_ixA rfl hu5) (d_w 0) (d_w 1)))) b_nil)
    (b_one (s_ret d_int)))
  exact ⟨f, fd, ["_law_script", "_law_at"], rfl, z, mgf, F.kp, F.bindsN fun _ _ _ _ _ _ us hl => match us, hl with | [_, _], _ => rfl⟩
abbrev st__law_draws : Stmt := topS 16
def m__law_draws : FS :=
    (sSeq (sSet 3 (eC (f1 absD) (aC (eC d__law_cell (aC (eV 0) (aC (eV 1) aN))) aN)))
    (sSeq (sSet 4 (eI (0)))
    (sSeq (sIf (tB' (e2 geD (eW 3) (e2 powD (eI (10)) (eI (18))))) (sSet 4 (e2 subD (eW 3) (e2 powD (eI (10)) (eI (18))))) sNil)
    (sSeq (sOwn 5 (eL aN))
    (sSeq (sFor (fun S => (aC (eW 2) aN) S >>= rng1) (gN 6) (sIf (tB' (e2 gtD (eW 4) (eI (0)))) (sSeq (sApp 5 (e2 modD (eC (f1 intD) (aC (eW 4) aN)) (eI (60))))
    (sSet 4 (e2 fdivD (eW 4) (eI (60))))) (sSeq (sSet 7 (e2 modD (eC (f1 intD) (aC (e2 addD (e2 addD (e2 addD (e2 mulD (eW 3) (eI (48271))) (e2 mulD (eW 6) (eI (69621)))) (e2 mulD (eW 1) (eI (7919)))) (eI (12345))) aN)) (eI (99991))))
    (sSeq (sSet 7 (e2 modD (eC (f1 intD) (aC (e2 addD (e2 mulD (eW 7) (eW 7)) (e2 mulD (eW 6) (eI (101)))) aN)) (eI (999983))))
    (sSeq (sSet 7 (e2 modD (eC (f1 intD) (aC (e2 addD (e2 mulD (eW 7) (eW 7)) (e2 fdivD (eW 7) (eI (127)))) aN)) (eI (9999991))))
    (sApp 5 (e2 modD (eC (f1 intD) (aC (e2 fdivD (eW 7) (eI (11))) aN)) (eI (60)))))))))
    (sRetO 5))))))
def d__law_draws : List D → R D := fun ds => (runF true 8 m__law_draws ds).nox
theorem sc__law_draws : FnScope ["_law_script", "_law_at", "_law_count", "_law_cell_here", "_law_rest", "_law_found", "_law_k", "_law_mixed"] ["_law_script", "_law_at", "_law_count"] (defScope st__law_draws) := ⟨rfl, rfl, rfl, by decide +kernel, rfl, by decide +kernel, by decide +kernel⟩
theorem ok__law_draws {f : Addr} {fd : FuncData} (F : FunD K "_law_draws" "_law_draws" (defArgs st__law_draws) (defBody st__law_draws) (defScope st__law_draws) [] [] f fd) (mgf : mg "_law_draws" = some (.ref f)) (B : Bt mg) (h__law_cell : Callee P w K mg base ⟨K, cl⟩ 1 "_law_cell" 2 false d__law_cell) : Callee P w K mg base ⟨K, cl⟩ 2 "_law_draws" 3 true d__law_draws := by
  have nd : (["_law_script", "_law_at", "_law_count", "_law_cell_here", "_law_rest", "_law_found", "_law_k", "_law_mixed"] : List Str).Nodup := sc__law_draws.nd
  have z := fn_ok (P := P) (w := w) (mg := mg) (base := base) (k := ⟨K, cl⟩) (fr := true) (lv := 1) (as := [3, 4, 4, 5, 6, 1005, 4, 7, 7, 7, 1005]) (s := m__law_draws) F sc__law_draws fun cdv A outer sh H G0 hr => by
    have hu := hr.units
    have hu5 := hr.units5
    exact (b_cons (s_set 3 nd (d_bltn (c_abs) B.abs (d_ab (d_callS (h__law_cell.at hr (by decide)) (d_ac (d_v 0) (d_ac (d_v 1) d_an)) (len_c (len_c len_n))) d_an)))
    (b_cons (s_set 4 nd d_int)
    (b_cons (s_if (d_tc (o_ge) (d_w 3) (d_op (o_pow) d_int d_int)) (b_one (s_set 4 nd (d_op (o_sub) (d_w 3) (d_op (o_pow) d_int d_int)))) b_nil)
    (b_cons (s_own 5 nd (d_lst d_an))
    (b_cons (s_for PassesOwn.never rfl (i_rng1 B.range (d_ab (d_w 2) d_an)) (g_n 6 nd) (b_one (s_if (d_tc (o_gt) (d_w 4) d_int) (b_cons (s_app 5 (d_op (o_mod) (d_btyp (c_int) B.int (d_ab (d_w 4) d_an)) d_int))
    (b_one (s_set 4 nd (d_op (o_fdiv) (d_w 4) d_int)))) (b_cons (s_set 7 nd (d_op (o_mod) (d_btyp (c_int) B.int (d_ab (d_op (o_add rfl) (d_op (o_add rfl) (d_op (o_add rfl) (d_op (o_mul rfl) (d_w 3) d_int) (d_op (o_mul rfl) (d_w 6) d_int)) (d_op (o_mul rfl) (d_w 1) d_int)) d_int) d_an)) d_int))
    (b_cons (s_set 7 nd (d_op (o_mod) (d_btyp (c_int) B.int (d_ab (d_op (o_add rfl) (d_op (o_mul rfl) (d_w 7) (d_w 7)) (d_op (o_mul rfl) (d_w 6) d_int)) d_an)) d_int))
    (b_cons (s_set 7 nd (d_op (o_mod) (d_btyp (c_int) B.int (d_ab (d_op (o_add rfl) (d_op (o_mul rfl) (d_w 7) (d_w 7)) (d_op (o_fdiv) (d_w 7) d_int)) d_an)) d_int))
    (b_one (s_app 5 (d_op (o_mod) (d_btyp (c_int) B.int (d_ab (d_op (o_fdiv) (d_w 7) d_int) d_an)) d_int)))))))))
    (b_one (s_retO 5)))))))
  exact ⟨f, fd, ["_law_script", "_law_at", "_law_count"], rfl, z, mgf, F.kp, F.bindsN fun _ _ _ _ _ _ us hl => match us, hl with | [_, _, _], _ => rfl⟩
abbrev st__law_share : Stmt := topS 17
def m__law_share : FS :=
    (sSeq (sOwn 2 (eL aN))
    (sSeq (sFor (fun S => (aC (eW 1) aN) S >>= rng1) (gN 3) (sExt 2 (lcE (fun S => (aC (e2 addD (eC (f2 min2D) (aC (eW 3) (aC (eW 0) aN))) (eI (1))) aN) S >>= rng1) (gN 4) (tB' (e2 leD (e2 subD (eW 0) (eW 4)) (e2 subD (eW 1) (eW 3)))) (eT (aC (eV 3) (aC (eV 4) aN))) [4])))
    (sSeq (sOwn 5 (eL aN))
    (sSeq (sFor (fun S => eO 2 S >>= itemsD) (gT 2 (gsC (gN 3) (gsC (gN 4) gsN))) (sFor (fun S => (eT (aC (eI (0)) (aC (eI (1)) aN))) S >>= itemsD) (gN 6) (sSeq (sSet 7 (eT (aC (e2 addD (eW 3) (eI (1))) (aC (eC (f2 min2D) (aC (e2 addD (eW 4) (eW 6)) (aC (eW 0) aN))) aN))))
    (sSeq (sIf (tB' (e2 eqD (eW 7) (eT (aC (eV 1) (aC (eV 0) aN))))) (sSet 7 (eT (aC (eI (0)) (aC (eI (0)) aN)))) sNil)
    (sIf (tB' (e2 inA (eW 7) (eW 2))) (sApp 5 (eT (aC (eIdx (eW 2) (eT (aC (eV 3) (aC (eV 4) aN)))) (aC (eV 6) (aC (eIdx (eW 2) (eW 7)) aN))))) sNil)))))
    (sFz 5 (sRet (eT (aC (eC (f1 lenD) (aC (eW 2) aN)) (aC (eV 5) aN)))))))))
def d__law_share : List D → R D := fun ds => (runF false 8 m__law_share ds).nox
theorem sc__law_share : FnScope ["_law_q", "_law_p", "_law_pairs", "_law_i", "_law_k", "_law_steps", "_law_tick", "_law_then"] ["_law_q", "_law_p"] (defScope st__law_share) := ⟨rfl, rfl, rfl, by decide +kernel, rfl, by decide +kernel, by decide +kernel⟩
theorem ok__law_share {f : Addr} {fd : FuncData} (F : FunD K "_law_share" "_law_share" (defArgs st__law_share) (defBody st__law_share) (defScope st__law_share) [] [] f fd) (mgf : mg "_law_share" = some (.ref f)) (B : Bt mg)  : Callee P w K mg base ⟨K, cl⟩ 1 "_law_share" 2 false d__law_share := by
  have nd : (["_law_q", "_law_p", "_law_pairs", "_law_i", "_law_k", "_law_steps", "_law_tick", "_law_then"] : List Str).Nodup := sc__law_share.nd
  have z := fn_ok (P := P) (w := w) (mg := mg) (base := base) (k := ⟨K, cl⟩) (fr := false) (lv := 0) (as := [2, 3, 1002, 5, 3, 4, 6, 7, 7, 1005, 5]) (s := m__law_share) F sc__law_share fun cdv A outer sh H G0 hr => by
    have hu := hr.units
    have hu5 := hr.units5
    exact (b_cons (s_own 2 nd (d_lst d_an))
    (b_cons (s_for PassesOwn.never rfl (i_rng1 B.range (d_ab (d_w 1) d_an)) (g_n 3 nd) (b_one (s_ext 2 (d_lc [("_law_k", 4)] rfl nd (i_rng1 B.range (d_ab (d_op (o_add rfl) (d_bltn (c_min2 rfl) B.min (d_ab (d_w 3) (d_ab (d_w 0) d_an))) d_int) d_an)) (blkOk_by (N := ["_law_q", "_law_p", "_law_pairs", "_law_i", "_law_k", "_law_steps", "_law_tick", "_law_then"]) (sc := (defScope st__law_share)) (by decide +kernel)) (fun _ _ _ _ _ => (g_n 4 nd)) (fun _ _ _ _ _ => (ts_1 (d_tc (o_le) (d_op (o_sub) (d_w 0) (d_w 4)) (d_op (o_sub) (d_w 1) (d_w 3))))) (fun _ _ _ _ _ => (d_tup (d_ac (d_v 3) (d_ac (d_v 4) d_an))))))))
    (b_cons (s_own 5 nd (d_lst d_an))
    (b_cons (s_for PassesOwn.never rfl (i_own 2) (g_t rfl rfl (gs_c (g_n 3 nd) (gs_c (g_n 4 nd) gs_n))) (b_one (s_for PassesOwn.never rfl (i_seq rfl (d_tup (d_ac d_int (d_ac d_int d_an)))) (g_n 6 nd) (b_cons (s_set 7 nd (d_tup (d_ac (d_op (o_add rfl) (d_w 3) d_int) (d_ac (d_bltn (c_min2 rfl) B.min (d_ab (d_op (o_add rfl) (d_w 4) (d_w 6)) (d_ab (d_w 0) d_an))) d_an))))
    (b_cons (s_if (d_tc (o_eq rfl hu) (d_w 7) (d_tup (d_ac (d_v 1) (d_ac (d_v 0) d_an)))) (b_one (s_set 7 nd (d_tup (d_ac d_int (d_ac d_int d_an))))) b_nil)
    (b_one (s_if (d_tc (o_inA rfl hu5) (d_w 7) (d_w 2)) (b_one (s_app 5 (d_tup (d_ac (d_idx rfl hu5 (d_w 2) (d_tup (d_ac (d_v 3) (d_ac (d_v 4) d_an)))) (d_ac (d_v 6) (d_ac (d_idx rfl hu5 (d_w 2) (d_w 7)) d_an)))))) b_nil)))))))
    (b_one (s_fz 5 (s_ret (d_tup (d_ac (d_bltn (c_len rfl) B.len (d_ab (d_w 2) d_an)) (d_ac (d_v 5) d_an))))))))))
  exact ⟨f, fd, ["_law_q", "_law_p"], rfl, z, mgf, F.kp, F.bindsN fun _ _ _ _ _ _ us hl => match us, hl with | [_, _], _ => rfl⟩
abbrev st__law_pair : Stmt := topS 18
def m__law_pair : FS :=
    (sSeq (sIf (tB' (e2 eqD (eT (aC (eV 0) (aC (eV 1) aN))) (eT (aC (eV 2) (aC (eV 3) aN))))) (sRet (eT (aC (eI (0)) (aC (eI (0)) aN)))) sNil)
    (sSeq (sIf (tA (tB' (e2 ltD (eW 0) (eW 2))) (tA (tB' (e3 leD leD (eI (0)) (eW 1) (eC (f2 min2D) (aC (eW 0) (aC (eW 3) aN))))) (tB' (e2 leD (e2 subD (eW 3) (eW 1)) (e2 subD (eW 2) (eW 0)))))) (sRet (eT (aC (eV 0) (aC (eV 1) aN)))) sNil)
    (sRet eN)))
def d__law_pair : List D → R D := fun ds => (runF false 4 m__law_pair ds).nox
theorem sc__law_pair : FnScope ["_law_i", "_law_k", "_law_p", "_law_q"] ["_law_i", "_law_k", "_law_p", "_law_q"] (defScope st__law_pair) := ⟨rfl, rfl, rfl, by decide +kernel, rfl, by decide +kernel, by decide +kernel⟩
theorem ok__law_pair {f : Addr} {fd : FuncData} (F : FunD K "_law_pair" "_law_pair" (defArgs st__law_pair) (defBody st__law_pair) (defScope st__law_pair) [] [] f fd) (mgf : mg "_law_pair" = some (.ref f)) (B : Bt mg)  : Callee P w K mg base ⟨K, cl⟩ 1 "_law_pair" 4 false d__law_pair := by
  have nd : (["_law_i", "_law_k", "_law_p", "_law_q"] : List Str).Nodup := sc__law_pair.nd
  have z := fn_ok (P := P) (w := w) (mg := mg) (base := base) (k := ⟨K, cl⟩) (fr := false) (lv := 0) (as := []) (s := m__law_pair) F sc__law_pair fun cdv A outer sh H G0 hr => by
    have hu := hr.units
    have hu5 := hr.units5
    exact (b_cons (s_if (d_tc (o_eq rfl hu) (d_tup (d_ac (d_v 0) (d_ac (d_v 1) d_an))) (d_tup (d_ac (d_v 2) (d_ac (d_v 3) d_an)))) (b_one (s_ret (d_tup (d_ac d_int (d_ac d_int d_an))))) b_nil)
    (b_cons (s_if (d_pw (d_and (d_tc (o_lt) (d_w 0) (d_w 2)) (d_and (d_tch (o_le) (o_le) d_int (d_w 1) (d_bltn (c_min2 rfl) B.min (d_ab (d_w 0) (d_ab (d_w 3) d_an)))) (d_and1 (d_tc (o_le) (d_op (o_sub) (d_w 3) (d_w 1)) (d_op (o_sub) (d_w 2) (d_w 0))))))) (b_one (s_ret (d_tup (d_ac (d_v 0) (d_ac (d_v 1) d_an))))) b_nil)
    (b_one (s_ret d_non))))
  exact ⟨f, fd, ["_law_i", "_law_k", "_law_p", "_law_q"], rfl, z, mgf, F.kp, F.bindsN fun _ _ _ _ _ _ us hl => match us, hl with | [_, _, _, _], _ => rfl⟩
abbrev st__law_refused : Stmt := topS 19
def m__law_refused : FS :=
    (sSeq (sTryAs mt_InvalidSupply 2 (sDrop (eCMX 14 d_Supply_share (eG (.cls 14)) (aC (eV 0) (aC (eV 1) aN)))) fun y => (sRet (eAnd (eC (f2 (isXD xtab y)) (aC (eW 2) (aC (eG (.cls 10)) aN))) (eAnd (eC (f2 (isXD xtab y)) (aC (eW 2) (aC (eY "ValueError") aN))) (eNot (eC (f2 (isXD xtab y)) (aC (eW 2) (aC (eG (.cls 13)) aN))))))))
    (sRet (eB false)))
def d__law_refused : List D → R D := fun ds => (runF false 3 m__law_refused ds).nox
theorem sc__law_refused : FnScope ["_law_q", "_law_p", "e"] ["_law_q", "_law_p"] (defScope st__law_refused) := ⟨rfl, rfl, rfl, by decide +kernel, rfl, by decide +kernel, by decide +kernel⟩
theorem ok__law_refused {f : Addr} {fd : FuncData} (F : FunD K "_law_refused" "_law_refused" (defArgs st__law_refused) (defBody st__law_refused) (defScope st__law_refused) [] [] f fd) (mgf : mg "_law_refused" = some (.ref f)) (B : Bt mg) (Y_InvalidSupply : TryC K mg ⟨K, cl⟩ "InvalidSupply" mt_InvalidSupply) (h0 : cl xix = none) (h_Supply_share : CmethX P w K mg base ⟨K, cl⟩ 4 14 "share" 3 true d_Supply_share) (g_Supply : Gc mg ⟨K, cl⟩ "Supply" (.cls 14)) (hXT : ∀ ci t b, xtab ci t = some b → IsT K ⟨K, cl⟩ ci t b) (g_BreachError : Gc mg ⟨K, cl⟩ "BreachError" (.cls 10)) (g_InvalidTask : Gc mg ⟨K, cl⟩ "InvalidTask" (.cls 13)) : Callee P w K mg base ⟨K, cl⟩ 5 "_law_refused" 2 false d__law_refused := by
  have nd : (["_law_q", "_law_p", "e"] : List Str).Nodup := sc__law_refused.nd
  have z := fn_ok (P := P) (w := w) (mg := mg) (base := base) (k := ⟨K, cl⟩) (fr := false) (lv := 4) (as := []) (s := m__law_refused) F sc__law_refused fun cdv A outer sh H G0 hr => by
    have hu := hr.units
    have hu5 := hr.units5
    exact (b_cons (s_try Y_InvalidSupply nd takes0 h0 (fun W pn xe H0 G0 tkW pa => (b1_one (s1_drop (d_cmethXF 14 h_Supply_share hr (by decide) tkW (d_g g_Supply) (d_ac (d_v 0) (d_ac (d_v 1) d_an)) (len_c (len_c len_n)))))) (fun a oe cls d pn H0 G0 y hh => (b_one (s_ret (d_vand (d_isX hh rfl hXT B.isinstance (d_ab (d_w 2) (d_ab (d_g (Gc.up h0 g_BreachError)) d_an))) (d_vand (d_isX hh rfl hXT B.isinstance (d_ab (d_w 2) (d_ab (d_ty "ValueError" B.ValueError) d_an))) (d_vone (d_vnot (d_isX hh rfl hXT B.isinstance (d_ab (d_w 2) (d_ab (d_g (Gc.up h0 g_InvalidTask)) d_an)))))))))))
    (b_one (s_ret d_bl)))
  exact ⟨f, fd, ["_law_q", "_law_p"], rfl, z, mgf, F.kp, F.bindsN fun _ _ _ _ _ _ us hl => match us, hl with | [_, _], _ => rfl⟩
abbrev st__law_is_tuple : Stmt := topS 20
def m__law_is_tuple : FS :=
    (sSeq (sIf (tO (tNo (tT' (eC (f2 isiD) (aC (eW 0) (aC (eY "tuple") aN))))) (tB' (e2 neD (eC (f1 lenD) (aC (eW 0) aN)) (eC (f1 lenD) (aC (eW 1) aN))))) (sRet (eB false)) sNil)
    (sRet (eC (f1 allD) (aC (lcE (fun S => (aC (eV 0) (aC (eV 1) aN)) S >>= zipF) (gT 2 (gsC (gN 2) (gsC (gN 3) gsN))) tY (eAnd (eC (f2 isiD) (aC (eW 2) (aC (eY "int") aN))) (eAnd (eNot (eC (f2 isiD) (aC (eW 2) (aC (eY "bool") aN)))) (e2 eqD (eW 2) (eW 3)))) [2, 3]) aN))))
def d__law_is_tuple : List D → R D := fun ds => (runF false 4 m__law_is_tuple ds).nox
theorem sc__law_is_tuple : FnScope ["_law_given", "_law_due", "_law_one", "_law_two"] ["_law_given", "_law_due"] (defScope st__law_is_tuple) := ⟨rfl, rfl, rfl, by decide +kernel, rfl, by decide +kernel, by decide +kernel⟩
theorem ok__law_is_tuple {f : Addr} {fd : FuncData} (F : FunD K "_law_is_tuple" "_law_is_tuple" (defArgs st__law_is_tuple) (defBody st__law_is_tuple) (defScope st__law_is_tuple) [] [] f fd) (mgf : mg "_law_is_tuple" = some (.ref f)) (B : Bt mg)  : Callee P w K mg base ⟨K, cl⟩ 1 "_law_is_tuple" 2 false d__law_is_tuple := by
  have nd : (["_law_given", "_law_due", "_law_one", "_law_two"] : List Str).Nodup := sc__law_is_tuple.nd
  have z := fn_ok (P := P) (w := w) (mg := mg) (base := base) (k := ⟨K, cl⟩) (fr := false) (lv := 0) (as := []) (s := m__law_is_tuple) F sc__law_is_tuple fun cdv A outer sh H G0 hr => by
    have hu := hr.units
    have hu5 := hr.units5
    exact (b_cons (s_if (d_pw (d_or (d_not (d_tt rfl (d_bltn (c_isi rfl) B.isinstance (d_ab (d_w 0) (d_ab (d_ty "tuple" B.tuple) d_an))))) (d_or1 (d_tc (o_ne rfl hu) (d_bltn (c_len rfl) B.len (d_ab (d_w 0) d_an)) (d_bltn (c_len rfl) B.len (d_ab (d_w 1) d_an)))))) (b_one (s_ret d_bl)) b_nil)
    (b_one (s_ret (d_bltn (c_all rfl) B.all (d_ab (d_lc [("_law_one", 2), ("_law_two", 3)] rfl nd (i_zip rfl B.zip (d_ac (d_v 0) (d_ac (d_v 1) d_an))) (blkOk_by (N := ["_law_given", "_law_due", "_law_one", "_law_two"]) (sc := (defScope st__law_is_tuple)) (by decide +kernel)) (fun _ _ _ _ _ => (g_t rfl rfl (gs_c (g_n 2 nd) (gs_c (g_n 3 nd) gs_n)))) (fun _ _ _ _ _ => ts_n) (fun _ _ _ _ _ => (d_vand (d_bltn (c_isi rfl) B.isinstance (d_ab (d_w 2) (d_ab (d_ty "int" B.int) d_an))) (d_vand (d_vnot (d_bltn (c_isi rfl) B.isinstance (d_ab (d_w 2) (d_ab (d_ty "bool" B.bool) d_an)))) (d_vone (d_cmp (o_eq rfl hu) (d_w 2) (d_w 3))))))) d_an)))))
  exact ⟨f, fd, ["_law_given", "_law_due"], rfl, z, mgf, F.kp, F.bindsN fun _ _ _ _ _ _ us hl => match us, hl with | [_, _], _ => rfl⟩
abbrev st_law : Stmt := topS 21
def m_law : FS :=
    (sSeq (sSet 1 (eC d__law_draws (aC (eV 0) (aC (eI (0)) (aC (eI (8)) aN)))))
    (sSeq (sSet 2 (e2 addD (eI (1)) (e2 modD (eC (f1 intD) (aC (e2 ixA (eW 1) (eI (0))) aN)) (eI (8)))))
    (sSeq (sSet 3 (e2 modD (eC (f1 intD) (aC (e2 ixA (eW 1) (eI (1))) aN)) (e2 addD (eW 2) (eI (1)))))
    (sSeq (sSet 4 (eCMX 14 d_Supply_share (eG (.cls 14)) (aC (eV 3) (aC (eV 2) aN))))
    (sSeq (sAsg (gT 2 (gsC (gN 5) (gsC (gN 6) gsN))) (eC d__law_share (aC (eV 3) (aC (eV 2) aN))))
    (sSeq (sIf (tO (tT' (eC (f2 isiD) (aC (e1 (fldD 14 0) (eW 4)) (aC (eY "bool") aN)))) (tO (tB' (e2 neD (e1 (fldD 14 0) (eW 4)) (eW 5))) (tB' (e2 neD (e1 (fldD 14 1) (eW 4)) (eC (f1 tupD) (aC (eC (f1 srtAD) (aC (eW 6) aN)) aN)))))) (sRet (eB false)) sNil)
    (sSeq (sIf (tO (tB' (e2 neD (e1 (fldD 14 2) (eW 4)) (eT (aC (eI (0)) aN)))) (tB' (eHas 14 d_Supply___contains__ true (eT aN) (eV 4)))) (sRet (eB false)) sNil)
    (sSeq (sOwn 7 (eL aN))
    (sSeq (sFor (fun S => (aC (eW 2) aN) S >>= rng1) (gN 8) (sExt 7 (lcE (fun S => (aC (e2 addD (eW 3) (eI (1))) aN) S >>= rng1) (gN 17) (tB' (e2 isntD (eC d__law_pair (aC (eV 8) (aC (eV 17) (aC (eV 2) (aC (eV 3) aN))))) eN)) (eT (aC (eV 8) (aC (eV 17) aN))) [17])))
    (sSeq (sAsg (gT 3 (gsC (gN 9) (gsC (gN 10) (gsC (gN 11) gsN)))) (eT (aC (eT (aC (eI (0)) (aC (eI (0)) aN))) (aC (eT (aC (eI (0)) aN)) (aC (eT aN) aN)))))
    (sSeq (sFor (fun S => (eC d__law_draws (aC (eV 0) (aC (eI (1)) (aC (eI (20)) aN)))) S >>= itemsD) (gN 12) (sSeq (sSet 13 (e2 modD (eC (f1 intD) (aC (eW 12) aN)) (eI (2))))
    (sSeq (sIf (tB' (e2 eqD (e2 modD (eC (f1 intD) (aC (e2 ixA (eW 1) (eI (2))) aN)) (eI (2))) (eI (1)))) (sSet 13 (eC (f2 min2D) (aC (eI (1)) (aC (e2 modD (eC (f1 intD) (aC (eW 12) aN)) (eI (6))) aN)))) sNil)
    (sSeq (sSet 11 (e2 addD (eW 11) (eT (aC (eV 13) aN))))
    (sSeq (sIf (tB' (e2 isntD (eW 9) eN)) (sSet 9 (eC d__law_pair (aC (e2 addD (e2 ixA (eW 9) (eI (0))) (eI (1))) (aC (eC (f2 min2D) (aC (e2 addD (e2 ixA (eW 9) (eI (1))) (eW 13)) (aC (eW 3) aN))) (aC (eV 2) (aC (eV 3) aN)))))) sNil)
    (sSeq (sSet 14 (eT aN))
    (sSeq (sIf (tB' (e2 isntD (eW 9) eN)) (sSet 14 (eT (aC (eIdx (eW 7) (eW 9)) aN))) sNil)
    (sSeq (sSet 10 (eM 14 d_Supply_after (eV 4) (aC (eV 10) (aC (eV 13) aN))))
    (sIf (tO (tNo (tT' (eC d__law_is_tuple (aC (eV 10) (aC (eV 14) aN))))) (tB' (e2 neD (eHas 14 d_Supply___contains__ false (eV 11) (eV 4)) (e2 isntD (eW 9) eN)))) (sRet (eB false)) sNil)))))))))
    (sSeq (sSet 15 (eL (aC (eT (aC (e2 subD (e1 negD (eI (1))) (e2 ixA (eW 1) (eI (3)))) (aC (eV 2) aN))) (aC (eT (aC (e2 addD (e2 addD (eW 2) (eI (1))) (e2 ixA (eW 1) (eI (4)))) (aC (eV 2) aN))) (aC (eT (aC (eI (0)) (aC (e1 negD (e2 ixA (eW 1) (eI (5)))) aN))) (aC (eT (aC (eI (0)) (aC (e2 addD (eI (9)) (e2 ixA (eW 1) (eI (6)))) aN))) (aC (eT (aC (e2 addD (eI (9)) (e2 ixA (eW 1) (eI (6)))) (aC (e2 addD (eI (9)) (e2 ixA (eW 1) (eI (6)))) aN))) aN)))))))
    (sSeq (sSet 16 (eL (aC (e1 (fldD 14 0) (eCMX 14 d_Supply_share (eG (.cls 14)) (aC (eI (0)) (aC (eI (1)) aN)))) (aC (e1 (fldD 14 0) (eCMX 14 d_Supply_share (eG (.cls 14)) (aC (eI (1)) (aC (eI (1)) aN)))) (aC (e1 (fldD 14 0) (eCMX 14 d_Supply_share (eG (.cls 14)) (aC (eI (8)) (aC (eI (8)) aN)))) (aC (e1 (fldD 14 0) (eCMX 14 d_Supply_share (eG (.cls 14)) (aC (eI (0)) (aC (eI (8)) aN)))) aN))))))
    (sRet (eAnd (eC (f1 allD) (aC (lcE (fun S => (eV 15) S >>= itemsD) (gT 2 (gsC (gN 18) (gsC (gN 19) gsN))) tY (eC d__law_refused (aC (eV 18) (aC (eV 19) aN))) [18, 19]) aN)) (e2 eqD (eW 16) (eL (aC (eI (1)) (aC (eI (1)) (aC (eI (8)) (aC (eI (8)) aN)))))))))))))))))))))
def d_law : List D → R D := fun ds => (runF false 20 m_law ds).nox
theorem sc_law : FnScope ["_law_script", "_law_d", "_law_p", "_law_q", "_law_supply", "_law_size", "_law_steps", "_law_pairs", "_law_i", "_law_pair_here", "_law_states", "_law_word", "_law_draw", "_law_tick", "_law_due", "_law_bad", "_law_good", "_law_k", "_law_one", "_law_two"] ["_law_script"] (defScope st_law) := ⟨rfl, rfl, rfl, by decide +kernel, rfl, by decide +kernel, by decide +kernel⟩
theorem ok_law {f : Addr} {fd : FuncData} (F : FunD K "law" "law" (defArgs st_law) (defBody st_law) (defScope st_law) [] [] f fd) (mgf : mg "law" = some (.ref f)) (B : Bt mg) (h__law_draws : Callee P w K mg base ⟨K, cl⟩ 2 "_law_draws" 3 true d__law_draws) (h_Supply_share : CmethX P w K mg base ⟨K, cl⟩ 4 14 "share" 3 true d_Supply_share) (g_Supply : Gc mg ⟨K, cl⟩ "Supply" (.cls 14)) (h__law_share : Callee P w K mg base ⟨K, cl⟩ 1 "_law_share" 2 false d__law_share) (C_Supply : ClsI K ⟨K, cl⟩ 14 (["size", "steps", "starts", "moves"] : List Str)) (h_Supply___contains__ : Method P w K mg base ⟨K, cl⟩ 1 14 "__contains__" 2 false d_Supply___contains__) (h__law_pair : Callee P w K mg base ⟨K, cl⟩ 1 "_law_pair" 4 false d__law_pair) (h_Supply_after : Method P w K mg base ⟨K, cl⟩ 1 14 "after" 3 false d_Supply_after) (h__law_is_tuple : Callee P w K mg base ⟨K, cl⟩ 1 "_law_is_tuple" 2 false d__law_is_tuple) (h__law_refused : Callee P w K mg base ⟨K, cl⟩ 5 "_law_refused" 2 false d__law_refused) : FnOk P w K mg base CX0 6 f fd ["_law_script"] (SpF ⟨K, cl⟩ false 1 d_law) := by
  have nd : (["_law_script", "_law_d", "_law_p", "_law_q", "_law_supply", "_law_size", "_law_steps", "_law_pairs", "_law_i", "_law_pair_here", "_law_states", "_law_word", "_law_draw", "_law_tick", "_law_due", "_law_bad", "_law_good", "_law_k", "_law_one", "_law_two"] : List Str).Nodup := sc_law.nd
  have z := fn_ok (P := P) (w := w) (mg := mg) (base := base) (k := ⟨K, cl⟩) (fr := false) (lv := 5) (as := [1, 2, 3, 4, 5, 6, 7, 8, 1007, 9, 10, 11, 12, 13, 13, 11, 9, 14, 14, 10, 15, 16]) (s := m_law) F sc_law fun cdv A outer sh H G0 hr => by
    have hu := hr.units
    have hu5 := hr.units5
    exact (b_cons (s_set 1 nd (d_z (d_callF (h__law_draws.at hr (by decide)) (d_ac (d_v 0) (d_ac d_int (d_ac d_int d_an))) (len_c (len_c (len_c len_n))))))
    (b_cons (s_set 2 nd (d_op (o_add rfl) d_int (d_op (o_mod) (d_btyp (c_int) B.int (d_ab (d_ix (o_ixA rfl hu5) (d_w 1) d_int) d_an)) d_int)))
    (b_cons (s_set 3 nd (d_op (o_mod) (d_btyp (c_int) B.int (d_ab (d_ix (o_ixA rfl hu5) (d_w 1) d_int) d_an)) (d_op (o_add rfl) (d_w 2) d_int)))
    (b_cons (s_set 4 nd (d_z (d_cmethXF 14 h_Supply_share hr (by decide) takes0 (d_g g_Supply) (d_ac (d_v 3) (d_ac (d_v 2) d_an)) (len_c (len_c len_n)))))
    (b_cons (s_asg (d_callS (h__law_share.at hr (by decide)) (d_ac (d_v 3) (d_ac (d_v 2) d_an)) (len_c (len_c len_n))) (g_t rfl rfl (gs_c (g_n 5 nd) (gs_c (g_n 6 nd) gs_n))))
    (b_cons (s_if (d_pw (d_or (d_tt rfl (d_bltn (c_isi rfl) B.isinstance (d_ab (d_fld 14 0 C_Supply rfl (d_w 4)) (d_ab (d_ty "bool" B.bool) d_an)))) (d_or (d_tc (o_ne rfl hu) (d_fld 14 0 C_Supply rfl (d_w 4)) (d_w 5)) (d_or1 (d_tc (o_ne rfl hu) (d_fld 14 1 C_Supply rfl (d_w 4)) (d_btyp (c_tup rfl) B.tuple (d_ab (d_bltn (c_srtA rfl hu) B.sorted (d_ab (d_w 6) d_an)) d_an))))))) (b_one (s_ret d_bl)) b_nil)
    (b_cons (s_if (d_pw (d_or (d_tc (o_ne rfl hu) (d_fld 14 2 C_Supply rfl (d_w 4)) (d_tup (d_ac d_int d_an))) (d_or1 (d_hasNiT (ci := 14) h_Supply___contains__ hr (by decide) (d_tup d_an) (d_v 4))))) (b_one (s_ret d_bl)) b_nil)
    (b_cons (s_own 7 nd (d_lst d_an))
    (b_cons (s_for PassesOwn.never rfl (i_rng1 B.range (d_ab (d_w 2) d_an)) (g_n 8 nd) (b_one (s_ext 7 (d_lc [("_law_k", 17)] rfl nd (i_rng1 B.range (d_ab (d_op (o_add rfl) (d_w 3) d_int) d_an)) (blkOk_by (N := ["_law_script", "_law_d", "_law_p", "_law_q", "_law_supply", "_law_size", "_law_steps", "_law_pairs", "_law_i", "_law_pair_here", "_law_states", "_law_word", "_law_draw", "_law_tick", "_law_due", "_law_bad", "_law_good", "_law_k", "_law_one", "_law_two"]) (sc := (defScope st_law)) (by decide +kernel)) (fun _ _ _ _ _ => (g_n 17 nd)) (fun _ _ _ _ _ => (ts_1 (d_tc (o_isnt) (d_callS (h__law_pair.at hr (by decide)) (d_ac (d_v 8) (d_ac (d_v 17) (d_ac (d_v 2) (d_ac (d_v 3) d_an)))) (len_c (len_c (len_c (len_c len_n))))) d_non))) (fun _ _ _ _ _ => (d_tup (d_ac (d_v 8) (d_ac (d_v 17) d_an))))))))
    (b_cons (s_asg (d_tup (d_ac (d_tup (d_ac d_int (d_ac d_int d_an))) (d_ac (d_tup (d_ac d_int d_an)) (d_ac (d_tup d_an) d_an)))) (g_t rfl rfl (gs_c (g_n 9 nd) (gs_c (g_n 10 nd) (gs_c (g_n 11 nd) gs_n)))))
    (b_cons (s_for PassesOwn.never rfl (i_seq rfl (d_z (d_callF (h__law_draws.at hr (by decide)) (d_ac (d_v 0) (d_ac d_int (d_ac d_int d_an))) (len_c (len_c (len_c len_n)))))) (g_n 12 nd) (b_cons (s_set 13 nd (d_op (o_mod) (d_btyp (c_int) B.int (d_ab (d_w 12) d_an)) d_int))
    (b_cons (s_if (d_tc (o_eq rfl hu) (d_op (o_mod) (d_btyp (c_int) B.int (d_ab (d_ix (o_ixA rfl hu5) (d_w 1) d_int) d_an)) d_int) d_int) (b_one (s_set 13 nd (d_bltn (c_min2 rfl) B.min (d_ab d_int (d_ab (d_op (o_mod) (d_btyp (c_int) B.int (d_ab (d_w 12) d_an)) d_int) d_an))))) b_nil)
    (b_cons (s_set 11 nd (d_op (o_add rfl) (d_w 11) (d_tup (d_ac (d_v 13) d_an))))
    (b_cons (s_if (d_tc (o_isnt) (d_w 9) d_non) (b_one (s_set 9 nd (d_callS (h__law_pair.at hr (by decide)) (d_ac (d_op (o_add rfl) (d_ix (o_ixA rfl hu5) (d_w 9) d_int) d_int) (d_ac (d_bltn (c_min2 rfl) B.min (d_ab (d_op (o_add rfl) (d_ix (o_ixA rfl hu5) (d_w 9) d_int) (d_w 13)) (d_ab (d_w 3) d_an))) (d_ac (d_v 2) (d_ac (d_v 3) d_an)))) (len_c (len_c (len_c (len_c len_n))))))) b_nil)
    (b_cons (s_set 14 nd (d_tup d_an))
    (b_cons (s_if (d_tc (o_isnt) (d_w 9) d_non) (b_one (s_set 14 nd (d_tup (d_ac (d_idx rfl hu5 (d_w 7) (d_w 9)) d_an)))) b_nil)
    (b_cons (s_set 10 nd (d_methS 14 h_Supply_after hr (by decide) (d_v 4) (d_ac (d_v 10) (d_ac (d_v 13) d_an)) (len_c (len_c len_n))))
    (b_one (s_if (d_pw (d_or (d_not (d_tt rfl (d_callS (h__law_is_tuple.at hr (by decide)) (d_ac (d_v 10) (d_ac (d_v 14) d_an)) (len_c (len_c len_n))))) (d_or1 (d_tc (o_ne rfl hu) (d_hasIn (ci := 14) h_Supply___contains__ hr (by decide) (d_v 11) (d_v 4)) (d_cmp (o_isnt) (d_w 9) d_non))))) (b_one (s_ret d_bl)) b_nil))))))))))
    (b_cons (s_set 15 nd (d_z (d_lst (d_ac (d_tup (d_ac (d_op (o_sub) (d_un o_neg d_int) (d_ix (o_ixA rfl hu5) (d_w 1) d_int)) (d_ac (d_v 2) d_an))) (d_ac (d_tup (d_ac (d_op (o_add rfl) (d_op (o_add rfl) (d_w 2) d_int) (d_ix (o_ixA rfl hu5) (d_w 1) d_int)) (d_ac (d_v 2) d_an))) (d_ac (d_tup (d_ac d_int (d_ac (d_un o_neg (d_ix (o_ixA rfl hu5) (d_w 1) d_int)) d_an))) (d_ac (d_tup (d_ac d_int (d_ac (d_op (o_add rfl) d_int (d_ix (o_ixA rfl hu5) (d_w 1) d_int)) d_an))) (d_ac (d_tup (d_ac (d_op (o_add rfl) d_int (d_ix (o_ixA rfl hu5) (d_w 1) d_int)) (d_ac (d_op (o_add rfl) d_int (d_ix (o_ixA rfl hu5) (d_w 1) d_int)) d_an))) d_an))))))))
    (b_cons (s_set 16 nd (d_z (d_lst (d_ac (d_fld 14 0 C_Supply rfl (d_cmethXF 14 h_Supply_share hr (by decide) takes0 (d_g g_Supply) (d_ac d_int (d_ac d_int d_an)) (len_c (len_c len_n)))) (d_ac (d_fld 14 0 C_Supply rfl (d_cmethXF 14 h_Supply_share hr (by decide) takes0 (d_g g_Supply) (d_ac d_int (d_ac d_int d_an)) (len_c (len_c len_n)))) (d_ac (d_fld 14 0 C_Supply rfl (d_cmethXF 14 h_Supply_share hr (by decide) takes0 (d_g g_Supply) (d_ac d_int (d_ac d_int d_an)) (len_c (len_c len_n)))) (d_ac (d_fld 14 0 C_Supply rfl (d_cmethXF 14 h_Supply_share hr (by decide) takes0 (d_g g_Supply) (d_ac d_int (d_ac d_int d_an)) (len_c (len_c len_n)))) d_an)))))))
    (b_one (s_ret (d_vand (d_bltn (c_all rfl) B.all (d_ab (d_lc [("_law_one", 18), ("_law_two", 19)] rfl nd (i_seq rfl (d_v 15)) (blkOk_by (N := ["_law_script", "_law_d", "_law_p", "_law_q", "_law_supply", "_law_size", "_law_steps", "_law_pairs", "_law_i", "_law_pair_here", "_law_states", "_law_word", "_law_draw", "_law_tick", "_law_due", "_law_bad", "_law_good", "_law_k", "_law_one", "_law_two"]) (sc := (defScope st_law)) (by decide +kernel)) (fun _ _ _ _ _ => (g_t rfl rfl (gs_c (g_n 18 nd) (gs_c (g_n 19 nd) gs_n)))) (fun _ _ _ _ _ => ts_n) (fun _ _ _ _ _ => (d_callS (h__law_refused.at hr (by decide)) (d_ac (d_v 18) (d_ac (d_v 19) d_an)) (len_c (len_c len_n))))) d_an)) (d_vone (d_cmp (o_eq rfl hu) (d_w 16) (d_lst (d_ac d_int (d_ac d_int (d_ac d_int (d_ac d_int d_an)))))))))))))))))))))))
  exact z
end
end Pf
set_option Elab.async false
set_option linter.all false
set_option maxRecDepth 100000
namespace Pf
open M PySem L2
/-- draws -/
def drawn (n : Nat) (d : D) : Prop := ∃ l : List Int, d = .lst (l.map .int) ∧ l.length = n ∧ ∀ x ∈ l, 0 ≤ x ∧ x < 720720
def EN : List Str := ["", "a", "b", "c", "ab", "ac", "bc", "abc"]
def planD (p : List Str) : D := .tup (p.map .str)
structure Nd (p : List Str) (due : Int) : Prop where
  ne : 1 ≤ p.length
  le : p.length ≤ 4
  lo : (p.length : Int) ≤ due
  hi : due ≤ 8
  en : ∀ e ∈ p, e ∈ EN
def nodeD (p : List Str) (due : Int) : D := .tup [planD p, .int due]
def edgeD (u v g : Int) : D := .tup [.int u, .int v, .int g]
theorem drawn.ix {n : Nat} {d : D} (h : drawn n d) {i : Int} (h0 : 0 ≤ i) (h1 : i < n) : Ok (ixD d (.int i)) fun z => ∃ x : Int, z = .int x ∧ 0 ≤ x ∧ x < 720720 := by
  obtain ⟨l, rfl, hl, hm⟩ := h
  rw [k_ixL]
  obtain ⟨a, ha⟩ := atI_lt (xs := l.map D.int) h0 (by rw [List.length_map]; omega)
  obtain ⟨x, hx, rfl⟩ := List.mem_map.mp (atI_mem ha)
  exact ⟨_, ha, x, rfl, hm x hx⟩
theorem mod_b (x : Int) {m : Int} (h : 0 < m) : 0 ≤ x % m ∧ x % m < m := ⟨Int.emod_nonneg _ (by omega), Int.emod_lt_of_pos _ h⟩
theorem k_min2 {a b : Int} {Q : D → Prop} : Ok (min2D (.int a) (.int b)) Q ↔ Q (.int (if b < a then b else a)) := ok_ok
theorem k_max2 {a b : Int} {Q : D → Prop} : Ok (max2D (.int a) (.int b)) Q ↔ Q (.int (if b > a then b else a)) := ok_ok
theorem drawn.snoc {l : List Int} {n : Nat} {x : Int} (hm : l.length = n ∧ ∀ x ∈ l, 0 ≤ x ∧ x < 720720) (hx : 0 ≤ x ∧ x < 720720) : (l ++ [x]).length = n + 1 ∧ ∀ z ∈ l ++ [x], 0 ≤ z ∧ z < 720720 := by
  refine ⟨by simp [hm.1], fun z hz => ?_⟩
  rcases List.mem_append.mp hz with h | h
  · exact hm.2 z h
  · rw [List.mem_singleton] at h; subst h; exact hx
end Pf
set_option Elab.async false
set_option linter.all false
set_option maxRecDepth 100000
namespace Pf
open M PySem L2
mutual
theorem deq_self : ∀ (n : Nat) (d : D), dok n d = true → deq d d = true
  | _, .non, _ => by simp [deq]
  | _, .bl b, _ => by simp [deq]
  | _, .int b, _ => by simp [deq]
  | _, .str b, _ => by simp [deq]
  | n + 1, .tup xs, h => by simp only [dok] at h; simp only [deq]; exact deqs_self n xs h
  | n + 1, .lst xs, h => by simp only [dok] at h; simp only [deq]; exact deqs_self n xs h
  | 0, .tup xs, h => by simp [dok] at h
  | 0, .lst xs, h => by simp [dok] at h
  | n, .ty _, h => by cases n <;> simp [dok] at h
  | n, .dic _ _, h => by cases n <;> simp [dok] at h
  | n, .dit _ _, h => by cases n <;> simp [dok] at h
  | n, .obj _ _, h => by cases n <;> simp [dok] at h
  | n, .scr _, h => by cases n <;> simp [dok] at h
  | n, .cls _, h => by cases n <;> simp [dok] at h
theorem deqs_self : ∀ (n : Nat) (ds : List D), doks n ds = true → deqs ds ds = true
  | _, [], _ => by simp [deqs]
  | n, d :: ds, h => by
    simp only [doks, Bool.and_eq_true] at h
    simp only [deqs, Bool.and_eq_true]
    exact ⟨deq_self n d h.1, deqs_self n ds h.2⟩
end
theorem k_neS {d : D} (h : dok 60 d = true) {Q : D → Prop} : Ok (neD d d) Q ↔ Q (.bl false) := by
  have e : neD d d = .ok (.bl false) := by unfold neD; rw [h, deq_self 60 d h]; rfl
  rw [e, ok_ok]
theorem doks_map {α : Type} (f : α → D) (n : Nat) : ∀ (xs : List α), (∀ x ∈ xs, dok n (f x) = true) → doks n (xs.map f) = true
  | [], _ => by simp [doks]
  | x :: xs, h => by
    simp only [List.map_cons, doks, Bool.and_eq_true]
    exact ⟨h x (by simp), doks_map f n xs fun y hy => h y (by simp [hy])⟩
/-- a text of signs -/
def sg (c : Nat) : Str := ⟨#[c]⟩
def tx (cs : List Nat) : Str := ⟨cs.toArray⟩
theorem joinL_sg : ∀ cs : List Nat, TL.joinL [] (cs.map fun c => [c]) = cs
  | [] => rfl
  | [c] => rfl
  | c :: d :: r => by
    simp only [List.map_cons, TL.joinL, List.nil_append]
    have := joinL_sg (d :: r)
    simp only [List.map_cons] at this
    rw [this]; rfl
theorem join_sg (cs : List Nat) : Txt.join "" (cs.map sg) = tx cs := by
  have h := TL.tl_join "" (cs.map sg)
  rw [List.map_map] at h
  have h2 := joinL_sg cs
  have h3 : TL.tl (Str.join "" (cs.map sg)) = cs := by
    rw [h]; exact h2
  rw [TL.join_eq]
  generalize Str.join "" (cs.map sg) = x at h3
  obtain ⟨⟨l⟩⟩ := x
  show (⟨⟨l⟩⟩ : Str) = ⟨cs.toArray⟩
  have : l = cs := h3
  rw [this]
theorem asS_sg (cs : List Nat) : asS (cs.map fun c => D.str (sg c)) = some (cs.map sg) := by
  have := asS_map (cs.map sg)
  rwa [List.map_map] at this
theorem sum_sg (cs : List Nat) : ((cs.map sg).map (·.length)).sum = cs.length := by
  induction cs with
  | nil => rfl
  | cons c cs ih =>
    simp only [List.map_cons, List.sum_cons, ih, List.length_cons]
    show 1 + cs.length = cs.length + 1
    omega
theorem k_eM1 {o : D → D → R D} {f g : FE} {S : M.Env} {Q : D → Prop} : Ok (eM1 o f g S) Q ↔ Ok (f S) fun x => isS x = true ∧ Ok (g S) fun y => Ok (o x y) Q := by
  unfold eM1; simp only [ok_bind, ok_if, ok_nox]
theorem k_join (cs : List Nat) (h : cs.length ≤ 1000) {Q : D → Prop} : Ok (joinD (.str "") (.lst (cs.map fun c => .str (sg c)))) Q ↔ Q (.str (tx cs)) := by
  have e : joinD (.str "") (.lst (cs.map fun c => .str (sg c))) = .ok (.str (tx cs)) := by
    unfold joinD
    simp only [asS_sg]
    rw [if_pos (by rw [sum_sg, List.length_map]; show cs.length + cs.length * 0 ≤ _; omega), join_sg]
  rw [e, ok_ok]
theorem k_inS {c : Nat} {z : Str} {Q : D → Prop} : Ok (inD (.str (sg c)) (.str z)) Q ↔ Q (.bl (decide (c ∈ z.cps.toList))) := ok_ok
theorem k_notInS {c : Nat} {z : Str} {Q : D → Prop} : Ok (notInD (.str (sg c)) (.str z)) Q ↔ Q (.bl (!decide (c ∈ z.cps.toList))) := ok_ok
theorem k_itS {x : Str} {Q : List D → Prop} : Ok (itemsD (.str x)) Q ↔ Q (x.cps.toList.map fun c => .str (sg c)) := ok_ok
/-- a comprehension whose items are not told one by one -/
theorem lc_any {ga : FG} {fe : FE} {S : M.Env} {P : D → Prop} : ∀ {ds : List D}, (∀ d ∈ ds, Ok (ga d S) fun S1 => Ok (fe S1) P) → Ok (lcF ga tY fe S ds) fun ys => ys.length = ds.length ∧ ∀ y ∈ ys, P y
  | [], _ => ok_ok.mpr ⟨rfl, by simp⟩
  | d :: ds, h => by
    obtain ⟨S1, e1, y, e2, py⟩ := h d (by simp)
    obtain ⟨ys, e3, l3, p3⟩ := lc_any (P := P) (ds := ds) fun x hx => h x (by simp [hx])
    refine ⟨y :: ys, ?_, by simp [l3], fun x hx => ?_⟩
    · show ((ga d S).nox >>= fun S1 => (tY S1).nox >>= fun b => if b then ((fe S1).nox >>= fun y => lcF ga tY fe S ds >>= fun ys => R.ok (y :: ys)) else lcF ga tY fe S ds) = _
      rw [e1, R.nox_ok, R.ok_bind]
      show (R.ok true).nox >>= _ = _
      rw [R.nox_ok, R.ok_bind, if_pos rfl, e2, R.nox_ok, R.ok_bind, e3, R.ok_bind]
    · rcases List.mem_cons.mp hx with rfl | hx
      · exact py
      · exact p3 x hx
theorem k_lcA {fi : FI} {ga : FG} {fe : FE} {vs : List Nat} {S : M.Env} {Q : D → Prop} {P : D → Prop} (n : Nat) (hn : n ≤ sizeLine) (hi : Ok (fi S) fun ds => ds.length = n ∧ ∀ d ∈ ds, Ok (ga d (wipeS S vs)) fun S1 => Ok (fe S1) P) (q : ∀ ys, ys.length = n → (∀ y ∈ ys, P y) → Q (.lst ys)) : Ok (lcE fi ga tY fe vs S) Q := by
  rw [k_lc]
  obtain ⟨ds, e, hl, h⟩ := hi
  refine ⟨ds, e, by omega, ?_⟩
  exact (lc_any h).mono fun ys ⟨l, p⟩ => q ys (by omega) p
theorem k_ext {i : Nat} {f : FE} {S : M.Env} {QS : Fl × M.Env → Prop} : Ok (sExt i f S) QS ↔ Ok (ownL i S) fun ds => Ok (f S) fun d => ∃ es, d = .lst es ∧ ds.length + es.length ≤ sizeLine ∧ QS (.nx, S.set i (some ⟨true, .lst (ds ++ es)⟩)) := by
  unfold sExt
  rw [ok_bind]
  apply iff_of_eq
  congr 1
  funext ds
  rw [ok_bind]
  congr 1
  funext d
  refine propext ?_
  cases d with
  | lst es =>
    simp only [ok_if, ok_ok]
    exact ⟨fun h => ⟨es, rfl, h.1, h.2⟩, fun ⟨es', e, h⟩ => by cases e; exact h⟩
  | _ => simp only [ok_fail]; exact ⟨False.elim, fun ⟨_, e, _⟩ => nomatch e⟩
theorem pass_if {t : FT} {s r : FS} {S : M.Env} {QS : Fl × M.Env → Prop} (h : Ok (t S) fun b => b = false) (k : Ok (r S) QS) : Ok (sSeq (sIf t s sNil) r S) QS := by
  refine seq_cut (fun S' => S' = S) ?_ (fun S' e => by rw [e]; exact k)
  rw [k_if]
  refine h.mono fun b hb => ?_
  subst hb
  (try simp only [↓k_guard, k_no, k_I, k_S, k_B, k_N, k_G, k_Y, k_V, k_W, k_O, g0_z, g0_s, gA_z, gA_s, g1_z, g1_s, k_1, k_2, k_n, k_c, k_T, k_L, k_C, k_f1, k_f2, k_App, k_M, k_P, k_3, k_tB, k_tT, k_toB, k_tNo, k_tA, k_tO, k_tY, k_And, k_Or, k_Not, k_eIf, k_nil, k_seq, k_set, k_own, k_drop, k_ret, k_retN, k_retO, k_if, k_fz, fz_z, fz_s, k_gN, k_gsN, k_gsC, k_gT, k_asg, k_for, k_fnil, k_fcons, k_app, oL_z, oL_s, k_par, k_run, k_runN, k_fld, oO_z, k_add, k_addL, k_sub, k_mul, k_div, k_mod, k_pow, k_neg, k_lt, k_le, k_gt, k_ge, k_eqI, k_neI, k_int, k_intB, k_abs, k_lenL, k_lenT, k_lenC, k_tru, k_tupL, k_tupT, k_items_l, k_items_t, k_rng1, k_ixL, k_ixT, k_ixC, k_fldD, ok_nox, ok_ok, ok_bind, List.set_cons_zero, List.set_cons_succ, startS, startN, List.map_cons, List.map_nil, List.cons_append, List.nil_append, List.append_nil, List.length_cons, List.length_nil, List.replicate, Nat.reduceSub, Nat.reduceAdd, Nat.reduceLeDiff, Nat.zero_add, true_and, and_true, false_implies, true_implies, implies_true, forall_const, reduceCtorEq, Bool.not_true, Bool.not_false, Bool.not_eq_true'])
theorem k_while {t : FT} {s : FS} {n : Nat} {S : M.Env} {QS : Fl × M.Env → Prop} : Ok (whileF t s (n + 1) S) QS ↔ Ok (t S) fun b => (b = true → Ok (s S) fun z => match z.1 with
    | .nx => Ok (whileF t s n z.2) QS
    | .ct => Ok (whileF t s n z.2) QS
    | .bk => QS (.nx, z.2)
    | .rt d => QS (.rt d, z.2)) ∧ (b = false → QS (.nx, S)) := by
  show Ok (t S >>= _) QS ↔ _
  rw [ok_bind]
  apply iff_of_eq
  congr 1
  funext b
  refine propext ?_
  rw [ok_b, ok_ok, ok_bind]
  apply iff_of_eq
  congr 3
  funext z
  obtain ⟨fl, S'⟩ := z
  cases fl <;> simp [ok_ok]
theorem k_aug {i : Nat} {o : D → D → R D} {f : FE} {S : M.Env} {QS : Fl × M.Env → Prop} : Ok (sAugI i o f S) QS ↔ Ok (eV i S) fun x => Ok (f S) fun y => bothI x y = true ∧ Ok (o x y) fun d => QS (.nx, S.set i (some ⟨false, d⟩)) := by
  unfold sAugI; simp only [ok_bind, ok_nox, ok_if, ok_ok]
theorem bothI_i {a b : Int} : bothI (.int a) (.int b) = true := rfl
end Pf
set_option Elab.async false
set_option linter.all false
set_option maxRecDepth 100000
namespace Pf
open M PySem L2 PySem.W PyProof.Rows
/-! the order of data -/
abbrev tks (d : D) : List (Int ⊕ List Nat) := keyToks d.toP
theorem dle_kle {x y : D} : dle x y = true ↔ (listOrd itemOrd).kle (tks x) (tks y) := by
  unfold dle dlt dataLt KeyOrd.kle
  rw [Bool.not_eq_true']
theorem dle_tr {a b c : D} (h1 : dle a b = true) (h2 : dle b c = true) : dle a c = true := dle_kle.mpr (KeyOrd.kle_trans (dle_kle.mp h1) (dle_kle.mp h2))
theorem dle_to (a b : D) : (dle a b || dle b a) = true := by
  cases h : dle a b with
  | true => rfl
  | false =>
    rw [Bool.false_or]
    refine dle_kle.mpr (KeyOrd.kle_of_klt ?_)
    unfold dle dlt dataLt at h
    rw [Bool.not_eq_false'] at h
    exact h
theorem dle_an {a b : D} (h1 : dle a b = true) (h2 : dle b a = true) : tks a = tks b := KeyOrd.kle_antisymm (dle_kle.mp h1) (dle_kle.mp h2)
theorem tks_str {x y : Str} (h : tks (.str x) = tks (.str y)) : x = y := by
  simp only [tks, D.toP, keyToks, List.cons.injEq, Sum.inr.injEq, and_true] at h
  exact str_of_cps h
theorem tksAll_str : ∀ {xs ys : List Str}, keyToksAll (D.toPs (xs.map D.str)) = keyToksAll (D.toPs (ys.map D.str)) → xs = ys
  | [], [], _ => rfl
  | [], y :: ys, h => by simp [D.toPs, keyToksAll] at h
  | x :: xs, [], h => by simp [D.toPs, keyToksAll] at h
  | x :: xs, y :: ys, h => by
    simp only [List.map_cons, D.toPs, keyToksAll, D.toP, keyToks, List.cons_append, List.nil_append, List.cons.injEq, Sum.inr.injEq, true_and] at h
    rw [str_of_cps h.1, tksAll_str h.2]
theorem tksAll_int : ∀ {xs ys : List Int}, keyToksAll (D.toPs (xs.map D.int)) = keyToksAll (D.toPs (ys.map D.int)) → xs = ys
  | [], [], _ => rfl
  | [], y :: ys, h => by simp [D.toPs, keyToksAll] at h
  | x :: xs, [], h => by simp [D.toPs, keyToksAll] at h
  | x :: xs, y :: ys, h => by
    simp only [List.map_cons, D.toPs, keyToksAll, D.toP, keyToks, List.cons_append, List.nil_append, List.cons.injEq, Sum.inl.injEq, true_and] at h
    rw [h.1, tksAll_int h.2]
/-- a tuple's order is first that of its first item, a number -/
theorem dle_fst {m n : Int} {xs ys : List D} (h : dle (.tup (.int m :: xs)) (.tup (.int n :: ys)) = true) : m ≤ n := by
  have h := dle_kle.mp h
  unfold KeyOrd.kle at h
  have h : lexLt itemOrd (tks (.tup (.int n :: ys))) (tks (.tup (.int m :: xs))) = false := h
  simp only [tks, D.toP, D.toPs, keyToks, keyToksAll, List.cons_append, List.nil_append] at h
  rw [lex_self] at h
  by_cases e : n = m
  · omega
  · rw [lex_diff (O := itemOrd) (by simpa using e)] at h
    have h : decide (n < m) = false := h
    have := of_decide_eq_false h
    omega
theorem srt_map {α : Type} (f : α → D) (xs : List α) : srt (xs.map f) = (xs.mergeSort fun a b => dle (f a) (f b)).map f := by
  unfold srt
  rw [List.map_mergeSort (r := fun a b => dle (f a) (f b)) (s := dle) fun _ _ _ _ => rfl]
theorem k_runT {n : Nat} {s : FS} {ds : List D} {Q : D → Prop} (h : Ok (s (startS n ds)) fun z => ∃ d, z.1 = .rt d ∧ Q d) : Ok (runF true n s ds) Q := by
  unfold runF
  obtain ⟨⟨fl, S'⟩, e, d, he, q⟩ := h
  have he : fl = .rt d := he
  subst he
  rw [e]
  exact ⟨d, rfl, q⟩
theorem k_isL {xs : List D} {Q : D → Prop} : Ok (isiD (.lst xs) (.ty "list")) Q ↔ Q (.bl true) := by
  have e : isiD (.lst xs) (.ty "list") = .ok (.bl true) := by first | rfl | decide
  rw [e, ok_ok]
theorem k_isT {xs : List D} {Q : D → Prop} : Ok (isiD (.tup xs) (.ty "tuple")) Q ↔ Q (.bl true) := by
  have e : isiD (.tup xs) (.ty "tuple") = .ok (.bl true) := by first | rfl | decide
  rw [e, ok_ok]
theorem k_isS {x : Str} {Q : D → Prop} : Ok (isiD (.str x) (.ty "str")) Q ↔ Q (.bl true) := by
  have e : isiD (.str x) (.ty "str") = .ok (.bl true) := by first | rfl | decide
  rw [e, ok_ok]
end Pf
set_option Elab.async false
set_option linter.all false
set_option maxRecDepth 100000
namespace Pf
open M PySem L2
/-! ### exact equality of values -/
mutual
def same : D → D → Bool
  | .non, .non => true
  | .bl a, .bl b => a == b
  | .int i, .int j => decide (i = j)
  | .tup xs, .tup ys => sames xs ys
  | .lst xs, .lst ys => sames xs ys
  | _, _ => false
termination_by structural d => d
def sames : List D → List D → Bool
  | [], [] => true
  | x :: xs, y :: ys => same x y && sames xs ys
  | _, _ => false
termination_by structural ds => ds
end
mutual
theorem same_eq : ∀ {a b : D}, same a b = true → a = b
  | .non, b, h => by cases b <;> simp_all [same]
  | .bl x, b, h => by cases b <;> simp_all [same]
  | .int x, b, h => by cases b <;> simp_all [same]
  | .tup xs, b, h => by
    cases b <;> simp only [same] at h <;> first | (cases h; done) | skip
    rw [sames_eq h]
  | .lst xs, b, h => by
    cases b <;> simp only [same] at h <;> first | (cases h; done) | skip
    rw [sames_eq h]
  | .str x, b, h => by cases b <;> simp [same] at h
  | .ty x, b, h => by cases b <;> simp [same] at h
  | .dic x y, b, h => by cases b <;> simp [same] at h
  | .dit x y, b, h => by cases b <;> simp [same] at h
  | .obj x y, b, h => by cases b <;> simp [same] at h
  | .scr x, b, h => by cases b <;> simp [same] at h
  | .cls x, b, h => by cases b <;> simp [same] at h
theorem sames_eq : ∀ {a b : List D}, sames a b = true → a = b
  | [], b, h => by cases b <;> simp_all [sames]
  | x :: xs, b, h => by
    cases b <;> simp only [sames] at h <;> first | (cases h; done) | skip
    rw [Bool.and_eq_true] at h
    rw [same_eq h.1, sames_eq h.2]
end
/-! ### the parts of share -/
def mB : FS :=
    (sSeq (sSet 5 (lc2E (fun S => (aC (eW 2) aN) S >>= rng1) (gN 3) tY (fun S => (aC (e2 addD (eC (f2 min2D) (aC (eW 3) (aC (eW 1) aN))) (eI (1))) aN) S >>= rng1) (gN 4) (tB' (e2 leD (e2 subD (eW 1) (eW 4)) (e2 subD (eW 2) (eW 3)))) (eT (aC (eV 3) (aC (eV 4) aN))) [3, 4] [4]))
    (sSeq (sSet 6 (dcE dkT (fun S => (aC (eV 5) aN) S >>= enumerateF) (gT 2 (gsC (gN 10) (gsC (gN 11) gsN))) tY (eV 11) (eV 10) [10, 11]))
    (sSeq (sOwn 7 (eL aN))
    (sFor (fun S => (eV 5) S >>= itemsD) (gT 2 (gsC (gN 3) (gsC (gN 4) gsN))) (sFor (fun S => (eT (aC (eI (0)) (aC (eI (1)) aN))) S >>= itemsD) (gN 8) (sSeq (sSet 9 (eT (aC (e2 addD (eW 3) (eI (1))) (aC (eC (f2 min2D) (aC (e2 addD (eW 4) (eW 8)) (aC (eW 1) aN))) aN))))
    (sSeq (sIf (tB' (e2 eqD (eW 9) (eT (aC (eV 2) (aC (eV 1) aN))))) (sSet 9 (eT (aC (eI (0)) (aC (eI (0)) aN)))) sNil)
    (sIf (tB' (e2 inA (eW 9) (eW 6))) (sApp 7 (eT (aC (e2 ixA (eW 6) (eT (aC (eV 3) (aC (eV 4) aN)))) (aC (eV 8) (aC (e2 ixA (eW 6) (eW 9)) aN))))) sNil))))))))
def mA : FS := (sIf (tO (tNo (tB' (e3 leD leD (eI (1)) (eW 2) (eG gv_LONGEST_PERIOD)))) (tNo (tB' (e3 leD leD (eI (0)) (eW 1) (eW 2))))) (sExc0 11) sNil)
def mC : FS := (sFz 7 (sRet (eCXL 0 14 [.tup [.int 0]] d_Supply (aC (eC (f1 lenD) (aC (eW 5) aN)) (aC (eV 7) aN)))))
theorem seq_assoc (a b c : FS) : sSeq (sSeq a b) c = sSeq a (sSeq b c) := by
  funext S
  unfold sSeq
  cases a S with
  | ok z => obtain ⟨f, S1⟩ := z; cases f <;> rfl
  | exc x => rfl
  | fail => rfl
theorem share_eq : m_Supply_share = sSeq mA (sSeq mB mC) := by
  unfold m_Supply_share mB
  rw [seq_assoc, seq_assoc, seq_assoc]
  rfl
def S0 (q p : Int) : M.Env := startS 12 [.cls 14, .int q, .int p]
def stL (q p : Int) : List D := match d__law_share [.int q, .int p] with | .ok (.tup [.int _, .lst s]) => s | _ => []
def szI (q p : Int) : Int := match d__law_share [.int q, .int p] with | .ok (.tup [.int n, .lst _]) => n | _ => 0
def mvs (q p : Int) : List (List Key) × List D := match d_moves_of [.tup (stL q p)] with | .ok (.dit ks vs) => (ks, vs) | _ => ([], [])
def sup (q p : Int) : D := .obj 14 [.int (szI q p), .tup (stL q p), .tup [.int 0], .dit (mvs q p).1 (mvs q p).2]
def isTup : D → Bool
  | .tup _ => true
  | _ => false
def sortedB : List D → Bool
  | a :: b :: r => dle a b && sortedB (b :: r)
  | _ => true
def isNon : R D → Bool
  | .ok .non => true
  | _ => false
def okS (q p : Int) : Bool :=
  (match mA (S0 q p) with | .ok (.nx, S) => (S.length == 12) | _ => false) &&
  ((match d__law_share [.int q, .int p] with | .ok (.tup [.int _, .lst _]) => true | _ => false) &&
  ((match mB (S0 q p) with | .ok (.nx, [some ⟨false, .cls 14⟩, _, _, _, _, some ⟨false, .lst ps⟩, _, some ⟨true, .lst st⟩, _, _, _, _]) => decide ((ps.length : Int) = szI q p) && sames st (stL q p) | _ => false) &&
  (isNon (d_check_supply [.int (szI q p), .tup (stL q p), .tup [.int 0]]) &&
  ((match d_moves_of [.tup (stL q p)] with | .ok (.dit _ _) => true | _ => false) &&
  (decide ((stL q p).length ≤ 900) && (srtOk (stL q p) && (sortedB (stL q p) && ((stL q p).all isTup && (match neD (.tup (stL q p)) (.tup (stL q p)) with | .ok (.bl false) => true | _ => false)))))))))
def all44 (f : Int → Int → Bool) : Bool := (List.range 8).all fun a => (List.range (a + 2)).all fun b => f b (a + 1)
theorem okS_all : all44 okS = true := by decide +kernel
end Pf
set_option Elab.async false
set_option linter.all false
set_option maxRecDepth 100000
namespace Pf
open M PySem L2
theorem all44_at {f : Int → Int → Bool} (h : all44 f = true) {p q : Int} (h1 : 1 ≤ p) (h2 : p ≤ 8) (h3 : 0 ≤ q) (h4 : q ≤ p) : f q p = true := by
  unfold all44 at h
  rw [List.all_eq_true] at h
  have a := h (p - 1).toNat (by rw [List.mem_range]; omega)
  rw [List.all_eq_true] at a
  have b := a q.toNat (by rw [List.mem_range]; omega)
  have e1 : ((p - 1).toNat : Int) + 1 = p := by omega
  have e2 : (q.toNat : Int) = q := by omega
  rw [e1, e2] at b
  exact b
theorem sorted_pw : ∀ {l : List D}, sortedB l = true → l.Pairwise (fun a b => dle a b = true)
  | [], _ => .nil
  | [a], _ => by simp
  | a :: b :: r, h => by
    simp only [sortedB, Bool.and_eq_true] at h
    have ih := sorted_pw h.2
    refine List.pairwise_cons.mpr ⟨fun x hx => ?_, ih⟩
    rcases List.mem_cons.mp hx with e | hx
    · rw [e]; exact h.1
    · exact dle_tr h.1 ((List.pairwise_cons.mp ih).1 x hx)
theorem srtA_id {l : List D} (h1 : srtOk l = true) (h2 : sortedB l = true) : srtAD (.lst l) = .ok (.lst l) := by
  show (if srtOk l = true then R.ok (D.lst (srt l)) else R.fail) = _
  rw [h1, if_pos rfl]
  unfold srt
  rw [List.mergeSort_of_pairwise (sorted_pw h2)]
theorem srt_one : srtAD (.tup [.int 0]) = .ok (.lst [.int 0]) := by
  have h1 : srtOk [.int 0] = true := by decide +kernel
  show (if srtOk [.int 0] = true then R.ok (D.lst (srt [.int 0])) else R.fail) = _
  rw [h1, if_pos rfl]
  unfold srt
  rw [List.mergeSort_singleton]
theorem lcF_tups {a b c d : Option Sl} : ∀ {l : List D}, l.all isTup = true → lcF (gN 4) tY (eC (f1 tupD) (aC (eW 4) aN)) [a, b, c, d, none] l = .ok l
  | [], _ => rfl
  | x :: xs, h => by
    rw [List.all_cons, Bool.and_eq_true] at h
    cases x with
    | tup ds =>
      have ih := lcF_tups (a := a) (b := b) (c := c) (d := d) h.2
      show ((.ok (.tup ds) : R D).nox >>= fun y => lcF (gN 4) tY (eC (f1 tupD) (aC (eW 4) aN)) [a, b, c, d, none] xs >>= fun ys => .ok (y :: ys)) = _
      rw [ih]; rfl
    | _ => exact absurd h.1 (by simp [isTup])
/-- the parts of the constructor -/
theorem p_Supply {n : Int} {l : List D} {ks : List (List Key)} {vs : List D} (h1 : srtOk l = true) (h2 : sortedB l = true) (h3 : l.all isTup = true) (h4 : l.length ≤ 900) (hc : d_check_supply [.int n, .tup l, .tup [.int 0]] = .ok .non) (hm : d_moves_of [.tup l] = .ok (.dit ks vs)) :
    d_Supply [.int n, .lst l, .tup [.int 0]] = .ok (.obj 14 [.int n, .tup l, .tup [.int 0], .dit ks vs]) := by
  have hz := size_ge
  have eL : (lcE (fun S => (eV 2) S >>= itemsD) (gN 4) tY (eC (f1 tupD) (aC (eW 4) aN)) [4]) [(some (Sl.mk true (.obj 14 [.int n]))), (some (Sl.mk false (.int n))), (some (Sl.mk false (.lst l))), (some (Sl.mk false (.tup [.int 0]))), none] = .ok (.lst l) := by
    show (if l.length ≤ sizeLine then lcF (gN 4) tY (eC (f1 tupD) (aC (eW 4) aN)) [(some (Sl.mk true (.obj 14 [.int n]))), (some (Sl.mk false (.int n))), (some (Sl.mk false (.lst l))), (some (Sl.mk false (.tup [.int 0]))), none] l >>= fun ys => R.ok (D.lst ys) else R.fail) = _
    rw [if_pos (by omega), lcF_tups h3]; rfl
  unfold d_Supply m_Supply
  refine Ok.eq ?_
  rw [k_runN]
  refine Ok.mono (P := fun z => z.1 = .nx ∧ ∃ S, z.2 = (some (Sl.mk true (.obj 14 [.int n, .tup l, .tup [.int 0], .dit ks vs]))) :: S) ?_ fun z ⟨h, S, hz⟩ => by rw [h, hz]; rfl
  refine seq_cut (fun S => S = [(some (Sl.mk true (.obj 14 [.int n]))), (some (Sl.mk false (.int n))), (some (Sl.mk false (.lst l))), (some (Sl.mk false (.tup [.int 0]))), none]) (by (try simp only [↓k_guard, k_no, k_I, k_S, k_B, k_N, k_G, k_Y, k_V, k_W, k_O, g0_z, g0_s, gA_z, gA_s, g1_z, g1_s, k_1, k_2, k_n, k_c, k_T, k_L, k_C, k_f1, k_f2, k_App, k_M, k_P, k_3, k_tB, k_tT, k_toB, k_tNo, k_tA, k_tO, k_tY, k_And, k_Or, k_Not, k_eIf, k_nil, k_seq, k_set, k_own, k_drop, k_ret, k_retN, k_retO, k_if, k_fz, fz_z, fz_s, k_gN, k_gsN, k_gsC, k_gT, k_asg, k_for, k_fnil, k_fcons, k_app, oL_z, oL_s, k_par, k_run, k_runN, k_fld, oO_z, k_add, k_addL, k_sub, k_mul, k_div, k_mod, k_pow, k_neg, k_lt, k_le, k_gt, k_ge, k_eqI, k_neI, k_int, k_intB, k_abs, k_lenL, k_lenT, k_lenC, k_tru, k_tupL, k_tupT, k_items_l, k_items_t, k_rng1, k_ixL, k_ixT, k_ixC, k_fldD, ok_nox, ok_ok, ok_bind, List.set_cons_zero, List.set_cons_succ, startS, startN, List.map_cons, List.map_nil, List.cons_append, List.nil_append, List.append_nil, List.length_cons, List.length_nil, List.replicate, Nat.reduceSub, Nat.reduceAdd, Nat.reduceLeDiff, Nat.zero_add, true_and, and_true, false_implies, true_implies, implies_true, forall_const, reduceCtorEq, Bool.not_true, Bool.not_false, Bool.not_eq_true'])) ?_
  rintro S rfl
  refine seq_cut (fun S => S = [(some (Sl.mk true (.obj 14 [.int n, .tup l]))), (some (Sl.mk false (.int n))), (some (Sl.mk false (.lst l))), (some (Sl.mk false (.tup [.int 0]))), none]) ?_ ?_
  · rw [k_fld, oO_z, k_C, k_c, k_C, k_c, ok_eq eL, k_n, k_f1, ok_eq (srtA_id h1 h2), k_n, k_f1, k_tupL]
    exact ⟨rfl, rfl, rfl⟩
  rintro S rfl
  refine seq_cut (fun S => S = [(some (Sl.mk true (.obj 14 [.int n, .tup l, .tup [.int 0]]))), (some (Sl.mk false (.int n))), (some (Sl.mk false (.lst l))), (some (Sl.mk false (.tup [.int 0]))), none]) ?_ ?_
  · have e3 : (eC (f1 tupD) (aC (eC (f1 srtAD) (aC (eW 3) aN)) aN)) [(some (Sl.mk true (.obj 14 [.int n, .tup l]))), (some (Sl.mk false (.int n))), (some (Sl.mk false (.lst l))), (some (Sl.mk false (.tup [.int 0]))), none] = (((srtAD (.tup [.int 0])).nox >>= fun x => R.ok [x]) >>= fun xs => (f1 tupD xs).nox) := rfl
    rw [k_fld, oO_z, e3, srt_one]
    exact ⟨_, rfl, rfl, rfl, rfl⟩
  rintro S rfl
  refine seq_cut (fun S => S = [(some (Sl.mk true (.obj 14 [.int n, .tup l, .tup [.int 0]]))), (some (Sl.mk false (.int n))), (some (Sl.mk false (.lst l))), (some (Sl.mk false (.tup [.int 0]))), none]) ?_ ?_
  · rw [k_drop]
    have e2 : eCX d_check_supply (aC (eV 1) (aC (e1 (fldD 14 1) (eW 0)) (aC (e1 (fldD 14 2) (eW 0)) aN))) [(some (Sl.mk true (.obj 14 [.int n, .tup l, .tup [.int 0]]))), (some (Sl.mk false (.int n))), (some (Sl.mk false (.lst l))), (some (Sl.mk false (.tup [.int 0]))), none] = d_check_supply [.int n, .tup l, .tup [.int 0]] := rfl
    rw [e2, ok_eq hc]
    exact ⟨rfl, rfl⟩
  rintro S rfl
  rw [k_fld, oO_z]
  have e3 : eC d_moves_of (aC (e1 (fldD 14 1) (eW 0)) aN) [(some (Sl.mk true (.obj 14 [.int n, .tup l, .tup [.int 0]]))), (some (Sl.mk false (.int n))), (some (Sl.mk false (.lst l))), (some (Sl.mk false (.tup [.int 0]))), none] = (d_moves_of [.tup l]).nox := rfl
  rw [e3, hm, R.nox_ok, ok_ok]
  exact ⟨rfl, rfl, _, rfl⟩
end Pf
set_option Elab.async false
set_option linter.all false
set_option maxRecDepth 100000
namespace Pf
open M PySem L2
theorem mA_same {S S' : M.Env} (h : mA S = .ok (.nx, S')) : S' = S := by
  unfold mA sIf at h
  cases e : (tO (tNo (tB' (e3 leD leD (eI (1)) (eW 2) (eG gv_LONGEST_PERIOD)))) (tNo (tB' (e3 leD leD (eI (0)) (eW 1) (eW 2))))) S with
  | exc x => rw [e] at h; cases h
  | fail => rw [e] at h; cases h
  | ok b =>
    rw [e, R.ok_bind] at h
    cases b with
    | true => cases h
    | false => cases h; rfl
structure Fs (q p : Int) : Prop where
  share : d_Supply_share [.cls 14, .int q, .int p] = .ok (sup q p)
  lsh : d__law_share [.int q, .int p] = .ok (.tup [.int (szI q p), .lst (stL q p)])
  srt : srtAD (.lst (stL q p)) = .ok (.lst (stL q p))
  ne : neD (.tup (stL q p)) (.tup (stL q p)) = .ok (.bl false)
theorem mC_ok {n : Int} {l ps : List D} {a1 a2 a3 a4 a6 a8 a9 a10 a11 : Option Sl} {d : D} (hn : (ps.length : Int) = n) (h : d_Supply [.int n, .lst l, .tup [.int 0]] = .ok d) :
    endF true (mC [(some (Sl.mk false (.cls 14))), a1, a2, a3, a4, (some (Sl.mk false (.lst ps))), a6, (some (Sl.mk true (.lst l))), a8, a9, a10, a11]) = .ok d := by
  have e : mC [(some (Sl.mk false (.cls 14))), a1, a2, a3, a4, (some (Sl.mk false (.lst ps))), a6, (some (Sl.mk true (.lst l))), a8, a9, a10, a11] = (d_Supply [.int ps.length, .lst l, .tup [.int 0]] >>= fun d => .ok (.rt d, [(some (Sl.mk false (.cls 14))), a1, a2, a3, a4, (some (Sl.mk false (.lst ps))), a6, (some (Sl.mk false (.lst l))), a8, a9, a10, a11])) := rfl
  rw [e, hn, h]; rfl
theorem fs_of {q p : Int} (h : okS q p = true) : Fs q p := by
  unfold okS at h
  simp only [Bool.and_eq_true] at h
  obtain ⟨a1, a2, a3, a4, a5, a6, a7, a8, a9, a10⟩ := h
  have lsh : d__law_share [.int q, .int p] = .ok (.tup [.int (szI q p), .lst (stL q p)]) := by
    unfold szI stL
    split at a2
    · rename_i n s e; rw [e]
    · cases a2
  have hc : d_check_supply [.int (szI q p), .tup (stL q p), .tup [.int 0]] = .ok .non := by
    unfold isNon at a4
    split at a4
    · assumption
    · cases a4
  have hm : d_moves_of [.tup (stL q p)] = .ok (.dit (mvs q p).1 (mvs q p).2) := by
    unfold mvs
    split at a5
    · rename_i ks vs e; rw [e]
    · cases a5
  have hs := p_Supply a7 a8 a9 (of_decide_eq_true a6) hc hm
  refine ⟨?_, lsh, srtA_id a7 a8, ?_⟩
  · unfold d_Supply_share runF
    rw [share_eq]
    split at a1
    · rename_i S e
      have := mA_same e
      subst this
      split at a3
      · rename_i b1 b2 b3 b4 ps b6 st b8 b9 b10 b11 e2
        rw [Bool.and_eq_true] at a3
        have e3 := sames_eq a3.2
        subst e3
        have e4 : sSeq mA (sSeq mB mC) (startS 12 [.cls 14, .int q, .int p]) = mC [(some (Sl.mk false (.cls 14))), b1, b2, b3, b4, (some (Sl.mk false (.lst ps))), b6, (some (Sl.mk true (.lst (stL q p)))), b8, b9, b10, b11] := by
          show sSeq mA (sSeq mB mC) (S0 q p) = _
          have s1 : sSeq mA (sSeq mB mC) (S0 q p) = (mA (S0 q p) >>= fun z => match z.1 with | .nx => sSeq mB mC z.2 | _ => .ok z) := rfl
          rw [s1, e, R.ok_bind]
          have s2 : sSeq mB mC (S0 q p) = (mB (S0 q p) >>= fun z => match z.1 with | .nx => mC z.2 | _ => .ok z) := rfl
          show sSeq mB mC (S0 q p) = _
          rw [s2, e2, R.ok_bind]
        rw [e4]
        exact mC_ok (of_decide_eq_true a3.1) hs
      · cases a3
    · cases a1
  · split at a10
    · assumption
    · cases a10
theorem fs_at {q p : Int} (h1 : 1 ≤ p) (h2 : p ≤ 8) (h3 : 0 ≤ q) (h4 : q ≤ p) : Fs q p := fs_of (all44_at okS_all h1 h2 h3 h4)
/-! ### a bad pair is refused -/
theorem share_bad {q p : Int} (h : ¬ (1 ≤ p ∧ p ≤ 8) ∨ ¬ (0 ≤ q ∧ q ≤ p)) : d_Supply_share [.cls 14, .int q, .int p] = .exc ⟨11, []⟩ := by
  have t : Ok ((tO (tNo (tB' (e3 leD leD (eI (1)) (eW 2) (eG gv_LONGEST_PERIOD)))) (tNo (tB' (e3 leD leD (eI (0)) (eW 1) (eW 2))))) (S0 q p)) fun b => b = true := by
    have e : S0 q p = [(some (Sl.mk false (.cls 14))), (some (Sl.mk false (.int q))), (some (Sl.mk false (.int p))), none, none, none, none, none, none, none, none, none] := rfl
    rw [e]
    unfold gv_LONGEST_PERIOD
    (try simp only [↓k_guard, k_no, k_I, k_S, k_B, k_N, k_G, k_Y, k_V, k_W, k_O, g0_z, g0_s, gA_z, gA_s, g1_z, g1_s, k_1, k_2, k_n, k_c, k_T, k_L, k_C, k_f1, k_f2, k_App, k_M, k_P, k_3, k_tB, k_tT, k_toB, k_tNo, k_tA, k_tO, k_tY, k_And, k_Or, k_Not, k_eIf, k_nil, k_seq, k_set, k_own, k_drop, k_ret, k_retN, k_retO, k_if, k_fz, fz_z, fz_s, k_gN, k_gsN, k_gsC, k_gT, k_asg, k_for, k_fnil, k_fcons, k_app, oL_z, oL_s, k_par, k_run, k_runN, k_fld, oO_z, k_add, k_addL, k_sub, k_mul, k_div, k_mod, k_pow, k_neg, k_lt, k_le, k_gt, k_ge, k_eqI, k_neI, k_int, k_intB, k_abs, k_lenL, k_lenT, k_lenC, k_tru, k_tupL, k_tupT, k_items_l, k_items_t, k_rng1, k_ixL, k_ixT, k_ixC, k_fldD, ok_nox, ok_ok, ok_bind, List.set_cons_zero, List.set_cons_succ, startS, startN, List.map_cons, List.map_nil, List.cons_append, List.nil_append, List.append_nil, List.length_cons, List.length_nil, List.replicate, Nat.reduceSub, Nat.reduceAdd, Nat.reduceLeDiff, Nat.zero_add, true_and, and_true, false_implies, true_implies, implies_true, forall_const, reduceCtorEq, Bool.not_true, Bool.not_false, Bool.not_eq_true'])
    by_cases h1 : 1 ≤ p <;> by_cases h2 : p ≤ 8 <;> by_cases h3 : 0 ≤ q <;> by_cases h4 : q ≤ p <;> simp_all
  unfold d_Supply_share runF
  rw [share_eq]
  show endF true (sSeq mA (sSeq mB mC) (S0 q p)) = _
  have s1 : sSeq mA (sSeq mB mC) (S0 q p) = (mA (S0 q p) >>= fun z => match z.1 with | .nx => sSeq mB mC z.2 | _ => .ok z) := rfl
  rw [s1]
  unfold mA sIf
  rw [t.eq]
  rfl
theorem refused {q p : Int} (h : ¬ (1 ≤ p ∧ p ≤ 8) ∨ ¬ (0 ≤ q ∧ q ≤ p)) : d__law_refused [.int q, .int p] = .ok (.bl true) := by
  unfold d__law_refused m__law_refused runF
  have e : ∀ hnd r, sSeq (sTryAs mt_InvalidSupply 2 (sDrop (eCMX 14 d_Supply_share (eG (.cls 14)) (aC (eV 0) (aC (eV 1) aN)))) hnd) r (startS 3 [.int q, .int p]) = (hndF (hnd ⟨11, []⟩) [(some (Sl.mk false (.int q))), (some (Sl.mk false (.int p))), (some (Sl.mk false (.cls xix)))] >>= fun z => match z.1 with | .nx => r z.2 | _ => .ok z) := fun hnd r => by
    have s : sDrop (eCMX 14 d_Supply_share (eG (.cls 14)) (aC (eV 0) (aC (eV 1) aN))) (startS 3 [.int q, .int p]) = (d_Supply_share [.cls 14, .int q, .int p] >>= fun _ => .ok (.nx, startS 3 [.int q, .int p])) := rfl
    rw [share_bad h] at s
    have t : sTryAs mt_InvalidSupply 2 (sDrop (eCMX 14 d_Supply_share (eG (.cls 14)) (aC (eV 0) (aC (eV 1) aN)))) hnd (startS 3 [.int q, .int p]) = hndF (hnd ⟨11, []⟩) [(some (Sl.mk false (.int q))), (some (Sl.mk false (.int p))), (some (Sl.mk false (.cls xix)))] := by
      unfold sTryAs
      rw [if_pos (by rfl), s]
      rfl
    show (sTryAs _ _ _ _ _ >>= _) = _
    rw [t]
    all_goals rfl
  rw [e]
  rfl
end Pf
set_option Elab.async false
set_option linter.all false
set_option maxRecDepth 100000
namespace Pf
open M PySem L2
abbrev Pr := Int × Int
def prD (r : Pr) : D := .tup [.int r.1, .int r.2]
def oprD : Option Pr → D
  | some r => prD r
  | none => .non
def mn (a b : Int) : Int := if b < a then b else a
/-- the pair of point 5 -/
def lpair (i k p q : Int) : Option Pr :=
  if i = p ∧ k = q then some (0, 0)
  else if i < p ∧ (0 ≤ k ∧ k ≤ mn i q) ∧ q - k ≤ p - i then some (i, k) else none
theorem k_eqP {a b c d : Int} {Q : D → Prop} : Ok (eqD (.tup [.int a, .int b]) (.tup [.int c, .int d])) Q ↔ Q (.bl (decide (a = c ∧ b = d))) := by
  have e : eqD (.tup [.int a, .int b]) (.tup [.int c, .int d]) = .ok (.bl (decide (a = c ∧ b = d))) := by
    have h1 : dok 60 (.tup [.int a, .int b]) = true := rfl
    have h2 : dok 60 (.tup [.int c, .int d]) = true := rfl
    unfold eqD
    rw [h1, h2]
    have h3 : deq (.tup [.int a, .int b]) (.tup [.int c, .int d]) = decide (a = c ∧ b = d) := by
      simp only [deq, deqs, Bool.and_true]
      by_cases x : a = c <;> by_cases y : b = d <;> simp [x, y]
    rw [h3]; rfl
  rw [e, ok_ok]
theorem p_lpair (i k p q : Int) : d__law_pair [.int i, .int k, .int p, .int q] = .ok (oprD (lpair i k p q)) := by
  have hs := size_ge
  refine Ok.eq ?_
  unfold d__law_pair m__law_pair
  rw [ok_nox, k_run]
  have e : startS 4 [.int i, .int k, .int p, .int q] = [(some (Sl.mk false (.int i))), (some (Sl.mk false (.int k))), (some (Sl.mk false (.int p))), (some (Sl.mk false (.int q)))] := rfl
  rw [e]
  unfold lpair mn
  by_cases h1 : i = p ∧ k = q
  · rw [if_pos h1]
    (try simp only [↓k_guard, k_no, k_I, k_S, k_B, k_N, k_G, k_Y, k_V, k_W, k_O, g0_z, g0_s, gA_z, gA_s, g1_z, g1_s, k_1, k_2, k_n, k_c, k_T, k_L, k_C, k_f1, k_f2, k_App, k_M, k_P, k_3, k_tB, k_tT, k_toB, k_tNo, k_tA, k_tO, k_tY, k_And, k_Or, k_Not, k_eIf, k_nil, k_seq, k_set, k_own, k_drop, k_ret, k_retN, k_retO, k_if, k_fz, fz_z, fz_s, k_gN, k_gsN, k_gsC, k_gT, k_asg, k_for, k_fnil, k_fcons, k_app, oL_z, oL_s, k_par, k_run, k_runN, k_fld, oO_z, k_add, k_addL, k_sub, k_mul, k_div, k_mod, k_pow, k_neg, k_lt, k_le, k_gt, k_ge, k_eqI, k_neI, k_int, k_intB, k_abs, k_lenL, k_lenT, k_lenC, k_tru, k_tupL, k_tupT, k_items_l, k_items_t, k_rng1, k_ixL, k_ixT, k_ixC, k_fldD, ok_nox, ok_ok, ok_bind, List.set_cons_zero, List.set_cons_succ, startS, startN, List.map_cons, List.map_nil, List.cons_append, List.nil_append, List.append_nil, List.length_cons, List.length_nil, List.replicate, Nat.reduceSub, Nat.reduceAdd, Nat.reduceLeDiff, Nat.zero_add, true_and, and_true, false_implies, true_implies, implies_true, forall_const, reduceCtorEq, Bool.not_true, Bool.not_false, Bool.not_eq_true', k_eqP, k_min2])
    refine ⟨by omega, by omega, fun _ => ⟨by omega, rfl⟩, fun h => ?_⟩
    simp [h1] at h
  · rw [if_neg h1]
    (try simp only [↓k_guard, k_no, k_I, k_S, k_B, k_N, k_G, k_Y, k_V, k_W, k_O, g0_z, g0_s, gA_z, gA_s, g1_z, g1_s, k_1, k_2, k_n, k_c, k_T, k_L, k_C, k_f1, k_f2, k_App, k_M, k_P, k_3, k_tB, k_tT, k_toB, k_tNo, k_tA, k_tO, k_tY, k_And, k_Or, k_Not, k_eIf, k_nil, k_seq, k_set, k_own, k_drop, k_ret, k_retN, k_retO, k_if, k_fz, fz_z, fz_s, k_gN, k_gsN, k_gsC, k_gT, k_asg, k_for, k_fnil, k_fcons, k_app, oL_z, oL_s, k_par, k_run, k_runN, k_fld, oO_z, k_add, k_addL, k_sub, k_mul, k_div, k_mod, k_pow, k_neg, k_lt, k_le, k_gt, k_ge, k_eqI, k_neI, k_int, k_intB, k_abs, k_lenL, k_lenT, k_lenC, k_tru, k_tupL, k_tupT, k_items_l, k_items_t, k_rng1, k_ixL, k_ixT, k_ixC, k_fldD, ok_nox, ok_ok, ok_bind, List.set_cons_zero, List.set_cons_succ, startS, startN, List.map_cons, List.map_nil, List.cons_append, List.nil_append, List.append_nil, List.length_cons, List.length_nil, List.replicate, Nat.reduceSub, Nat.reduceAdd, Nat.reduceLeDiff, Nat.zero_add, true_and, and_true, false_implies, true_implies, implies_true, forall_const, reduceCtorEq, Bool.not_true, Bool.not_false, Bool.not_eq_true', k_eqP, k_min2])
    refine ⟨by omega, by omega, fun h => absurd (of_decide_eq_true h) h1, fun _ => ?_⟩
    generalize (if q < i then q else i) = m
    by_cases x1 : i < p <;> by_cases x2 : 0 ≤ k <;> by_cases x3 : k ≤ m <;> by_cases x4 : q - k ≤ p - i <;> simp [x1, x2, x3, x4, oprD, prD] <;> omega
end Pf
set_option Elab.async false
set_option linter.all false
set_option maxRecDepth 100000
namespace Pf
open M PySem L2
def rowP (q p : Int) (i : Nat) : List Pr := ((List.range (q + 1).toNat).filter fun (k : Nat) => (lpair (i : Int) (k : Int) p q).isSome).map fun (k : Nat) => ((i : Int), (k : Int))
def prs (q p : Int) : List Pr := (List.range p.toNat).flatMap (rowP q p)
def lstP (q p : Int) : D := .lst ((prs q p).map prD)
def idxP (q p : Int) (r : Pr) : Int := match idxD (lstP q p) (prD r) with | .ok (.int n) => n | _ => -1
def nxt (q p : Int) (r : Pr) (t : Int) : Option Pr := lpair (r.1 + 1) (mn (r.2 + t) q) p q
def mget (q p : Int) (n t : Int) : Option D := getL (mvs q p).1 (mvs q p).2 [.inl n, .inl t]
def isI : R D → Bool
  | .ok (.int _) => true
  | _ => false
def okT (q p : Int) (r : Pr) (t : Int) : Bool := match nxt q p r t, mget q p (idxP q p r) t with
  | none, none => true
  | some r', some d => (prs q p).contains r' && same d (.tup [.int (idxP q p r')])
  | _, _ => false
def okN (q p : Int) : Bool := (prs q p).contains (0, 0) && (decide (idxP q p (0, 0) = 0) && ((prs q p).all fun r => isI (idxD (lstP q p) (prD r)) && (okT q p r 0 && okT q p r 1)))
theorem okN_all : all44 okN = true := by decide +kernel
structure Fn' (q p : Int) : Prop where
  zero : (0, 0) ∈ prs q p
  zi : idxP q p (0, 0) = 0
  idx : ∀ r ∈ prs q p, idxD (lstP q p) (prD r) = .ok (.int (idxP q p r))
  nx : ∀ r ∈ prs q p, ∀ t, t = 0 ∨ t = 1 → mget q p (idxP q p r) t = (nxt q p r t).map (fun r' => .tup [.int (idxP q p r')]) ∧ ∀ r', nxt q p r t = some r' → r' ∈ prs q p
theorem fn_of {q p : Int} (h : okN q p = true) : Fn' q p := by
  unfold okN at h
  simp only [Bool.and_eq_true, List.all_eq_true, decide_eq_true_eq] at h
  obtain ⟨h1, h2, h3⟩ := h
  refine ⟨by simpa using h1, h2, fun r hr => ?_, fun r hr t ht => ?_⟩
  · have a := (h3 r hr).1
    unfold isI at a
    unfold idxP
    split at a
    · rename_i n e; rw [e]
    · cases a
  · have a : okT q p r t = true := by
      rcases ht with rfl | rfl
      · exact (h3 r hr).2.1
      · exact (h3 r hr).2.2
    unfold okT at a
    split at a
    · rename_i e1 e2
      rw [e1, e2]
      exact ⟨rfl, fun r' z => nomatch z⟩
    · rename_i r' d e1 e2
      rw [Bool.and_eq_true] at a
      rw [e1, e2, same_eq a.2]
      refine ⟨rfl, fun r2 z => ?_⟩
      cases z
      simpa using a.1
    · cases a
theorem fn_at {q p : Int} (h1 : 1 ≤ p) (h2 : p ≤ 8) (h3 : 0 ≤ q) (h4 : q ≤ p) : Fn' q p := fn_of (all44_at okN_all h1 h2 h3 h4)
end Pf
set_option Elab.async false
set_option linter.all false
set_option maxRecDepth 100000
namespace Pf
open M PySem L2
theorem srtN_nil : srtN [] = [] := by unfold srtN nubI; simp
theorem srtN_one (m : Int) : srtN [m] = [m] := by unfold srtN nubI nubI1; simp
theorem end_nil : srtEnd [] = .ok (.lst []) := by
  show (if (0 : Nat) ≤ 900 ∧ (nubI []).length < 64 then R.ok (D.lst ((srtN []).map D.int)) else R.fail) = _
  rw [srtN_nil, if_pos ⟨by omega, by decide⟩]; rfl
theorem end_one (m : Int) : srtEnd [.int m] = .ok (.lst [.int m]) := by
  show (if (1 : Nat) ≤ 900 ∧ (nubI [m]).length < 64 then R.ok (D.lst ((srtN [m]).map D.int)) else R.fail) = _
  have : (nubI [m]).length < 64 := by unfold nubI nubI1; simp
  rw [srtN_one, if_pos ⟨by omega, this⟩]; rfl
/-- what the moves give -/
def got (o : Option D) : D := match o with | some r => r | none => .tup []
theorem get_ok {q p n t : Int} {f g : FE} {S : M.Env} (h1 : f S = .ok (.dit (mvs q p).1 (mvs q p).2)) (h2 : g S = .ok (.tup [.int n, .int t])) : eGet2 f g (eT aN) S = .ok (got (mget q p n t)) := by
  unfold eGet2
  rw [h1, R.ok_bind, if_pos (by rfl), h2, R.ok_bind]
  have h3 : eT aN S = .ok (.tup []) := rfl
  rw [h3, R.ok_bind]
  have h4 : dlook (.dit (mvs q p).1 (mvs q p).2) (.tup [.int n, .int t]) = some (mget q p n t) := rfl
  rw [h4]
  cases mget q p n t <;> rfl
def oneI : D → Prop := fun d => d = .tup [] ∨ ∃ m, d = .tup [.int m]
def asL : D → D
  | .tup xs => .lst xs
  | d => d
/-- one turn of the set, in __contains__ -/
def setC : FE := srtSc2E (fun S => (eV 2) S >>= itemsD) (gN 4) tY (fun S => (eGet2 (e1 (fldD 14 3) (eW 0)) (eT (aC (eV 4) (aC (eV 3) aN))) (eT aN)) S >>= itemsD) (gN 5) tY (eV 5) [4, 5] [5]
theorem setC_nil {s w : Option Sl} {t : D} {x4 x5 : Option Sl} : setC [s, w, (some (Sl.mk false (.lst []))), (some (Sl.mk false (t))), x4, x5] = .ok (.lst []) := by
  show srtEnd [] = _
  exact end_nil
theorem setC_one {q p n t : Int} {w : Option Sl} {st : D} {x4 x5 : Option Sl} (hs : itemsD st = .ok [.int n]) (hg : oneI (got (mget q p n t))) : setC [(some (Sl.mk false (sup q p))), w, (some (Sl.mk false (st))), (some (Sl.mk false (.int t))), x4, x5] = .ok (asL (got (mget q p n t))) := by
  have hi : ((eV 2) [(some (Sl.mk false (sup q p))), w, (some (Sl.mk false (st))), (some (Sl.mk false (.int t))), x4, x5] >>= itemsD) = .ok [.int n] := hs
  have hget : eGet2 (e1 (fldD 14 3) (eW 0)) (eT (aC (eV 4) (aC (eV 3) aN))) (eT aN) [(some (Sl.mk false (sup q p))), w, (some (Sl.mk false (st))), (some (Sl.mk false (.int t))), (some (Sl.mk false (.int n))), none] = .ok (got (mget q p n t)) := get_ok rfl rfl
  unfold setC srtSc2E
  dsimp only
  rw [hi, R.ok_bind]
  have e : ∀ z, itemsD (got (mget q p n t)) = .ok z → lc2F (gN 4) tY (fun S => (eGet2 (e1 (fldD 14 3) (eW 0)) (eT (aC (eV 4) (aC (eV 3) aN))) (eT aN)) S >>= itemsD) (gN 5) tY (eV 5) [4, 5] [5] (wipeS [(some (Sl.mk false (sup q p))), w, (some (Sl.mk false (st))), (some (Sl.mk false (.int t))), x4, x5] [4, 5]) [.int n] = (lcF (gN 5) tY (eV 5) [(some (Sl.mk false (sup q p))), w, (some (Sl.mk false (st))), (some (Sl.mk false (.int t))), (some (Sl.mk false (.int n))), none] z >>= fun ys => R.ok (ys ++ [])) := fun z hz => by
    show ((((eGet2 (e1 (fldD 14 3) (eW 0)) (eT (aC (eV 4) (aC (eV 3) aN))) (eT aN)) [(some (Sl.mk false (sup q p))), w, (some (Sl.mk false (st))), (some (Sl.mk false (.int t))), (some (Sl.mk false (.int n))), none] >>= itemsD).nox) >>= fun es => lcF (gN 5) tY (eV 5) [(some (Sl.mk false (sup q p))), w, (some (Sl.mk false (st))), (some (Sl.mk false (.int t))), (some (Sl.mk false (.int n))), none] es >>= fun ys => R.ok (ys ++ [])) = _
    rw [hget, R.ok_bind, hz]; rfl
  rcases hg with h | ⟨m, h⟩
  · rw [e [] (by rw [h]; rfl), h]
    exact end_nil
  · rw [e [.int m] (by rw [h]; rfl), h]
    exact end_one m
/-- .. in after -/
def setF : FE := srtSc2E (fun S => (eV 1) S >>= itemsD) (gN 3) tY (fun S => (eGet2 (e1 (fldD 14 3) (eW 0)) (eT (aC (eV 3) (aC (eV 2) aN))) (eT aN)) S >>= itemsD) (gN 4) tY (eV 4) [3, 4] [4]
theorem after_one {q p n t : Int} : d_Supply_after [sup q p, .tup [.int n], .int t] = .ok (got (mget q p n t)) := by
  have hget : eGet2 (e1 (fldD 14 3) (eW 0)) (eT (aC (e2 ixA (eW 1) (eI (0))) (aC (eV 2) aN))) (eT aN) [(some (Sl.mk false (sup q p))), (some (Sl.mk false (.tup [.int n]))), (some (Sl.mk false (.int t))), none, none] = .ok (got (mget q p n t)) := get_ok rfl rfl
  have e : m_Supply_after [(some (Sl.mk false (sup q p))), (some (Sl.mk false (.tup [.int n]))), (some (Sl.mk false (.int t))), none, none] = ((eGet2 (e1 (fldD 14 3) (eW 0)) (eT (aC (e2 ixA (eW 1) (eI (0))) (aC (eV 2) aN))) (eT aN) [(some (Sl.mk false (sup q p))), (some (Sl.mk false (.tup [.int n]))), (some (Sl.mk false (.int t))), none, none] >>= fun d => R.ok (Fl.rt d, [(some (Sl.mk false (sup q p))), (some (Sl.mk false (.tup [.int n]))), (some (Sl.mk false (.int t))), none, none])) >>= fun z => match z.1 with | .nx => (sRet (eC (f1 tupD) (aC setF aN))) z.2 | _ => .ok z) := rfl
  show (endF false (m_Supply_after [(some (Sl.mk false (sup q p))), (some (Sl.mk false (.tup [.int n]))), (some (Sl.mk false (.int t))), none, none])).nox = _
  rw [e, hget]; rfl
theorem after_nil {q p t : Int} : d_Supply_after [sup q p, .tup [], .int t] = .ok (.tup []) := by
  have hn : setF [(some (Sl.mk false (sup q p))), (some (Sl.mk false (.tup []))), (some (Sl.mk false (.int t))), none, none] = .ok (.lst []) := by
    show srtEnd [] = _
    exact end_nil
  have e : m_Supply_after [(some (Sl.mk false (sup q p))), (some (Sl.mk false (.tup []))), (some (Sl.mk false (.int t))), none, none] = (sRet (eC (f1 tupD) (aC setF aN))) [(some (Sl.mk false (sup q p))), (some (Sl.mk false (.tup []))), (some (Sl.mk false (.int t))), none, none] := rfl
  show (endF false (m_Supply_after [(some (Sl.mk false (sup q p))), (some (Sl.mk false (.tup []))), (some (Sl.mk false (.int t))), none, none])).nox = _
  rw [e]
  have e2 : (sRet (eC (f1 tupD) (aC setF aN))) [(some (Sl.mk false (sup q p))), (some (Sl.mk false (.tup []))), (some (Sl.mk false (.int t))), none, none] = (((setF [(some (Sl.mk false (sup q p))), (some (Sl.mk false (.tup []))), (some (Sl.mk false (.int t))), none, none] >>= fun x => R.ok [x]) >>= fun xs => (f1 tupD xs).nox) >>= fun d => R.ok (Fl.rt d, [(some (Sl.mk false (sup q p))), (some (Sl.mk false (.tup []))), (some (Sl.mk false (.int t))), none, none])) := rfl
  rw [e2, hn]; rfl
end Pf
set_option Elab.async false
set_option linter.all false
set_option maxRecDepth 100000
namespace Pf
open M PySem L2
def step (q p : Int) (o : Option Pr) (t : Int) : Option Pr := match o with | some r => nxt q p r t | none => none
def runW (q p : Int) (o : Option Pr) (ts : List Int) : Option Pr := ts.foldl (step q p) o
def dueD (q p : Int) : Option Pr → D
  | some r => .tup [.int (idxP q p r)]
  | none => .tup []
theorem got_due {q p : Int} (F : Fn' q p) {r : Pr} (hr : r ∈ prs q p) {t : Int} (ht : t = 0 ∨ t = 1) : got (mget q p (idxP q p r) t) = dueD q p (nxt q p r t) := by
  rw [(F.nx r hr t ht).1]
  cases nxt q p r t <;> rfl
theorem due_one {q p : Int} (o : Option Pr) : oneI (dueD q p o) := by
  cases o with
  | none => exact .inl rfl
  | some r => exact .inr ⟨_, rfl⟩
inductive Mt (q p : Int) : Option Pr → D → Prop where
  | some {r : Pr} {d : D} : r ∈ prs q p → itemsD d = .ok [.int (idxP q p r)] → boolD d = .ok (.bl true) → Mt q p (some r) d
  | none : Mt q p none (.lst [])
theorem Mt.bool {q p : Int} {o : Option Pr} {d : D} (h : Mt q p o d) : boolD d = .ok (.bl o.isSome) := by
  cases h with
  | some _ _ h => exact h
  | none => rfl
theorem turnC {q p : Int} (F : Fn' q p) {o : Option Pr} {d : D} (h : Mt q p o d) {t : Int} (ht : t = 0 ∨ t = 1) {w x4 x5 : Option Sl} : ∃ d', setC [(some (Sl.mk false (sup q p))), w, (some (Sl.mk false (d))), (some (Sl.mk false (.int t))), x4, x5] = .ok d' ∧ Mt q p (step q p o t) d' := by
  cases h with
  | @some r d hr hi hb =>
    have hg := got_due F hr ht
    have ho : oneI (got (mget q p (idxP q p r) t)) := by rw [hg]; exact due_one _
    refine ⟨_, setC_one hi ho, ?_⟩
    rw [hg]
    show Mt q p (nxt q p r t) _
    cases e : nxt q p r t with
    | none => exact .none
    | some r' => exact .some ((F.nx r hr t ht).2 _ e) rfl rfl
  | none => exact ⟨_, setC_nil, .none⟩
theorem loopC {q p : Int} (F : Fn' q p) : ∀ (ts : List Int) {o : Option Pr} {d : D} {w x3 : Option Sl}, (∀ t ∈ ts, t = 0 ∨ t = 1) → Mt q p o d →
    ∃ d' x', forF (gN 3) (sSet 2 setC) (ts.map D.int) [(some (Sl.mk false (sup q p))), w, (some (Sl.mk false (d))), x3, none, none] = .ok (.nx, [(some (Sl.mk false (sup q p))), w, (some (Sl.mk false (d'))), x', none, none]) ∧ Mt q p (runW q p o ts) d'
  | [], o, d, w, x3, _, h => ⟨d, x3, rfl, h⟩
  | t :: ts, o, d, w, x3, ht, h => by
    obtain ⟨d1, e1, h1⟩ := turnC F h (ht t (by simp)) (w := w) (x4 := none) (x5 := none)
    obtain ⟨d2, x2, e2, h2⟩ := loopC F ts (w := w) (x3 := (some (Sl.mk false (.int t)))) (fun z hz => ht z (by simp [hz])) h1
    refine ⟨d2, x2, ?_, h2⟩
    have e : forF (gN 3) (sSet 2 setC) ((t :: ts).map D.int) [(some (Sl.mk false (sup q p))), w, (some (Sl.mk false (d))), x3, none, none] = ((setC [(some (Sl.mk false (sup q p))), w, (some (Sl.mk false (d))), (some (Sl.mk false (.int t))), none, none] >>= fun d => R.ok (Fl.nx, [(some (Sl.mk false (sup q p))), w, (some (Sl.mk false (d))), (some (Sl.mk false (.int t))), none, none])) >>= fun z => match z.1 with
      | .nx => forF (gN 3) (sSet 2 setC) (ts.map D.int) z.2
      | .ct => forF (gN 3) (sSet 2 setC) (ts.map D.int) z.2
      | .bk => R.ok (Fl.nx, z.2)
      | .rt d => R.ok (Fl.rt d, z.2)) := rfl
    rw [e, e1]
    exact e2
theorem contains_ok {q p : Int} (F : Fn' q p) (ts : List Int) (ht : ∀ t ∈ ts, t = 0 ∨ t = 1) : d_Supply___contains__ [sup q p, .tup (ts.map D.int)] = .ok (.bl (runW q p (some (0, 0)) ts).isSome) := by
  have h0 : Mt q p (some (0, 0)) (.tup [.int 0]) := .some F.zero (by rw [F.zi]; rfl) rfl
  obtain ⟨d', x', e1, h1⟩ := loopC F ts (w := (some (Sl.mk false (.tup (ts.map D.int))))) (x3 := none) ht h0
  have e : m_Supply___contains__ (startS 6 [sup q p, .tup (ts.map D.int)]) = (forF (gN 3) (sSet 2 setC) (ts.map D.int) [(some (Sl.mk false (sup q p))), (some (Sl.mk false (.tup (ts.map D.int)))), (some (Sl.mk false (.tup [.int 0]))), none, none, none] >>= fun z => match z.1 with
    | .nx => (sRet (eC (f1 boolD) (aC (eW 2) aN))) z.2
    | _ => R.ok z) := rfl
  show (endF false (m_Supply___contains__ (startS 6 [sup q p, .tup (ts.map D.int)]))).nox = _
  rw [e, e1, R.ok_bind]
  have e2 : (sRet (eC (f1 boolD) (aC (eW 2) aN))) [(some (Sl.mk false (sup q p))), (some (Sl.mk false (.tup (ts.map D.int)))), (some (Sl.mk false (d'))), x', none, none] = ((f1 boolD [d']).nox >>= fun d => R.ok (Fl.rt d, [(some (Sl.mk false (sup q p))), (some (Sl.mk false (.tup (ts.map D.int)))), (some (Sl.mk false (d'))), x', none, none])) := rfl
  show (endF false ((sRet (eC (f1 boolD) (aC (eW 2) aN))) [(some (Sl.mk false (sup q p))), (some (Sl.mk false (.tup (ts.map D.int)))), (some (Sl.mk false (d'))), x', none, none])).nox = _
  rw [e2]
  have e3 : f1 boolD [d'] = boolD d' := rfl
  rw [e3, h1.bool]; rfl
end Pf
set_option Elab.async false
set_option linter.all false
set_option maxRecDepth 100000
namespace Pf
open M PySem L2
theorem k_ixAC {xs : List Int} {y : D} {Q : D → Prop} : Ok (ixA (.scr xs) y) Q ↔ Ok (ixD (.scr xs) y) Q := Iff.rfl
theorem k_ixAL {xs : List D} {y : D} {Q : D → Prop} : Ok (ixA (.lst xs) y) Q ↔ Ok (ixD (.lst xs) y) Q := Iff.rfl
theorem k_ixAT {xs : List D} {y : D} {Q : D → Prop} : Ok (ixA (.tup xs) y) Q ↔ Ok (ixD (.tup xs) y) Q := Iff.rfl
theorem p_cell (ns : List Int) (hb : ∀ z ∈ ns, Builtin.Int.intBits z ≤ 1048576) (at_ : Int) (ha : 0 ≤ at_) : Ok (d__law_cell [.scr ns, .int at_]) fun d => ∃ z : Int, d = .int z := by
  unfold d__law_cell m__law_cell
  rw [ok_nox, k_run]
  (try simp only [↓k_guard, k_no, k_I, k_S, k_B, k_N, k_G, k_Y, k_V, k_W, k_O, g0_z, g0_s, gA_z, gA_s, g1_z, g1_s, k_1, k_2, k_n, k_c, k_T, k_L, k_C, k_f1, k_f2, k_App, k_M, k_P, k_3, k_tB, k_tT, k_toB, k_tNo, k_tA, k_tO, k_tY, k_And, k_Or, k_Not, k_eIf, k_nil, k_seq, k_set, k_own, k_drop, k_ret, k_retN, k_retO, k_if, k_fz, fz_z, fz_s, k_gN, k_gsN, k_gsC, k_gT, k_asg, k_for, k_fnil, k_fcons, k_app, oL_z, oL_s, k_par, k_run, k_runN, k_fld, oO_z, k_add, k_addL, k_sub, k_mul, k_div, k_mod, k_pow, k_neg, k_lt, k_le, k_gt, k_ge, k_eqI, k_neI, k_int, k_intB, k_abs, k_lenL, k_lenT, k_lenC, k_tru, k_tupL, k_tupT, k_items_l, k_items_t, k_rng1, k_ixL, k_ixT, k_ixC, k_fldD, ok_nox, ok_ok, ok_bind, List.set_cons_zero, List.set_cons_succ, startS, startN, List.map_cons, List.map_nil, List.cons_append, List.nil_append, List.append_nil, List.length_cons, List.length_nil, List.replicate, Nat.reduceSub, Nat.reduceAdd, Nat.reduceLeDiff, Nat.zero_add, true_and, and_true, false_implies, true_implies, implies_true, forall_const, reduceCtorEq, Bool.not_true, Bool.not_false, Bool.not_eq_true', k_ixAC])
  refine ⟨fun h => ?_, fun _ => ⟨_, rfl⟩⟩
  obtain ⟨d, hd⟩ := atI_lt ha (of_decide_eq_true h)
  exact ⟨d, hd, _, rfl⟩
theorem p_draws (ns : List Int) (hb : ∀ z ∈ ns, Builtin.Int.intBits z ≤ 1048576) (at_ : Int) (cnt : Nat) (ha : 0 ≤ at_) (ha2 : at_ < 100) (hc : cnt ≤ 100) : Ok (d__law_draws [.scr ns, .int at_, .int cnt]) (drawn cnt) := by
  have hs := size_ge
  unfold d__law_draws m__law_draws
  rw [ok_nox]
  refine k_runT ?_
  refine seq_cut (fun S => ∃ cell : Int, S = [(some (Sl.mk false (.scr ns))), (some (Sl.mk false (.int at_))), (some (Sl.mk false (.int cnt))), (some (Sl.mk false (.int cell))), none, none, none, none]) ?_ ?_
  · (try simp only [↓k_guard, k_no, k_I, k_S, k_B, k_N, k_G, k_Y, k_V, k_W, k_O, g0_z, g0_s, gA_z, gA_s, g1_z, g1_s, k_1, k_2, k_n, k_c, k_T, k_L, k_C, k_f1, k_f2, k_App, k_M, k_P, k_3, k_tB, k_tT, k_toB, k_tNo, k_tA, k_tO, k_tY, k_And, k_Or, k_Not, k_eIf, k_nil, k_seq, k_set, k_own, k_drop, k_ret, k_retN, k_retO, k_if, k_fz, fz_z, fz_s, k_gN, k_gsN, k_gsC, k_gT, k_asg, k_for, k_fnil, k_fcons, k_app, oL_z, oL_s, k_par, k_run, k_runN, k_fld, oO_z, k_add, k_addL, k_sub, k_mul, k_div, k_mod, k_pow, k_neg, k_lt, k_le, k_gt, k_ge, k_eqI, k_neI, k_int, k_intB, k_abs, k_lenL, k_lenT, k_lenC, k_tru, k_tupL, k_tupT, k_items_l, k_items_t, k_rng1, k_ixL, k_ixT, k_ixC, k_fldD, ok_nox, ok_ok, ok_bind, List.set_cons_zero, List.set_cons_succ, startS, startN, List.map_cons, List.map_nil, List.cons_append, List.nil_append, List.append_nil, List.length_cons, List.length_nil, List.replicate, Nat.reduceSub, Nat.reduceAdd, Nat.reduceLeDiff, Nat.zero_add, true_and, and_true, false_implies, true_implies, implies_true, forall_const, reduceCtorEq, Bool.not_true, Bool.not_false, Bool.not_eq_true'])
    refine (p_cell ns hb at_ ha).mono ?_
    rintro d ⟨z, rfl⟩
    (try simp only [↓k_guard, k_no, k_I, k_S, k_B, k_N, k_G, k_Y, k_V, k_W, k_O, g0_z, g0_s, gA_z, gA_s, g1_z, g1_s, k_1, k_2, k_n, k_c, k_T, k_L, k_C, k_f1, k_f2, k_App, k_M, k_P, k_3, k_tB, k_tT, k_toB, k_tNo, k_tA, k_tO, k_tY, k_And, k_Or, k_Not, k_eIf, k_nil, k_seq, k_set, k_own, k_drop, k_ret, k_retN, k_retO, k_if, k_fz, fz_z, fz_s, k_gN, k_gsN, k_gsC, k_gT, k_asg, k_for, k_fnil, k_fcons, k_app, oL_z, oL_s, k_par, k_run, k_runN, k_fld, oO_z, k_add, k_addL, k_sub, k_mul, k_div, k_mod, k_pow, k_neg, k_lt, k_le, k_gt, k_ge, k_eqI, k_neI, k_int, k_intB, k_abs, k_lenL, k_lenT, k_lenC, k_tru, k_tupL, k_tupT, k_items_l, k_items_t, k_rng1, k_ixL, k_ixT, k_ixC, k_fldD, ok_nox, ok_ok, ok_bind, List.set_cons_zero, List.set_cons_succ, startS, startN, List.map_cons, List.map_nil, List.cons_append, List.nil_append, List.append_nil, List.length_cons, List.length_nil, List.replicate, Nat.reduceSub, Nat.reduceAdd, Nat.reduceLeDiff, Nat.zero_add, true_and, and_true, false_implies, true_implies, implies_true, forall_const, reduceCtorEq, Bool.not_true, Bool.not_false, Bool.not_eq_true'])
    exact ⟨_, rfl⟩
  rintro S ⟨cell, rfl⟩
  refine seq_cut (fun S => S = [(some (Sl.mk false (.scr ns))), (some (Sl.mk false (.int at_))), (some (Sl.mk false (.int cnt))), (some (Sl.mk false (.int cell))), (some (Sl.mk false (.int 0))), none, none, none]) (by (try simp only [↓k_guard, k_no, k_I, k_S, k_B, k_N, k_G, k_Y, k_V, k_W, k_O, g0_z, g0_s, gA_z, gA_s, g1_z, g1_s, k_1, k_2, k_n, k_c, k_T, k_L, k_C, k_f1, k_f2, k_App, k_M, k_P, k_3, k_tB, k_tT, k_toB, k_tNo, k_tA, k_tO, k_tY, k_And, k_Or, k_Not, k_eIf, k_nil, k_seq, k_set, k_own, k_drop, k_ret, k_retN, k_retO, k_if, k_fz, fz_z, fz_s, k_gN, k_gsN, k_gsC, k_gT, k_asg, k_for, k_fnil, k_fcons, k_app, oL_z, oL_s, k_par, k_run, k_runN, k_fld, oO_z, k_add, k_addL, k_sub, k_mul, k_div, k_mod, k_pow, k_neg, k_lt, k_le, k_gt, k_ge, k_eqI, k_neI, k_int, k_intB, k_abs, k_lenL, k_lenT, k_lenC, k_tru, k_tupL, k_tupT, k_items_l, k_items_t, k_rng1, k_ixL, k_ixT, k_ixC, k_fldD, ok_nox, ok_ok, ok_bind, List.set_cons_zero, List.set_cons_succ, startS, startN, List.map_cons, List.map_nil, List.cons_append, List.nil_append, List.append_nil, List.length_cons, List.length_nil, List.replicate, Nat.reduceSub, Nat.reduceAdd, Nat.reduceLeDiff, Nat.zero_add, true_and, and_true, false_implies, true_implies, implies_true, forall_const, reduceCtorEq, Bool.not_true, Bool.not_false, Bool.not_eq_true'])) ?_
  rintro S rfl
  refine seq_cut (fun S => ∃ rest : Int, S = [(some (Sl.mk false (.scr ns))), (some (Sl.mk false (.int at_))), (some (Sl.mk false (.int cnt))), (some (Sl.mk false (.int cell))), (some (Sl.mk false (.int rest))), none, none, none]) ?_ ?_
  · (try simp only [↓k_guard, k_no, k_I, k_S, k_B, k_N, k_G, k_Y, k_V, k_W, k_O, g0_z, g0_s, gA_z, gA_s, g1_z, g1_s, k_1, k_2, k_n, k_c, k_T, k_L, k_C, k_f1, k_f2, k_App, k_M, k_P, k_3, k_tB, k_tT, k_toB, k_tNo, k_tA, k_tO, k_tY, k_And, k_Or, k_Not, k_eIf, k_nil, k_seq, k_set, k_own, k_drop, k_ret, k_retN, k_retO, k_if, k_fz, fz_z, fz_s, k_gN, k_gsN, k_gsC, k_gT, k_asg, k_for, k_fnil, k_fcons, k_app, oL_z, oL_s, k_par, k_run, k_runN, k_fld, oO_z, k_add, k_addL, k_sub, k_mul, k_div, k_mod, k_pow, k_neg, k_lt, k_le, k_gt, k_ge, k_eqI, k_neI, k_int, k_intB, k_abs, k_lenL, k_lenT, k_lenC, k_tru, k_tupL, k_tupT, k_items_l, k_items_t, k_rng1, k_ixL, k_ixT, k_ixC, k_fldD, ok_nox, ok_ok, ok_bind, List.set_cons_zero, List.set_cons_succ, startS, startN, List.map_cons, List.map_nil, List.cons_append, List.nil_append, List.append_nil, List.length_cons, List.length_nil, List.replicate, Nat.reduceSub, Nat.reduceAdd, Nat.reduceLeDiff, Nat.zero_add, true_and, and_true, false_implies, true_implies, implies_true, forall_const, reduceCtorEq, Bool.not_true, Bool.not_false, Bool.not_eq_true'])
    exact ⟨⟨by omega, by omega, by decide⟩, fun _ => ⟨⟨by omega, by omega, by decide⟩, _, rfl⟩, fun _ => ⟨_, rfl⟩⟩
  rintro S ⟨rest, rfl⟩
  refine seq_cut (fun S => S = [(some (Sl.mk false (.scr ns))), (some (Sl.mk false (.int at_))), (some (Sl.mk false (.int cnt))), (some (Sl.mk false (.int cell))), (some (Sl.mk false (.int rest))), (some (Sl.mk true (.lst []))), none, none]) (by (try simp only [↓k_guard, k_no, k_I, k_S, k_B, k_N, k_G, k_Y, k_V, k_W, k_O, g0_z, g0_s, gA_z, gA_s, g1_z, g1_s, k_1, k_2, k_n, k_c, k_T, k_L, k_C, k_f1, k_f2, k_App, k_M, k_P, k_3, k_tB, k_tT, k_toB, k_tNo, k_tA, k_tO, k_tY, k_And, k_Or, k_Not, k_eIf, k_nil, k_seq, k_set, k_own, k_drop, k_ret, k_retN, k_retO, k_if, k_fz, fz_z, fz_s, k_gN, k_gsN, k_gsC, k_gT, k_asg, k_for, k_fnil, k_fcons, k_app, oL_z, oL_s, k_par, k_run, k_runN, k_fld, oO_z, k_add, k_addL, k_sub, k_mul, k_div, k_mod, k_pow, k_neg, k_lt, k_le, k_gt, k_ge, k_eqI, k_neI, k_int, k_intB, k_abs, k_lenL, k_lenT, k_lenC, k_tru, k_tupL, k_tupT, k_items_l, k_items_t, k_rng1, k_ixL, k_ixT, k_ixC, k_fldD, ok_nox, ok_ok, ok_bind, List.set_cons_zero, List.set_cons_succ, startS, startN, List.map_cons, List.map_nil, List.cons_append, List.nil_append, List.append_nil, List.length_cons, List.length_nil, List.replicate, Nat.reduceSub, Nat.reduceAdd, Nat.reduceLeDiff, Nat.zero_add, true_and, and_true, false_implies, true_implies, implies_true, forall_const, reduceCtorEq, Bool.not_true, Bool.not_false, Bool.not_eq_true']); omega) ?_
  rintro S rfl
  refine seq_cut (fun S => ∃ (l : List Int) (r a b : Option Sl), (l.length = cnt ∧ ∀ x ∈ l, 0 ≤ x ∧ x < 720720) ∧ S = [(some (Sl.mk false (.scr ns))), (some (Sl.mk false (.int at_))), (some (Sl.mk false (.int cnt))), (some (Sl.mk false (.int cell))), r, (some (Sl.mk true (.lst (l.map .int)))), a, b]) ?_ ?_
  · (try simp only [↓k_guard, k_no, k_I, k_S, k_B, k_N, k_G, k_Y, k_V, k_W, k_O, g0_z, g0_s, gA_z, gA_s, g1_z, g1_s, k_1, k_2, k_n, k_c, k_T, k_L, k_C, k_f1, k_f2, k_App, k_M, k_P, k_3, k_tB, k_tT, k_toB, k_tNo, k_tA, k_tO, k_tY, k_And, k_Or, k_Not, k_eIf, k_nil, k_seq, k_set, k_own, k_drop, k_ret, k_retN, k_retO, k_if, k_fz, fz_z, fz_s, k_gN, k_gsN, k_gsC, k_gT, k_asg, k_for, k_fnil, k_fcons, k_app, oL_z, oL_s, k_par, k_run, k_runN, k_fld, oO_z, k_add, k_addL, k_sub, k_mul, k_div, k_mod, k_pow, k_neg, k_lt, k_le, k_gt, k_ge, k_eqI, k_neI, k_int, k_intB, k_abs, k_lenL, k_lenT, k_lenC, k_tru, k_tupL, k_tupT, k_items_l, k_items_t, k_rng1, k_ixL, k_ixT, k_ixC, k_fldD, ok_nox, ok_ok, ok_bind, List.set_cons_zero, List.set_cons_succ, startS, startN, List.map_cons, List.map_nil, List.cons_append, List.nil_append, List.append_nil, List.length_cons, List.length_nil, List.replicate, Nat.reduceSub, Nat.reduceAdd, Nat.reduceLeDiff, Nat.zero_add, true_and, and_true, false_implies, true_implies, implies_true, forall_const, reduceCtorEq, Bool.not_true, Bool.not_false, Bool.not_eq_true'])
    refine ⟨⟨by omega, by omega⟩, ?_⟩
    refine for_inv (fun i S => ∃ (l : List Int) (rest : Int) (a b : Option Sl), (l.length = i ∧ ∀ x ∈ l, 0 ≤ x ∧ x < 720720) ∧ S = [(some (Sl.mk false (.scr ns))), (some (Sl.mk false (.int at_))), (some (Sl.mk false (.int cnt))), (some (Sl.mk false (.int cell))), (some (Sl.mk false (.int rest))), (some (Sl.mk true (.lst (l.map .int)))), a, b]) _ 0 _ ⟨[], rest, none, none, ⟨rfl, by simp⟩, rfl⟩ ?_ ?_
    · rintro i d S hd ⟨l, rest, a, b, hl, rfl⟩
      obtain ⟨hi, rfl⟩ := rngL_get hd
      simp only [Int.toNat_natCast] at hi
      rw [Nat.zero_add] at hl
      have hll : (l.map D.int).length < sizeLine := by rw [List.length_map, hl.1]; omega
      (try simp only [↓k_guard, k_no, k_I, k_S, k_B, k_N, k_G, k_Y, k_V, k_W, k_O, g0_z, g0_s, gA_z, gA_s, g1_z, g1_s, k_1, k_2, k_n, k_c, k_T, k_L, k_C, k_f1, k_f2, k_App, k_M, k_P, k_3, k_tB, k_tT, k_toB, k_tNo, k_tA, k_tO, k_tY, k_And, k_Or, k_Not, k_eIf, k_nil, k_seq, k_set, k_own, k_drop, k_ret, k_retN, k_retO, k_if, k_fz, fz_z, fz_s, k_gN, k_gsN, k_gsC, k_gT, k_asg, k_for, k_fnil, k_fcons, k_app, oL_z, oL_s, k_par, k_run, k_runN, k_fld, oO_z, k_add, k_addL, k_sub, k_mul, k_div, k_mod, k_pow, k_neg, k_lt, k_le, k_gt, k_ge, k_eqI, k_neI, k_int, k_intB, k_abs, k_lenL, k_lenT, k_lenC, k_tru, k_tupL, k_tupT, k_items_l, k_items_t, k_rng1, k_ixL, k_ixT, k_ixC, k_fldD, ok_nox, ok_ok, ok_bind, List.set_cons_zero, List.set_cons_succ, startS, startN, List.map_cons, List.map_nil, List.cons_append, List.nil_append, List.append_nil, List.length_cons, List.length_nil, List.replicate, Nat.reduceSub, Nat.reduceAdd, Nat.reduceLeDiff, Nat.zero_add, true_and, and_true, false_implies, true_implies, implies_true, forall_const, reduceCtorEq, Bool.not_true, Bool.not_false, Bool.not_eq_true'])
      refine ⟨fun h1 => ⟨by omega, hll, div_c (by omega) (by omega), l ++ [rest % 60], _, _, _, drawn.snoc hl ?_, by rw [List.map_append]; rfl⟩, fun h1 => ?_⟩
      · have := mod_b rest (m := 60) (by omega); omega
      · refine ⟨mul_r (by omega) (by omega), mul_l (by omega) (by omega), mul_l (by omega) (by omega), by omega, ?_⟩
        have m1 := mod_b (cell * 48271 + (0 + (i : Int)) * 69621 + at_ * 7919 + 12345) (m := 99991) (by omega)
        generalize (cell * 48271 + (0 + (i : Int)) * 69621 + at_ * 7919 + 12345) % 99991 = x1 at m1
        refine ⟨mul_l (by omega) (by omega), mul_l (by omega) (by omega), by omega, ?_⟩
        have m2 := mod_b (x1 * x1 + (0 + (i : Int)) * 101) (m := 999983) (by omega)
        generalize (x1 * x1 + (0 + (i : Int)) * 101) % 999983 = x2 at m2
        refine ⟨mul_l (by omega) (by omega), div_c (by omega) (by omega), by omega, ?_⟩
        generalize (x2 * x2 + x2 / 127) % 9999991 = x3
        have m4 := mod_b (x3 / 11) (m := 60) (by omega)
        exact ⟨div_c (by omega) (by omega), by omega, hll, l ++ [x3 / 11 % 60], _, _, _, drawn.snoc hl ⟨by omega, by omega⟩, by rw [List.map_append]; rfl⟩
    · rintro S ⟨l, rest, a, b, hl, rfl⟩
      rw [rngL_len, Nat.zero_add, Int.toNat_natCast] at hl
      exact ⟨rfl, l, _, a, b, hl, rfl⟩
  rintro S ⟨l, r, a, b, hl, rfl⟩
  (try simp only [↓k_guard, k_no, k_I, k_S, k_B, k_N, k_G, k_Y, k_V, k_W, k_O, g0_z, g0_s, gA_z, gA_s, g1_z, g1_s, k_1, k_2, k_n, k_c, k_T, k_L, k_C, k_f1, k_f2, k_App, k_M, k_P, k_3, k_tB, k_tT, k_toB, k_tNo, k_tA, k_tO, k_tY, k_And, k_Or, k_Not, k_eIf, k_nil, k_seq, k_set, k_own, k_drop, k_ret, k_retN, k_retO, k_if, k_fz, fz_z, fz_s, k_gN, k_gsN, k_gsC, k_gT, k_asg, k_for, k_fnil, k_fcons, k_app, oL_z, oL_s, k_par, k_run, k_runN, k_fld, oO_z, k_add, k_addL, k_sub, k_mul, k_div, k_mod, k_pow, k_neg, k_lt, k_le, k_gt, k_ge, k_eqI, k_neI, k_int, k_intB, k_abs, k_lenL, k_lenT, k_lenC, k_tru, k_tupL, k_tupT, k_items_l, k_items_t, k_rng1, k_ixL, k_ixT, k_ixC, k_fldD, ok_nox, ok_ok, ok_bind, List.set_cons_zero, List.set_cons_succ, startS, startN, List.map_cons, List.map_nil, List.cons_append, List.nil_append, List.append_nil, List.length_cons, List.length_nil, List.replicate, Nat.reduceSub, Nat.reduceAdd, Nat.reduceLeDiff, Nat.zero_add, true_and, and_true, false_implies, true_implies, implies_true, forall_const, reduceCtorEq, Bool.not_true, Bool.not_false, Bool.not_eq_true'])
  exact ⟨_, rfl, l, rfl, hl.1, hl.2⟩
theorem k_isI {n : Int} {Q : D → Prop} : Ok (isiD (.int n) (.ty "bool")) Q ↔ Q (.bl false) := ok_ok
theorem k_fldS {q p : Int} {Q : D → Prop} : (Ok (fldD 14 0 (sup q p)) Q ↔ Q (.int (szI q p))) := ok_ok
theorem k_fldS1 {q p : Int} {Q : D → Prop} : (Ok (fldD 14 1 (sup q p)) Q ↔ Q (.tup (stL q p))) := ok_ok
theorem k_fldS2 {q p : Int} {Q : D → Prop} : (Ok (fldD 14 2 (sup q p)) Q ↔ Q (.tup [.int 0])) := ok_ok
theorem k_neT0 {Q : D → Prop} : (Ok (neD (.tup [.int 0]) (.tup [.int 0])) Q ↔ Q (.bl false)) := ok_ok
theorem drawnI {l : List Int} {i : Int} (hl : l.length = 8) (hm : ∀ x ∈ l, 0 ≤ x ∧ x < 720720) (h0 : 0 ≤ i) (h1 : i < 8) {Q : D → Prop} (h : ∀ x : Int, 0 ≤ x → Q (.int x)) : Ok (ixD (.lst (l.map D.int)) (.int i)) Q :=
  (drawn.ix (n := 8) ⟨l, rfl, hl, hm⟩ h0 (by omega)).mono fun z ⟨x, hx, h2, _⟩ => by rw [hx]; exact h x h2
/-- the state of the law ahead of its pairs -/
def st8 (ns l : List Int) (q p : Int) : M.Env := [(some (Sl.mk false (.scr ns))), (some (Sl.mk false (.lst (l.map .int)))), (some (Sl.mk false (.int p))), (some (Sl.mk false (.int q))), (some (Sl.mk false (sup q p))), (some (Sl.mk false (.int (szI q p)))), (some (Sl.mk false (.lst (stL q p)))), none, none, none, none, none, none, none, none, none, none, none, none, none]
theorem law_a (ns : List Int) (hb : ∀ z ∈ ns, Builtin.Int.intBits z ≤ 1048576) {r : FS} {QS : Fl × M.Env → Prop}
    (hr : ∀ (l : List Int) (q p : Int), l.length = 8 → (∀ x ∈ l, 0 ≤ x ∧ x < 720720) → 1 ≤ p → p ≤ 8 → 0 ≤ q → q ≤ p → Ok (r (st8 ns l q p)) QS) :
    Ok ((sSeq (sSet 1 (eC d__law_draws (aC (eV 0) (aC (eI (0)) (aC (eI (8)) aN)))))
    (sSeq (sSet 2 (e2 addD (eI (1)) (e2 modD (eC (f1 intD) (aC (e2 ixA (eW 1) (eI (0))) aN)) (eI (8)))))
    (sSeq (sSet 3 (e2 modD (eC (f1 intD) (aC (e2 ixA (eW 1) (eI (1))) aN)) (e2 addD (eW 2) (eI (1)))))
    (sSeq (sSet 4 (eCMX 14 d_Supply_share (eG (.cls 14)) (aC (eV 3) (aC (eV 2) aN))))
    (sSeq (sAsg (gT 2 (gsC (gN 5) (gsC (gN 6) gsN))) (eC d__law_share (aC (eV 3) (aC (eV 2) aN))))
    (sSeq (sIf (tO (tT' (eC (f2 isiD) (aC (e1 (fldD 14 0) (eW 4)) (aC (eY "bool") aN)))) (tO (tB' (e2 neD (e1 (fldD 14 0) (eW 4)) (eW 5))) (tB' (e2 neD (e1 (fldD 14 1) (eW 4)) (eC (f1 tupD) (aC (eC (f1 srtAD) (aC (eW 6) aN)) aN)))))) (sRet (eB false)) sNil)
    (sSeq (sIf (tO (tB' (e2 neD (e1 (fldD 14 2) (eW 4)) (eT (aC (eI (0)) aN)))) (tB' (eHas 14 d_Supply___contains__ true (eT aN) (eV 4)))) (sRet (eB false)) sNil) r))))))) (startS 20 [.scr ns])) QS := by
  have hs := size_ge
  have e0 : startS 20 [.scr ns] = [(some (Sl.mk false (.scr ns))), none, none, none, none, none, none, none, none, none, none, none, none, none, none, none, none, none, none, none] := rfl
  rw [e0]
  refine seq_cut (fun S => ∃ l : List Int, (l.length = 8 ∧ ∀ x ∈ l, 0 ≤ x ∧ x < 720720) ∧ S = [(some (Sl.mk false (.scr ns))), (some (Sl.mk false (.lst (l.map .int)))), none, none, none, none, none, none, none, none, none, none, none, none, none, none, none, none, none, none]) ?_ ?_
  · (try simp only [↓k_guard, k_no, k_I, k_S, k_B, k_N, k_G, k_Y, k_V, k_W, k_O, g0_z, g0_s, gA_z, gA_s, g1_z, g1_s, k_1, k_2, k_n, k_c, k_T, k_L, k_C, k_f1, k_f2, k_App, k_M, k_P, k_3, k_tB, k_tT, k_toB, k_tNo, k_tA, k_tO, k_tY, k_And, k_Or, k_Not, k_eIf, k_nil, k_seq, k_set, k_own, k_drop, k_ret, k_retN, k_retO, k_if, k_fz, fz_z, fz_s, k_gN, k_gsN, k_gsC, k_gT, k_asg, k_for, k_fnil, k_fcons, k_app, oL_z, oL_s, k_par, k_run, k_runN, k_fld, oO_z, k_add, k_addL, k_sub, k_mul, k_div, k_mod, k_pow, k_neg, k_lt, k_le, k_gt, k_ge, k_eqI, k_neI, k_int, k_intB, k_abs, k_lenL, k_lenT, k_lenC, k_tru, k_tupL, k_tupT, k_items_l, k_items_t, k_rng1, k_ixL, k_ixT, k_ixC, k_fldD, ok_nox, ok_ok, ok_bind, List.set_cons_zero, List.set_cons_succ, startS, startN, List.map_cons, List.map_nil, List.cons_append, List.nil_append, List.append_nil, List.length_cons, List.length_nil, List.replicate, Nat.reduceSub, Nat.reduceAdd, Nat.reduceLeDiff, Nat.zero_add, true_and, and_true, false_implies, true_implies, implies_true, forall_const, reduceCtorEq, Bool.not_true, Bool.not_false, Bool.not_eq_true'])
    refine (p_draws ns hb 0 8 (by omega) (by omega) (by omega)).mono ?_
    rintro d ⟨l, rfl, h1, h2⟩
    exact ⟨l, ⟨h1, h2⟩, rfl⟩
  rintro S ⟨l, ⟨hl, hm⟩, rfl⟩
  refine seq_cut (fun S => ∃ p : Int, (1 ≤ p ∧ p ≤ 8) ∧ S = [(some (Sl.mk false (.scr ns))), (some (Sl.mk false (.lst (l.map .int)))), (some (Sl.mk false (.int p))), none, none, none, none, none, none, none, none, none, none, none, none, none, none, none, none, none]) ?_ ?_
  · rw [k_set, k_2, k_I, k_2, k_C, k_c, k_2]
    refine ⟨_, rfl, _, rfl, ?_⟩
    dsimp only
    rw [k_ixAL]
    refine drawnI hl hm (by omega) (by omega) fun x hx => ?_
    (try simp only [↓k_guard, k_no, k_I, k_S, k_B, k_N, k_G, k_Y, k_V, k_W, k_O, g0_z, g0_s, gA_z, gA_s, g1_z, g1_s, k_1, k_2, k_n, k_c, k_T, k_L, k_C, k_f1, k_f2, k_App, k_M, k_P, k_3, k_tB, k_tT, k_toB, k_tNo, k_tA, k_tO, k_tY, k_And, k_Or, k_Not, k_eIf, k_nil, k_seq, k_set, k_own, k_drop, k_ret, k_retN, k_retO, k_if, k_fz, fz_z, fz_s, k_gN, k_gsN, k_gsC, k_gT, k_asg, k_for, k_fnil, k_fcons, k_app, oL_z, oL_s, k_par, k_run, k_runN, k_fld, oO_z, k_add, k_addL, k_sub, k_mul, k_div, k_mod, k_pow, k_neg, k_lt, k_le, k_gt, k_ge, k_eqI, k_neI, k_int, k_intB, k_abs, k_lenL, k_lenT, k_lenC, k_tru, k_tupL, k_tupT, k_items_l, k_items_t, k_rng1, k_ixL, k_ixT, k_ixC, k_fldD, ok_nox, ok_ok, ok_bind, List.set_cons_zero, List.set_cons_succ, startS, startN, List.map_cons, List.map_nil, List.cons_append, List.nil_append, List.append_nil, List.length_cons, List.length_nil, List.replicate, Nat.reduceSub, Nat.reduceAdd, Nat.reduceLeDiff, Nat.zero_add, true_and, and_true, false_implies, true_implies, implies_true, forall_const, reduceCtorEq, Bool.not_true, Bool.not_false, Bool.not_eq_true'])
    have := mod_b x (m := 8) (by omega)
    exact ⟨by omega, _, ⟨by omega, by omega⟩, rfl⟩
  rintro S ⟨p, ⟨hp1, hp2⟩, rfl⟩
  refine seq_cut (fun S => ∃ q : Int, (0 ≤ q ∧ q ≤ p) ∧ S = [(some (Sl.mk false (.scr ns))), (some (Sl.mk false (.lst (l.map .int)))), (some (Sl.mk false (.int p))), (some (Sl.mk false (.int q))), none, none, none, none, none, none, none, none, none, none, none, none, none, none, none, none]) ?_ ?_
  · rw [k_set, k_2, k_C, k_c, k_2]
    refine ⟨_, rfl, _, rfl, ?_⟩
    dsimp only
    rw [k_ixAL]
    refine drawnI hl hm (by omega) (by omega) fun x hx => ?_
    (try simp only [↓k_guard, k_no, k_I, k_S, k_B, k_N, k_G, k_Y, k_V, k_W, k_O, g0_z, g0_s, gA_z, gA_s, g1_z, g1_s, k_1, k_2, k_n, k_c, k_T, k_L, k_C, k_f1, k_f2, k_App, k_M, k_P, k_3, k_tB, k_tT, k_toB, k_tNo, k_tA, k_tO, k_tY, k_And, k_Or, k_Not, k_eIf, k_nil, k_seq, k_set, k_own, k_drop, k_ret, k_retN, k_retO, k_if, k_fz, fz_z, fz_s, k_gN, k_gsN, k_gsC, k_gT, k_asg, k_for, k_fnil, k_fcons, k_app, oL_z, oL_s, k_par, k_run, k_runN, k_fld, oO_z, k_add, k_addL, k_sub, k_mul, k_div, k_mod, k_pow, k_neg, k_lt, k_le, k_gt, k_ge, k_eqI, k_neI, k_int, k_intB, k_abs, k_lenL, k_lenT, k_lenC, k_tru, k_tupL, k_tupT, k_items_l, k_items_t, k_rng1, k_ixL, k_ixT, k_ixC, k_fldD, ok_nox, ok_ok, ok_bind, List.set_cons_zero, List.set_cons_succ, startS, startN, List.map_cons, List.map_nil, List.cons_append, List.nil_append, List.append_nil, List.length_cons, List.length_nil, List.replicate, Nat.reduceSub, Nat.reduceAdd, Nat.reduceLeDiff, Nat.zero_add, true_and, and_true, false_implies, true_implies, implies_true, forall_const, reduceCtorEq, Bool.not_true, Bool.not_false, Bool.not_eq_true'])
    have := mod_b x (m := p + 1) (by omega)
    exact ⟨by omega, _, ⟨by omega, by omega⟩, rfl⟩
  rintro S ⟨q, ⟨hq1, hq2⟩, rfl⟩
  have F := fs_at hp1 hp2 hq1 hq2
  have N := fn_at hp1 hp2 hq1 hq2
  refine seq_cut (fun S => S = [(some (Sl.mk false (.scr ns))), (some (Sl.mk false (.lst (l.map .int)))), (some (Sl.mk false (.int p))), (some (Sl.mk false (.int q))), (some (Sl.mk false (sup q p))), none, none, none, none, none, none, none, none, none, none, none, none, none, none, none]) ?_ ?_
  · rw [k_set]
    have e : eCMX 14 d_Supply_share (eG (.cls 14)) (aC (eV 3) (aC (eV 2) aN)) [(some (Sl.mk false (.scr ns))), (some (Sl.mk false (.lst (l.map .int)))), (some (Sl.mk false (.int p))), (some (Sl.mk false (.int q))), none, none, none, none, none, none, none, none, none, none, none, none, none, none, none, none] = d_Supply_share [.cls 14, .int q, .int p] := rfl
    rw [e, F.share, ok_ok]
    exact ⟨rfl, rfl⟩
  rintro S rfl
  refine seq_cut (fun S => S = st8 ns l q p) ?_ ?_
  · rw [k_asg]
    have e : eC d__law_share (aC (eV 3) (aC (eV 2) aN)) [(some (Sl.mk false (.scr ns))), (some (Sl.mk false (.lst (l.map .int)))), (some (Sl.mk false (.int p))), (some (Sl.mk false (.int q))), (some (Sl.mk false (sup q p))), none, none, none, none, none, none, none, none, none, none, none, none, none, none, none] = (d__law_share [.int q, .int p]).nox := rfl
    rw [e, F.lsh, R.nox_ok, ok_ok]
    exact ⟨_, rfl, rfl, rfl⟩
  rintro S rfl
  refine pass_if ?_ (pass_if ?_ (hr l q p hl hm hp1 hp2 hq1 hq2))
  · unfold st8
    (try simp only [↓k_guard, k_no, k_I, k_S, k_B, k_N, k_G, k_Y, k_V, k_W, k_O, g0_z, g0_s, gA_z, gA_s, g1_z, g1_s, k_1, k_2, k_n, k_c, k_T, k_L, k_C, k_f1, k_f2, k_App, k_M, k_P, k_3, k_tB, k_tT, k_toB, k_tNo, k_tA, k_tO, k_tY, k_And, k_Or, k_Not, k_eIf, k_nil, k_seq, k_set, k_own, k_drop, k_ret, k_retN, k_retO, k_if, k_fz, fz_z, fz_s, k_gN, k_gsN, k_gsC, k_gT, k_asg, k_for, k_fnil, k_fcons, k_app, oL_z, oL_s, k_par, k_run, k_runN, k_fld, oO_z, k_add, k_addL, k_sub, k_mul, k_div, k_mod, k_pow, k_neg, k_lt, k_le, k_gt, k_ge, k_eqI, k_neI, k_int, k_intB, k_abs, k_lenL, k_lenT, k_lenC, k_tru, k_tupL, k_tupT, k_items_l, k_items_t, k_rng1, k_ixL, k_ixT, k_ixC, k_fldD, ok_nox, ok_ok, ok_bind, List.set_cons_zero, List.set_cons_succ, startS, startN, List.map_cons, List.map_nil, List.cons_append, List.nil_append, List.append_nil, List.length_cons, List.length_nil, List.replicate, Nat.reduceSub, Nat.reduceAdd, Nat.reduceLeDiff, Nat.zero_add, true_and, and_true, false_implies, true_implies, implies_true, forall_const, reduceCtorEq, Bool.not_true, Bool.not_false, Bool.not_eq_true', k_isI, k_fldS, k_fldS1, ok_eq F.srt, ok_eq F.ne])
    simp
  · have e : (tB' (eHas 14 d_Supply___contains__ true (eT aN) (eV 4))) (st8 ns l q p) = (((d_Supply___contains__ [sup q p, .tup []]).nox >>= hasB true) >>= toB) := rfl
    have e2 : d_Supply___contains__ [sup q p, .tup []] = .ok (.bl true) := contains_ok N [] (by simp)
    rw [k_tO, e, e2]
    unfold st8
    (try simp only [↓k_guard, k_no, k_I, k_S, k_B, k_N, k_G, k_Y, k_V, k_W, k_O, g0_z, g0_s, gA_z, gA_s, g1_z, g1_s, k_1, k_2, k_n, k_c, k_T, k_L, k_C, k_f1, k_f2, k_App, k_M, k_P, k_3, k_tB, k_tT, k_toB, k_tNo, k_tA, k_tO, k_tY, k_And, k_Or, k_Not, k_eIf, k_nil, k_seq, k_set, k_own, k_drop, k_ret, k_retN, k_retO, k_if, k_fz, fz_z, fz_s, k_gN, k_gsN, k_gsC, k_gT, k_asg, k_for, k_fnil, k_fcons, k_app, oL_z, oL_s, k_par, k_run, k_runN, k_fld, oO_z, k_add, k_addL, k_sub, k_mul, k_div, k_mod, k_pow, k_neg, k_lt, k_le, k_gt, k_ge, k_eqI, k_neI, k_int, k_intB, k_abs, k_lenL, k_lenT, k_lenC, k_tru, k_tupL, k_tupT, k_items_l, k_items_t, k_rng1, k_ixL, k_ixT, k_ixC, k_fldD, ok_nox, ok_ok, ok_bind, List.set_cons_zero, List.set_cons_succ, startS, startN, List.map_cons, List.map_nil, List.cons_append, List.nil_append, List.append_nil, List.length_cons, List.length_nil, List.replicate, Nat.reduceSub, Nat.reduceAdd, Nat.reduceLeDiff, Nat.zero_add, true_and, and_true, false_implies, true_implies, implies_true, forall_const, reduceCtorEq, Bool.not_true, Bool.not_false, Bool.not_eq_true', k_fldS2, k_neT0])
    refine ⟨by omega, ?_⟩
    exact ⟨_, rfl, _, rfl, rfl⟩
end Pf
set_option Elab.async false
set_option linter.all false
set_option maxRecDepth 100000
namespace Pf
open M PySem L2
/-- behind the pairs -/
def st9 (ns l : List Int) (q p : Int) (x8 : Option Sl) (ps : List Pr) : M.Env := [(some (Sl.mk false (.scr ns))), (some (Sl.mk false (.lst (l.map .int)))), (some (Sl.mk false (.int p))), (some (Sl.mk false (.int q))), (some (Sl.mk false (sup q p))), (some (Sl.mk false (.int (szI q p)))), (some (Sl.mk false (.lst (stL q p)))), (some (Sl.mk true (.lst (ps.map prD)))), x8, none, none, none, none, none, none, none, none, none, none, none]
theorem k_isnt {o : Option Pr} {Q : D → Prop} : Ok (isntD (oprD o) .non) Q ↔ Q (.bl o.isSome) := by
  cases o <;> exact ok_ok
theorem row_le {q p : Int} (h0 : 0 ≤ q) (h1 : q ≤ 8) (i : Nat) : (rowP q p i).length ≤ 9 := by
  unfold rowP
  rw [List.length_map]
  refine Nat.le_trans (List.length_filter_le _ _) ?_
  rw [List.length_range]; omega
theorem flat_le {q p : Int} (h0 : 0 ≤ q) (h1 : q ≤ 8) : ∀ i : Nat, ((List.range i).flatMap (rowP q p)).length ≤ 9 * i
  | 0 => by simp
  | i + 1 => by
    have a := flat_le (p := p) h0 h1 i
    have b := row_le (p := p) h0 h1 i
    rw [List.range_succ, List.flatMap_append, List.length_append]
    simp only [List.flatMap_cons, List.flatMap_nil, List.append_nil]
    omega
theorem law_b {ns l : List Int} {q p : Int} (hp1 : 1 ≤ p) (hp2 : p ≤ 8) (hq1 : 0 ≤ q) (hq2 : q ≤ p) {r : FS} {QS : Fl × M.Env → Prop} (hr : ∀ x8, Ok (r (st9 ns l q p x8 (prs q p))) QS) :
    Ok ((sSeq (sOwn 7 (eL aN))
    (sSeq (sFor (fun S => (aC (eW 2) aN) S >>= rng1) (gN 8) (sExt 7 (lcE (fun S => (aC (e2 addD (eW 3) (eI (1))) aN) S >>= rng1) (gN 17) (tB' (e2 isntD (eC d__law_pair (aC (eV 8) (aC (eV 17) (aC (eV 2) (aC (eV 3) aN))))) eN)) (eT (aC (eV 8) (aC (eV 17) aN))) [17]))) r)) (st8 ns l q p)) QS := by
  have hs := size_ge
  unfold st8
  refine seq_cut (fun S => S = st9 ns l q p none []) (by (try simp only [↓k_guard, k_no, k_I, k_S, k_B, k_N, k_G, k_Y, k_V, k_W, k_O, g0_z, g0_s, gA_z, gA_s, g1_z, g1_s, k_1, k_2, k_n, k_c, k_T, k_L, k_C, k_f1, k_f2, k_App, k_M, k_P, k_3, k_tB, k_tT, k_toB, k_tNo, k_tA, k_tO, k_tY, k_And, k_Or, k_Not, k_eIf, k_nil, k_seq, k_set, k_own, k_drop, k_ret, k_retN, k_retO, k_if, k_fz, fz_z, fz_s, k_gN, k_gsN, k_gsC, k_gT, k_asg, k_for, k_fnil, k_fcons, k_app, oL_z, oL_s, k_par, k_run, k_runN, k_fld, oO_z, k_add, k_addL, k_sub, k_mul, k_div, k_mod, k_pow, k_neg, k_lt, k_le, k_gt, k_ge, k_eqI, k_neI, k_int, k_intB, k_abs, k_lenL, k_lenT, k_lenC, k_tru, k_tupL, k_tupT, k_items_l, k_items_t, k_rng1, k_ixL, k_ixT, k_ixC, k_fldD, ok_nox, ok_ok, ok_bind, List.set_cons_zero, List.set_cons_succ, startS, startN, List.map_cons, List.map_nil, List.cons_append, List.nil_append, List.append_nil, List.length_cons, List.length_nil, List.replicate, Nat.reduceSub, Nat.reduceAdd, Nat.reduceLeDiff, Nat.zero_add, true_and, and_true, false_implies, true_implies, implies_true, forall_const, reduceCtorEq, Bool.not_true, Bool.not_false, Bool.not_eq_true']); exact ⟨by omega, rfl⟩) ?_
  rintro S rfl
  refine seq_cut (fun S => ∃ x8, S = st9 ns l q p x8 (prs q p)) ?_ (by rintro S ⟨x8, rfl⟩; exact hr x8)
  unfold st9
  rw [k_for]
  (try simp only [↓k_guard, k_no, k_I, k_S, k_B, k_N, k_G, k_Y, k_V, k_W, k_O, g0_z, g0_s, gA_z, gA_s, g1_z, g1_s, k_1, k_2, k_n, k_c, k_T, k_L, k_C, k_f1, k_f2, k_App, k_M, k_P, k_3, k_tB, k_tT, k_toB, k_tNo, k_tA, k_tO, k_tY, k_And, k_Or, k_Not, k_eIf, k_nil, k_seq, k_set, k_own, k_drop, k_ret, k_retN, k_retO, k_if, k_fz, fz_z, fz_s, k_gN, k_gsN, k_gsC, k_gT, k_asg, k_for, k_fnil, k_fcons, k_app, oL_z, oL_s, k_par, k_run, k_runN, k_fld, oO_z, k_add, k_addL, k_sub, k_mul, k_div, k_mod, k_pow, k_neg, k_lt, k_le, k_gt, k_ge, k_eqI, k_neI, k_int, k_intB, k_abs, k_lenL, k_lenT, k_lenC, k_tru, k_tupL, k_tupT, k_items_l, k_items_t, k_rng1, k_ixL, k_ixT, k_ixC, k_fldD, ok_nox, ok_ok, ok_bind, List.set_cons_zero, List.set_cons_succ, startS, startN, List.map_cons, List.map_nil, List.cons_append, List.nil_append, List.append_nil, List.length_cons, List.length_nil, List.replicate, Nat.reduceSub, Nat.reduceAdd, Nat.reduceLeDiff, Nat.zero_add, true_and, and_true, false_implies, true_implies, implies_true, forall_const, reduceCtorEq, Bool.not_true, Bool.not_false, Bool.not_eq_true'])
  refine ⟨⟨by omega, by omega⟩, ?_⟩
  refine for_inv (fun i S => ∃ x8, S = st9 ns l q p x8 ((List.range i).flatMap (rowP q p))) _ 0 _ ⟨none, rfl⟩ ?_ ?_
  · rintro i d S hd ⟨x8, rfl⟩
    obtain ⟨hi, rfl⟩ := rngL_get hd
    rw [Nat.zero_add, Int.zero_add]
    unfold st9
    (try simp only [↓k_guard, k_no, k_I, k_S, k_B, k_N, k_G, k_Y, k_V, k_W, k_O, g0_z, g0_s, gA_z, gA_s, g1_z, g1_s, k_1, k_2, k_n, k_c, k_T, k_L, k_C, k_f1, k_f2, k_App, k_M, k_P, k_3, k_tB, k_tT, k_toB, k_tNo, k_tA, k_tO, k_tY, k_And, k_Or, k_Not, k_eIf, k_nil, k_seq, k_set, k_own, k_drop, k_ret, k_retN, k_retO, k_if, k_fz, fz_z, fz_s, k_gN, k_gsN, k_gsC, k_gT, k_asg, k_for, k_fnil, k_fcons, k_app, oL_z, oL_s, k_par, k_run, k_runN, k_fld, oO_z, k_add, k_addL, k_sub, k_mul, k_div, k_mod, k_pow, k_neg, k_lt, k_le, k_gt, k_ge, k_eqI, k_neI, k_int, k_intB, k_abs, k_lenL, k_lenT, k_lenC, k_tru, k_tupL, k_tupT, k_items_l, k_items_t, k_rng1, k_ixL, k_ixT, k_ixC, k_fldD, ok_nox, ok_ok, ok_bind, List.set_cons_zero, List.set_cons_succ, startS, startN, List.map_cons, List.map_nil, List.cons_append, List.nil_append, List.append_nil, List.length_cons, List.length_nil, List.replicate, Nat.reduceSub, Nat.reduceAdd, Nat.reduceLeDiff, Nat.zero_add, true_and, and_true, false_implies, true_implies, implies_true, forall_const, reduceCtorEq, Bool.not_true, Bool.not_false, Bool.not_eq_true', k_ext])
    have key : Ok (lcE (fun S => (aC (e2 addD (eW 3) (eI (1))) aN) S >>= rng1) (gN 17) (tB' (e2 isntD (eC d__law_pair (aC (eV 8) (aC (eV 17) (aC (eV 2) (aC (eV 3) aN))))) eN)) (eT (aC (eV 8) (aC (eV 17) aN))) [17] [(some (Sl.mk false (.scr ns))), (some (Sl.mk false (.lst (l.map .int)))), (some (Sl.mk false (.int p))), (some (Sl.mk false (.int q))), (some (Sl.mk false (sup q p))), (some (Sl.mk false (.int (szI q p)))), (some (Sl.mk false (.lst (stL q p)))), (some (Sl.mk true (.lst (((List.range i).flatMap (rowP q p)).map prD)))), (some (Sl.mk false (.int i))), none, none, none, none, none, none, none, none, none, none, none]) fun d => d = .lst ((rowP q p i).map prD) := by
      refine k_lcT (fun k : Nat => .int (k : Int)) (fun k => (lpair (i : Int) (k : Int) p q).isSome) (fun k : Nat => prD ((i : Int), (k : Int))) (List.range (q + 1).toNat) ?_ ?_ ?_ ?_
      · (try simp only [↓k_guard, k_no, k_I, k_S, k_B, k_N, k_G, k_Y, k_V, k_W, k_O, g0_z, g0_s, gA_z, gA_s, g1_z, g1_s, k_1, k_2, k_n, k_c, k_T, k_L, k_C, k_f1, k_f2, k_App, k_M, k_P, k_3, k_tB, k_tT, k_toB, k_tNo, k_tA, k_tO, k_tY, k_And, k_Or, k_Not, k_eIf, k_nil, k_seq, k_set, k_own, k_drop, k_ret, k_retN, k_retO, k_if, k_fz, fz_z, fz_s, k_gN, k_gsN, k_gsC, k_gT, k_asg, k_for, k_fnil, k_fcons, k_app, oL_z, oL_s, k_par, k_run, k_runN, k_fld, oO_z, k_add, k_addL, k_sub, k_mul, k_div, k_mod, k_pow, k_neg, k_lt, k_le, k_gt, k_ge, k_eqI, k_neI, k_int, k_intB, k_abs, k_lenL, k_lenT, k_lenC, k_tru, k_tupL, k_tupT, k_items_l, k_items_t, k_rng1, k_ixL, k_ixT, k_ixC, k_fldD, ok_nox, ok_ok, ok_bind, List.set_cons_zero, List.set_cons_succ, startS, startN, List.map_cons, List.map_nil, List.cons_append, List.nil_append, List.append_nil, List.length_cons, List.length_nil, List.replicate, Nat.reduceSub, Nat.reduceAdd, Nat.reduceLeDiff, Nat.zero_add, true_and, and_true, false_implies, true_implies, implies_true, forall_const, reduceCtorEq, Bool.not_true, Bool.not_false, Bool.not_eq_true'])
        refine ⟨⟨by omega, by omega⟩, ?_⟩
        unfold rngL
        simp only [Int.zero_add]
      · rw [List.length_range]; omega
      · intro k hk
        (try simp only [↓k_guard, k_no, k_I, k_S, k_B, k_N, k_G, k_Y, k_V, k_W, k_O, g0_z, g0_s, gA_z, gA_s, g1_z, g1_s, k_1, k_2, k_n, k_c, k_T, k_L, k_C, k_f1, k_f2, k_App, k_M, k_P, k_3, k_tB, k_tT, k_toB, k_tNo, k_tA, k_tO, k_tY, k_And, k_Or, k_Not, k_eIf, k_nil, k_seq, k_set, k_own, k_drop, k_ret, k_retN, k_retO, k_if, k_fz, fz_z, fz_s, k_gN, k_gsN, k_gsC, k_gT, k_asg, k_for, k_fnil, k_fcons, k_app, oL_z, oL_s, k_par, k_run, k_runN, k_fld, oO_z, k_add, k_addL, k_sub, k_mul, k_div, k_mod, k_pow, k_neg, k_lt, k_le, k_gt, k_ge, k_eqI, k_neI, k_int, k_intB, k_abs, k_lenL, k_lenT, k_lenC, k_tru, k_tupL, k_tupT, k_items_l, k_items_t, k_rng1, k_ixL, k_ixT, k_ixC, k_fldD, ok_nox, ok_ok, ok_bind, List.set_cons_zero, List.set_cons_succ, startS, startN, List.map_cons, List.map_nil, List.cons_append, List.nil_append, List.append_nil, List.length_cons, List.length_nil, List.replicate, Nat.reduceSub, Nat.reduceAdd, Nat.reduceLeDiff, Nat.zero_add, true_and, and_true, false_implies, true_implies, implies_true, forall_const, reduceCtorEq, Bool.not_true, Bool.not_false, Bool.not_eq_true', wipeS, ok_eq (p_lpair _ _ _ _), k_isnt])
        exact fun _ => ⟨by omega, rfl⟩
      · unfold rowP
        rw [List.map_map]
        rfl
    refine key.mono ?_
    rintro d rfl
    refine ⟨_, rfl, ?_, (some (Sl.mk false (.int i))), ?_⟩
    · have h1 := flat_le (q := q) (p := p) hq1 (by omega) i
      have h2 := row_le (q := q) (p := p) hq1 (by omega) i
      rw [List.length_map, List.length_map]; omega
    · rw [List.range_succ, List.flatMap_append, List.map_append]
      simp
  · rintro S ⟨x8, rfl⟩
    rw [rngL_len, Nat.zero_add]
    exact ⟨rfl, x8, rfl⟩
end Pf
set_option Elab.async false
set_option linter.all false
set_option maxRecDepth 100000
namespace Pf
open M PySem L2
def Good (q p : Int) (o : Option Pr) : Prop := ∀ r, o = some r → r ∈ prs q p
theorem Good.step {q p : Int} (N : Fn' q p) {o : Option Pr} (h : Good q p o) {t : Int} (ht : t = 0 ∨ t = 1) : Good q p (step q p o t) := by
  intro r hr
  cases o with
  | none => cases hr
  | some r0 => exact (N.nx r0 (h r0 rfl) t ht).2 r hr
theorem after_due {q p : Int} (N : Fn' q p) {o : Option Pr} (h : Good q p o) {t : Int} (ht : t = 0 ∨ t = 1) : d_Supply_after [sup q p, dueD q p o, .int t] = .ok (dueD q p (step q p o t)) := by
  cases o with
  | none => exact after_nil
  | some r =>
    show d_Supply_after [sup q p, .tup [.int (idxP q p r)], .int t] = _
    rw [after_one, got_due N (h r rfl) ht]
    rfl
theorem is_tuple_one (n : Int) : d__law_is_tuple [.tup [.int n], .tup [.int n]] = .ok (.bl true) := by
  have hs := size_ge
  have u1 : eqD (.int n) (.int n) = .ok (.bl true) := by
    have h1 : dok 60 (.int n) = true := rfl
    unfold eqD
    rw [h1]
    have h3 : deq (.int n) (.int n) = true := by simp [deq]
    rw [h3]; rfl
  have u2 : (e2 eqD (eW 2) (eW 3)) [(some (Sl.mk false (.tup [.int n]))), (some (Sl.mk false (.tup [.int n]))), (some (Sl.mk false (.int n))), (some (Sl.mk false (.int n)))] = (eqD (.int n) (.int n)).nox := rfl
  have u3 : (eAnd (eC (f2 isiD) (aC (eW 2) (aC (eY "int") aN))) (eAnd (eNot (eC (f2 isiD) (aC (eW 2) (aC (eY "bool") aN)))) (e2 eqD (eW 2) (eW 3)))) [(some (Sl.mk false (.tup [.int n]))), (some (Sl.mk false (.tup [.int n]))), (some (Sl.mk false (.int n))), (some (Sl.mk false (.int n)))] = (e2 eqD (eW 2) (eW 3)) [(some (Sl.mk false (.tup [.int n]))), (some (Sl.mk false (.tup [.int n]))), (some (Sl.mk false (.int n))), (some (Sl.mk false (.int n)))] := rfl
  have u4 : m__law_is_tuple [(some (Sl.mk false (.tup [.int n]))), (some (Sl.mk false (.tup [.int n]))), none, none] = (sRet (eC (f1 allD) (aC (lcE (fun S => (aC (eV 0) (aC (eV 1) aN)) S >>= zipF) (gT 2 (gsC (gN 2) (gsC (gN 3) gsN))) tY (eAnd (eC (f2 isiD) (aC (eW 2) (aC (eY "int") aN))) (eAnd (eNot (eC (f2 isiD) (aC (eW 2) (aC (eY "bool") aN)))) (e2 eqD (eW 2) (eW 3)))) [2, 3]) aN))) [(some (Sl.mk false (.tup [.int n]))), (some (Sl.mk false (.tup [.int n]))), none, none] := rfl
  have u5 : lcE (fun S => (aC (eV 0) (aC (eV 1) aN)) S >>= zipF) (gT 2 (gsC (gN 2) (gsC (gN 3) gsN))) tY (eAnd (eC (f2 isiD) (aC (eW 2) (aC (eY "int") aN))) (eAnd (eNot (eC (f2 isiD) (aC (eW 2) (aC (eY "bool") aN)))) (e2 eqD (eW 2) (eW 3)))) [2, 3] [(some (Sl.mk false (.tup [.int n]))), (some (Sl.mk false (.tup [.int n]))), none, none] = .ok (.lst [.bl true]) := by
    show (((eAnd (eC (f2 isiD) (aC (eW 2) (aC (eY "int") aN))) (eAnd (eNot (eC (f2 isiD) (aC (eW 2) (aC (eY "bool") aN)))) (e2 eqD (eW 2) (eW 3)))) [(some (Sl.mk false (.tup [.int n]))), (some (Sl.mk false (.tup [.int n]))), (some (Sl.mk false (.int n))), (some (Sl.mk false (.int n)))]).nox >>= fun y => (R.ok [] : R (List D)) >>= fun ys => R.ok (y :: ys)) >>= (fun ys => R.ok (D.lst ys)) = _
    rw [u3, u2, u1]; rfl
  show (endF false (m__law_is_tuple [(some (Sl.mk false (.tup [.int n]))), (some (Sl.mk false (.tup [.int n]))), none, none])).nox = _
  rw [u4]
  have u6 : (sRet (eC (f1 allD) (aC (lcE (fun S => (aC (eV 0) (aC (eV 1) aN)) S >>= zipF) (gT 2 (gsC (gN 2) (gsC (gN 3) gsN))) tY (eAnd (eC (f2 isiD) (aC (eW 2) (aC (eY "int") aN))) (eAnd (eNot (eC (f2 isiD) (aC (eW 2) (aC (eY "bool") aN)))) (e2 eqD (eW 2) (eW 3)))) [2, 3]) aN))) [(some (Sl.mk false (.tup [.int n]))), (some (Sl.mk false (.tup [.int n]))), none, none] = (((lcE (fun S => (aC (eV 0) (aC (eV 1) aN)) S >>= zipF) (gT 2 (gsC (gN 2) (gsC (gN 3) gsN))) tY (eAnd (eC (f2 isiD) (aC (eW 2) (aC (eY "int") aN))) (eAnd (eNot (eC (f2 isiD) (aC (eW 2) (aC (eY "bool") aN)))) (e2 eqD (eW 2) (eW 3)))) [2, 3] [(some (Sl.mk false (.tup [.int n]))), (some (Sl.mk false (.tup [.int n]))), none, none] >>= fun x => R.ok [x]) >>= fun xs => (f1 allD xs).nox) >>= fun d => R.ok (Fl.rt d, [(some (Sl.mk false (.tup [.int n]))), (some (Sl.mk false (.tup [.int n]))), none, none])) := rfl
  rw [u6, u5]; rfl
theorem is_tuple_nil : d__law_is_tuple [.tup [], .tup []] = .ok (.bl true) := rfl
theorem is_tuple_due {q p : Int} (o : Option Pr) : d__law_is_tuple [dueD q p o, dueD q p o] = .ok (.bl true) := by
  cases o with
  | none => exact is_tuple_nil
  | some r => exact is_tuple_one _
theorem neB (b : Bool) : neD (.bl b) (.bl b) = .ok (.bl false) := by cases b <;> rfl
theorem runW_snoc {q p : Int} (o : Option Pr) (ts : List Int) (t : Int) : runW q p o (ts ++ [t]) = step q p (runW q p o ts) t := by
  unfold runW; rw [List.foldl_append]; rfl
end Pf
set_option Elab.async false
set_option linter.all false
set_option maxRecDepth 100000
namespace Pf
open M PySem L2
/-- in the loop -/
def stA (ns l : List Int) (q p : Int) (x8 : Option Sl) (o : Option Pr) (d : D) (ts : List Int) (a b c : Option Sl) : M.Env := [(some (Sl.mk false (.scr ns))), (some (Sl.mk false (.lst (l.map .int)))), (some (Sl.mk false (.int p))), (some (Sl.mk false (.int q))), (some (Sl.mk false (sup q p))), (some (Sl.mk false (.int (szI q p)))), (some (Sl.mk false (.lst (stL q p)))), (some (Sl.mk true (lstP q p))), x8, (some (Sl.mk false (oprD o))), (some (Sl.mk false (d))), (some (Sl.mk false (.tup (ts.map D.int)))), a, b, c, none, none, none, none, none]
theorem k_addT {a b : List D} {Q : D → Prop} : Ok (addD (.tup a) (.tup b)) Q ↔ a.length + b.length ≤ sizeLine ∧ Q (.tup (a ++ b)) := by show Ok (if _ then _ else _) Q ↔ _; rw [ok_if, ok_ok]
def bodyL : FS := (sSeq (sSet 13 (e2 modD (eC (f1 intD) (aC (eW 12) aN)) (eI (2))))
    (sSeq (sIf (tB' (e2 eqD (e2 modD (eC (f1 intD) (aC (e2 ixA (eW 1) (eI (2))) aN)) (eI (2))) (eI (1)))) (sSet 13 (eC (f2 min2D) (aC (eI (1)) (aC (e2 modD (eC (f1 intD) (aC (eW 12) aN)) (eI (6))) aN)))) sNil)
    (sSeq (sSet 11 (e2 addD (eW 11) (eT (aC (eV 13) aN))))
    (sSeq (sIf (tB' (e2 isntD (eW 9) eN)) (sSet 9 (eC d__law_pair (aC (e2 addD (e2 ixA (eW 9) (eI (0))) (eI (1))) (aC (eC (f2 min2D) (aC (e2 addD (e2 ixA (eW 9) (eI (1))) (eW 13)) (aC (eW 3) aN))) (aC (eV 2) (aC (eV 3) aN)))))) sNil)
    (sSeq (sSet 14 (eT aN))
    (sSeq (sIf (tB' (e2 isntD (eW 9) eN)) (sSet 14 (eT (aC (eIdx (eW 7) (eW 9)) aN))) sNil)
    (sSeq (sSet 10 (eM 14 d_Supply_after (eV 4) (aC (eV 10) (aC (eV 13) aN))))
    (sIf (tO (tNo (tT' (eC d__law_is_tuple (aC (eV 10) (aC (eV 14) aN))))) (tB' (e2 neD (eHas 14 d_Supply___contains__ false (eV 11) (eV 4)) (e2 isntD (eW 9) eN)))) (sRet (eB false)) sNil))))))))
theorem body_ok {ns l : List Int} {q p : Int} (hl : l.length = 8) (hm : ∀ x ∈ l, 0 ≤ x ∧ x < 720720) (N : Fn' q p) {ts : List Int} (ht : ∀ t ∈ ts, t = 0 ∨ t = 1) (hts : ts.length ≤ 100) (hg : Good q p (runW q p (some (0, 0)) ts)) {x : Int} (hx : 0 ≤ x) {x8 b c : Option Sl} :
    Ok (bodyL (stA ns l q p x8 (runW q p (some (0, 0)) ts) (dueD q p (runW q p (some (0, 0)) ts)) ts (some (Sl.mk false (.int x))) b c)) fun z => z.1 = .nx ∧ ∃ t b' c', (t = 0 ∨ t = 1) ∧ z.2 = stA ns l q p x8 (runW q p (some (0, 0)) (ts ++ [t])) (dueD q p (runW q p (some (0, 0)) (ts ++ [t]))) (ts ++ [t]) (some (Sl.mk false (.int x))) b' c' := by
  have hs := size_ge
  generalize ho : runW q p (some (0, 0)) ts = o at hg
  unfold bodyL
  refine seq_cut (fun S => ∃ t, (t = 0 ∨ t = 1) ∧ S = stA ns l q p x8 o (dueD q p o) ts (some (Sl.mk false (.int x))) (some (Sl.mk false (.int t))) c) ?_ ?_
  · unfold stA
    (try simp only [↓k_guard, k_no, k_I, k_S, k_B, k_N, k_G, k_Y, k_V, k_W, k_O, g0_z, g0_s, gA_z, gA_s, g1_z, g1_s, k_1, k_2, k_n, k_c, k_T, k_L, k_C, k_f1, k_f2, k_App, k_M, k_P, k_3, k_tB, k_tT, k_toB, k_tNo, k_tA, k_tO, k_tY, k_And, k_Or, k_Not, k_eIf, k_nil, k_seq, k_set, k_own, k_drop, k_ret, k_retN, k_retO, k_if, k_fz, fz_z, fz_s, k_gN, k_gsN, k_gsC, k_gT, k_asg, k_for, k_fnil, k_fcons, k_app, oL_z, oL_s, k_par, k_run, k_runN, k_fld, oO_z, k_add, k_addL, k_sub, k_mul, k_div, k_mod, k_pow, k_neg, k_lt, k_le, k_gt, k_ge, k_eqI, k_neI, k_int, k_intB, k_abs, k_lenL, k_lenT, k_lenC, k_tru, k_tupL, k_tupT, k_items_l, k_items_t, k_rng1, k_ixL, k_ixT, k_ixC, k_fldD, ok_nox, ok_ok, ok_bind, List.set_cons_zero, List.set_cons_succ, startS, startN, List.map_cons, List.map_nil, List.cons_append, List.nil_append, List.append_nil, List.length_cons, List.length_nil, List.replicate, Nat.reduceSub, Nat.reduceAdd, Nat.reduceLeDiff, Nat.zero_add, true_and, and_true, false_implies, true_implies, implies_true, forall_const, reduceCtorEq, Bool.not_true, Bool.not_false, Bool.not_eq_true'])
    have := mod_b x (m := 2) (by omega)
    exact ⟨by omega, _, by omega, rfl⟩
  rintro S ⟨t0, _, rfl⟩
  refine seq_cut (fun S => ∃ t, (t = 0 ∨ t = 1) ∧ S = stA ns l q p x8 o (dueD q p o) ts (some (Sl.mk false (.int x))) (some (Sl.mk false (.int t))) c) ?_ ?_
  · unfold stA
    rw [k_if, k_tB, k_2, k_2, k_C, k_c, k_2]
    refine ⟨_, rfl, _, rfl, ?_⟩
    dsimp only
    rw [k_ixAL]
    refine drawnI hl hm (by omega) (by omega) fun y hy => ?_
    (try simp only [↓k_guard, k_no, k_I, k_S, k_B, k_N, k_G, k_Y, k_V, k_W, k_O, g0_z, g0_s, gA_z, gA_s, g1_z, g1_s, k_1, k_2, k_n, k_c, k_T, k_L, k_C, k_f1, k_f2, k_App, k_M, k_P, k_3, k_tB, k_tT, k_toB, k_tNo, k_tA, k_tO, k_tY, k_And, k_Or, k_Not, k_eIf, k_nil, k_seq, k_set, k_own, k_drop, k_ret, k_retN, k_retO, k_if, k_fz, fz_z, fz_s, k_gN, k_gsN, k_gsC, k_gT, k_asg, k_for, k_fnil, k_fcons, k_app, oL_z, oL_s, k_par, k_run, k_runN, k_fld, oO_z, k_add, k_addL, k_sub, k_mul, k_div, k_mod, k_pow, k_neg, k_lt, k_le, k_gt, k_ge, k_eqI, k_neI, k_int, k_intB, k_abs, k_lenL, k_lenT, k_lenC, k_tru, k_tupL, k_tupT, k_items_l, k_items_t, k_rng1, k_ixL, k_ixT, k_ixC, k_fldD, ok_nox, ok_ok, ok_bind, List.set_cons_zero, List.set_cons_succ, startS, startN, List.map_cons, List.map_nil, List.cons_append, List.nil_append, List.append_nil, List.length_cons, List.length_nil, List.replicate, Nat.reduceSub, Nat.reduceAdd, Nat.reduceLeDiff, Nat.zero_add, true_and, and_true, false_implies, true_implies, implies_true, forall_const, reduceCtorEq, Bool.not_true, Bool.not_false, Bool.not_eq_true', k_min2])
    have := mod_b x (m := 6) (by omega)
    refine ⟨by omega, fun _ => ⟨by omega, _, ?_, rfl⟩, fun _ => ⟨t0, by assumption, rfl⟩⟩
    split <;> omega
  rintro S ⟨t, htt, rfl⟩
  refine seq_cut (fun S => S = stA ns l q p x8 o (dueD q p o) (ts ++ [t]) (some (Sl.mk false (.int x))) (some (Sl.mk false (.int t))) c) ?_ ?_
  · unfold stA
    (try simp only [↓k_guard, k_no, k_I, k_S, k_B, k_N, k_G, k_Y, k_V, k_W, k_O, g0_z, g0_s, gA_z, gA_s, g1_z, g1_s, k_1, k_2, k_n, k_c, k_T, k_L, k_C, k_f1, k_f2, k_App, k_M, k_P, k_3, k_tB, k_tT, k_toB, k_tNo, k_tA, k_tO, k_tY, k_And, k_Or, k_Not, k_eIf, k_nil, k_seq, k_set, k_own, k_drop, k_ret, k_retN, k_retO, k_if, k_fz, fz_z, fz_s, k_gN, k_gsN, k_gsC, k_gT, k_asg, k_for, k_fnil, k_fcons, k_app, oL_z, oL_s, k_par, k_run, k_runN, k_fld, oO_z, k_add, k_addL, k_sub, k_mul, k_div, k_mod, k_pow, k_neg, k_lt, k_le, k_gt, k_ge, k_eqI, k_neI, k_int, k_intB, k_abs, k_lenL, k_lenT, k_lenC, k_tru, k_tupL, k_tupT, k_items_l, k_items_t, k_rng1, k_ixL, k_ixT, k_ixC, k_fldD, ok_nox, ok_ok, ok_bind, List.set_cons_zero, List.set_cons_succ, startS, startN, List.map_cons, List.map_nil, List.cons_append, List.nil_append, List.append_nil, List.length_cons, List.length_nil, List.replicate, Nat.reduceSub, Nat.reduceAdd, Nat.reduceLeDiff, Nat.zero_add, true_and, and_true, false_implies, true_implies, implies_true, forall_const, reduceCtorEq, Bool.not_true, Bool.not_false, Bool.not_eq_true', k_addT])
    refine ⟨by omega, ?_⟩
    simp [k_addT]
    omega
  rintro S rfl
  refine seq_cut (fun S => S = stA ns l q p x8 (step q p o t) (dueD q p o) (ts ++ [t]) (some (Sl.mk false (.int x))) (some (Sl.mk false (.int t))) c) ?_ ?_
  · cases o with
    | none => exact ⟨_, rfl, rfl, rfl⟩
    | some r =>
      have e : (sIf (tB' (e2 isntD (eW 9) eN)) (sSet 9 (eC d__law_pair (aC (e2 addD (e2 ixA (eW 9) (eI (0))) (eI (1))) (aC (eC (f2 min2D) (aC (e2 addD (e2 ixA (eW 9) (eI (1))) (eW 13)) (aC (eW 3) aN))) (aC (eV 2) (aC (eV 3) aN)))))) sNil) (stA ns l q p x8 (some r) (dueD q p (some r)) (ts ++ [t]) (some (Sl.mk false (.int x))) (some (Sl.mk false (.int t))) c)
          = ((d__law_pair [.int (r.1 + 1), .int (mn (r.2 + t) q), .int p, .int q]).nox >>= fun d => R.ok (Fl.nx, (stA ns l q p x8 (some r) (dueD q p (some r)) (ts ++ [t]) (some (Sl.mk false (.int x))) (some (Sl.mk false (.int t))) c).set 9 (some (Sl.mk false (d))))) := rfl
      rw [e, p_lpair]
      exact ⟨_, rfl, rfl, rfl⟩
  rintro S rfl
  have hg' := hg.step N htt
  have hrun : runW q p (some (0, 0)) (ts ++ [t]) = step q p o t := by rw [runW_snoc, ho]
  have haft := after_due N hg htt
  have ht' : ∀ z ∈ ts ++ [t], z = 0 ∨ z = 1 := fun z hz => by
    rcases List.mem_append.mp hz with h | h
    · exact ht z h
    · rw [List.mem_singleton] at h; rw [h]; exact htt
  have hcon := contains_ok N (ts ++ [t]) ht'
  rw [hrun] at hcon
  refine Ok.mono (P := fun z => z.1 = .nx ∧ ∃ b' c', z.2 = stA ns l q p x8 (step q p o t) (dueD q p (step q p o t)) (ts ++ [t]) (some (Sl.mk false (.int x))) b' c') ?_ fun z ⟨h1, b', c', h2⟩ => ⟨h1, t, b', c', htt, by rw [hrun]; exact h2⟩
  generalize ho' : step q p o t = o' at *
  refine seq_cut (fun S => S = stA ns l q p x8 o' (dueD q p o) (ts ++ [t]) (some (Sl.mk false (.int x))) (some (Sl.mk false (.int t))) (some (Sl.mk false (.tup [])))) ⟨_, rfl, rfl, rfl⟩ ?_
  rintro S rfl
  refine seq_cut (fun S => S = stA ns l q p x8 o' (dueD q p o) (ts ++ [t]) (some (Sl.mk false (.int x))) (some (Sl.mk false (.int t))) (some (Sl.mk false (dueD q p o')))) ?_ ?_
  · cases o' with
    | none => exact ⟨_, rfl, rfl, rfl⟩
    | some r =>
      have e : (sIf (tB' (e2 isntD (eW 9) eN)) (sSet 14 (eT (aC (eIdx (eW 7) (eW 9)) aN))) sNil) (stA ns l q p x8 (some r) (dueD q p o) (ts ++ [t]) (some (Sl.mk false (.int x))) (some (Sl.mk false (.int t))) (some (Sl.mk false (.tup []))))
          = ((((idxD (lstP q p) (prD r)).nox >>= fun x => R.ok [x]) >>= mkT) >>= fun d => R.ok (Fl.nx, (stA ns l q p x8 (some r) (dueD q p o) (ts ++ [t]) (some (Sl.mk false (.int x))) (some (Sl.mk false (.int t))) (some (Sl.mk false (.tup [])))).set 14 (some (Sl.mk false (d))))) := rfl
      rw [e, N.idx r (hg' r rfl)]
      exact ⟨_, rfl, rfl, rfl⟩
  rintro S rfl
  refine seq_cut (fun S => S = stA ns l q p x8 o' (dueD q p o') (ts ++ [t]) (some (Sl.mk false (.int x))) (some (Sl.mk false (.int t))) (some (Sl.mk false (dueD q p o')))) ?_ ?_
  · have e : (sSet 10 (eM 14 d_Supply_after (eV 4) (aC (eV 10) (aC (eV 13) aN)))) (stA ns l q p x8 o' (dueD q p o) (ts ++ [t]) (some (Sl.mk false (.int x))) (some (Sl.mk false (.int t))) (some (Sl.mk false (dueD q p o'))))
        = ((d_Supply_after [sup q p, dueD q p o, .int t]).nox >>= fun d => R.ok (Fl.nx, (stA ns l q p x8 o' (dueD q p o) (ts ++ [t]) (some (Sl.mk false (.int x))) (some (Sl.mk false (.int t))) (some (Sl.mk false (dueD q p o')))).set 10 (some (Sl.mk false (d))))) := rfl
    rw [e, haft]
    exact ⟨_, rfl, rfl, rfl⟩
  rintro S rfl
  have e1 : (tNo (tT' (eC d__law_is_tuple (aC (eV 10) (aC (eV 14) aN))))) (stA ns l q p x8 o' (dueD q p o') (ts ++ [t]) (some (Sl.mk false (.int x))) (some (Sl.mk false (.int t))) (some (Sl.mk false (dueD q p o')))) = (((d__law_is_tuple [dueD q p o', dueD q p o']).nox >>= truD) >>= fun b => R.ok (!b)) := rfl
  have u2 : (tB' (e2 neD (eHas 14 d_Supply___contains__ false (eV 11) (eV 4)) (e2 isntD (eW 9) eN))) (stA ns l q p x8 o' (dueD q p o') (ts ++ [t]) (some (Sl.mk false (.int x))) (some (Sl.mk false (.int t))) (some (Sl.mk false (dueD q p o')))) = (((d_Supply___contains__ [sup q p, .tup ((ts ++ [t]).map D.int)]).nox >>= hasB false) >>= fun x => (isntD (oprD o') .non).nox >>= fun y => (neD x y).nox) >>= toB := rfl
  have u3 : isntD (oprD o') .non = .ok (.bl o'.isSome) := by cases o' <;> rfl
  rw [k_if, k_tO, e1, is_tuple_due, u2, hcon, u3]
  refine ⟨_, rfl, fun h => (nomatch h), fun _ => ?_⟩
  have u4 : (((R.ok (D.bl o'.isSome)).nox >>= hasB false) >>= fun x => (R.ok (D.bl o'.isSome)).nox >>= fun y => (neD x y).nox) = .ok (.bl false) := by cases o' <;> rfl
  rw [u4]
  exact ⟨_, rfl, fun h => (nomatch h), fun _ => ⟨_, rfl, rfl, _, _, rfl⟩⟩
end Pf
set_option Elab.async false
set_option linter.all false
set_option maxRecDepth 100000
namespace Pf
open M PySem L2
def mEnd : FS := (sSeq (sSet 15 (eL (aC (eT (aC (e2 subD (e1 negD (eI (1))) (e2 ixA (eW 1) (eI (3)))) (aC (eV 2) aN))) (aC (eT (aC (e2 addD (e2 addD (eW 2) (eI (1))) (e2 ixA (eW 1) (eI (4)))) (aC (eV 2) aN))) (aC (eT (aC (eI (0)) (aC (e1 negD (e2 ixA (eW 1) (eI (5)))) aN))) (aC (eT (aC (eI (0)) (aC (e2 addD (eI (9)) (e2 ixA (eW 1) (eI (6)))) aN))) (aC (eT (aC (e2 addD (eI (9)) (e2 ixA (eW 1) (eI (6)))) (aC (e2 addD (eI (9)) (e2 ixA (eW 1) (eI (6)))) aN))) aN)))))))
    (sSeq (sSet 16 (eL (aC (e1 (fldD 14 0) (eCMX 14 d_Supply_share (eG (.cls 14)) (aC (eI (0)) (aC (eI (1)) aN)))) (aC (e1 (fldD 14 0) (eCMX 14 d_Supply_share (eG (.cls 14)) (aC (eI (1)) (aC (eI (1)) aN)))) (aC (e1 (fldD 14 0) (eCMX 14 d_Supply_share (eG (.cls 14)) (aC (eI (8)) (aC (eI (8)) aN)))) (aC (e1 (fldD 14 0) (eCMX 14 d_Supply_share (eG (.cls 14)) (aC (eI (0)) (aC (eI (8)) aN)))) aN))))))
    (sRet (eAnd (eC (f1 allD) (aC (lcE (fun S => (eV 15) S >>= itemsD) (gT 2 (gsC (gN 18) (gsC (gN 19) gsN))) tY (eC d__law_refused (aC (eV 18) (aC (eV 19) aN))) [18, 19]) aN)) (e2 eqD (eW 16) (eL (aC (eI (1)) (aC (eI (1)) (aC (eI (8)) (aC (eI (8)) aN))))))))))
theorem sz_vals : szI 0 1 = 1 ∧ szI 1 1 = 1 ∧ szI 8 8 = 8 ∧ szI 0 8 = 8 := by decide +kernel
theorem fld_share {q p : Int} (h1 : 1 ≤ p) (h2 : p ≤ 8) (h3 : 0 ≤ q) (h4 : q ≤ p) (S : M.Env) : e1 (fldD 14 0) (eCMX 14 d_Supply_share (eG (.cls 14)) (aC (eI q) (aC (eI p) aN))) S = .ok (.int (szI q p)) := by
  have e : e1 (fldD 14 0) (eCMX 14 d_Supply_share (eG (.cls 14)) (aC (eI q) (aC (eI p) aN))) S = (d_Supply_share [.cls 14, .int q, .int p] >>= fun x => (fldD 14 0 x).nox) := rfl
  rw [e, (fs_at h1 h2 h3 h4).share]; rfl
theorem lixI {l : List Int} {i : Int} (hl : l.length = 8) (hm : ∀ x ∈ l, 0 ≤ x ∧ x < 720720) (h0 : 0 ≤ i) (h1 : i < 8) (S : M.Env) (hS : S[1]? = some (some (Sl.mk false (.lst (l.map D.int))))) : ∃ x : Int, 0 ≤ x ∧ (e2 ixA (eW 1) (eI i)) S = .ok (.int x) := by
  obtain ⟨z, hz, x, rfl, h2, _⟩ := drawn.ix (n := 8) ⟨l, rfl, hl, hm⟩ h0 (by omega : i < ((8 : Nat) : Int))
  refine ⟨x, h2, ?_⟩
  have e : eW 1 S = .ok (.lst (l.map D.int)) := by unfold eW; rw [hS]
  unfold e2
  rw [e, R.ok_bind]
  show (ixA (.lst (l.map D.int)) (.int i)).nox = _
  have e2 : ixA (.lst (l.map D.int)) (.int i) = ixD (.lst (l.map D.int)) (.int i) := rfl
  rw [e2, hz]; rfl
theorem end_ok {ns l : List Int} {q p : Int} (hl : l.length = 8) (hm : ∀ x ∈ l, 0 ≤ x ∧ x < 720720) (hp1 : 1 ≤ p) (hp2 : p ≤ 8) {x8 : Option Sl} {o : Option Pr} {d : D} {ts : List Int} {a b c : Option Sl} :
    Ok (mEnd (stA ns l q p x8 o d ts a b c)) fun z => z.1 = .rt (.bl true) := by
  have hs := size_ge
  unfold mEnd
  obtain ⟨l3, g3, i3⟩ := lixI hl hm (i := 3) (by omega) (by omega) (stA ns l q p x8 o d ts a b c) rfl
  obtain ⟨l4, g4, i4⟩ := lixI hl hm (i := 4) (by omega) (by omega) (stA ns l q p x8 o d ts a b c) rfl
  obtain ⟨l5, g5, i5⟩ := lixI hl hm (i := 5) (by omega) (by omega) (stA ns l q p x8 o d ts a b c) rfl
  obtain ⟨l6, g6, i6⟩ := lixI hl hm (i := 6) (by omega) (by omega) (stA ns l q p x8 o d ts a b c) rfl
  have w2 : eW 2 (stA ns l q p x8 o d ts a b c) = .ok (.int p) := rfl
  have v2 : eV 2 (stA ns l q p x8 o d ts a b c) = .ok (.int p) := rfl
  refine seq_cut (fun S => S = (stA ns l q p x8 o d ts a b c).set 15 (some (Sl.mk false (.lst ([(-1 - l3, p), (p + 1 + l4, p), (0, -l5), (0, 9 + l6), (9 + l6, 9 + l6)].map prD))))) ?_ ?_
  · rw [k_set, k_L]
    simp only [k_c, k_n, k_T, k_1, k_2 (o := subD), k_2 (o := addD), k_I, k_neg, ok_eq i3, ok_eq i4, ok_eq i5, ok_eq i6, k_sub, k_add, ok_eq w2, ok_eq v2]
    refine ⟨by simp; omega, by simp; omega, by simp; omega, by simp; omega, by simp; omega, by simp; omega, trivial, rfl⟩
  rintro S rfl
  refine seq_cut (fun S => S = ((stA ns l q p x8 o d ts a b c).set 15 (some (Sl.mk false (.lst ([(-1 - l3, p), (p + 1 + l4, p), (0, -l5), (0, 9 + l6), (9 + l6, 9 + l6)].map prD))))).set 16 (some (Sl.mk false (.lst [.int 1, .int 1, .int 8, .int 8])))) ?_ ?_
  · rw [k_set, k_L]
    obtain ⟨z1, z2, z3, z4⟩ := sz_vals
    simp only [k_c, k_n, ok_eq (fld_share (q := 0) (p := 1) (by omega) (by omega) (by omega) (by omega) _), ok_eq (fld_share (q := 1) (p := 1) (by omega) (by omega) (by omega) (by omega) _), ok_eq (fld_share (q := 8) (p := 8) (by omega) (by omega) (by omega) (by omega) _), ok_eq (fld_share (q := 0) (p := 8) (by omega) (by omega) (by omega) (by omega) _), z1, z2, z3, z4]
    exact ⟨by simp; omega, trivial, trivial⟩
  rintro S rfl
  have hall : Ok (lcE (fun S => (eV 15) S >>= itemsD) (gT 2 (gsC (gN 18) (gsC (gN 19) gsN))) tY (eC d__law_refused (aC (eV 18) (aC (eV 19) aN))) [18, 19] (((stA ns l q p x8 o d ts a b c).set 15 (some (Sl.mk false (.lst ([(-1 - l3, p), (p + 1 + l4, p), (0, -l5), (0, 9 + l6), (9 + l6, 9 + l6)].map prD))))).set 16 (some (Sl.mk false (.lst [.int 1, .int 1, .int 8, .int 8]))))) fun y => y = .lst ([(-1 - l3, p), (p + 1 + l4, p), (0, -l5), (0, 9 + l6), (9 + l6, 9 + l6)].map fun _ : Pr => D.bl ((fun _ : Pr => true) (0, 0))) := by
    refine k_lcM prD (fun _ => D.bl true) [(-1 - l3, p), (p + 1 + l4, p), (0, -l5), (0, 9 + l6), (9 + l6, 9 + l6)] ⟨_, rfl, rfl⟩ (by simp; omega) ?_ rfl
    intro r hr
    refine ⟨_, rfl, ?_⟩
    have bad : ¬ (1 ≤ r.2 ∧ r.2 ≤ 8) ∨ ¬ (0 ≤ r.1 ∧ r.1 ≤ r.2) := by
      simp only [List.mem_cons, List.not_mem_nil, or_false] at hr
      rcases hr with rfl | rfl | rfl | rfl | rfl <;> dsimp only <;> omega
    show Ok ((d__law_refused [.int r.1, .int r.2]).nox) _
    rw [refused bad]
    exact ⟨_, rfl, rfl⟩
  rw [k_ret, k_And, k_C, k_c]
  refine hall.mono fun y hy => ?_
  subst hy
  exact ⟨_, rfl, _, rfl, _, rfl, fun _ => ⟨_, rfl, rfl⟩, fun h => (nomatch h)⟩
end Pf
set_option Elab.async false
set_option linter.all false
set_option maxRecDepth 100000
namespace Pf
open M PySem L2
theorem pure_law : ∀ ns : List Int, ns.length ≤ 63 → (∀ z ∈ ns, Builtin.Int.intBits z ≤ 1048576) → d_law [.scr ns] = .ok (.bl true) := by
  intro ns _ hb
  refine Ok.eq ?_
  unfold d_law m_law
  rw [ok_nox, k_run]
  refine law_a ns hb fun l q p hl hm hp1 hp2 hq1 hq2 => ?_
  refine law_b hp1 hp2 hq1 hq2 fun x8 => ?_
  have N := fn_at hp1 hp2 hq1 hq2
  refine seq_cut (fun S => S = stA ns l q p x8 (some (0, 0)) (dueD q p (some (0, 0))) [] none none none) ?_ ?_
  · have e : dueD q p (some (0, 0)) = .tup [.int 0] := by show D.tup [.int (idxP q p (0, 0))] = _; rw [N.zi]
    rw [e]
    exact ⟨_, rfl, rfl, rfl⟩
  rintro S rfl
  refine seq_cut (fun S => ∃ (o : Option Pr) (d : D) (ts : List Int) (a b c : Option Sl), S = stA ns l q p x8 o d ts a b c) ?_ ?_
  · rw [k_for]
    have e : ((eC d__law_draws (aC (eV 0) (aC (eI (1)) (aC (eI (20)) aN)))) (stA ns l q p x8 (some (0, 0)) (dueD q p (some (0, 0))) [] none none none) >>= itemsD) = ((d__law_draws [.scr ns, .int 1, .int 20]).nox >>= itemsD) := rfl
    rw [e]
    refine ok_bind.mpr (ok_nox.mpr ((p_draws ns hb 1 20 (by omega) (by omega) (by omega)).mono ?_))
    rintro d ⟨dl, rfl, h1, h2⟩
    refine ⟨_, rfl, ?_⟩
    refine for_inv (fun i S => ∃ (ts : List Int) (a b c : Option Sl), (ts.length = i ∧ i ≤ 20 ∧ (∀ t ∈ ts, t = 0 ∨ t = 1) ∧ Good q p (runW q p (some (0, 0)) ts)) ∧ S = stA ns l q p x8 (runW q p (some (0, 0)) ts) (dueD q p (runW q p (some (0, 0)) ts)) ts a b c) _ 0 _ ⟨[], none, none, none, ⟨rfl, by omega, by simp, fun r hr => by cases hr; exact N.zero⟩, rfl⟩ ?_ ?_
    · rintro i d S hd ⟨ts, a, b, c, ⟨k1, k2, k3, k4⟩, rfl⟩
      have hlt : i < dl.length := by
        have := (List.getElem?_eq_some_iff.mp hd).1
        simpa using this
      rw [List.getElem?_map] at hd
      obtain ⟨x, hx, rfl⟩ := Option.map_eq_some_iff.mp hd
      have hx0 := h2 x (List.mem_of_getElem? hx)
      refine ⟨_, rfl, ?_⟩
      have B := body_ok (ns := ns) (x8 := x8) (b := b) (c := c) hl hm N k3 (by omega) k4 hx0.1
      refine B.mono ?_
      rintro ⟨fl, S'⟩ ⟨rfl, t, b', c', htt, rfl⟩
      refine ⟨ts ++ [t], _, b', c', ⟨by simp [k1], by omega, fun z hz => ?_, ?_⟩, rfl⟩
      · rcases List.mem_append.mp hz with h | h
        · exact k3 z h
        · rw [List.mem_singleton] at h; rw [h]; exact htt
      · rw [runW_snoc]; exact k4.step N htt
    · rintro S ⟨ts, a, b, c, _, rfl⟩
      exact ⟨rfl, _, _, ts, a, b, c, rfl⟩
  rintro S ⟨o, d, ts, a, b, c, rfl⟩
  refine (end_ok hl hm hp1 hp2).mono ?_
  rintro ⟨fl, S'⟩ h
  dsimp only at h
  subst h
  rfl
end Pf
set_option Elab.async false
set_option linter.all false
set_option maxRecDepth 100000
set_option maxHeartbeats 0
namespace Pf
open PySem L2 M
def dd_check_supply : Dx := ⟨.glo "check_supply", ⟨("", none), "check_supply", "check_supply", defArgs st_check_supply, defBody st_check_supply, defScope st_check_supply, [], []⟩⟩
def dd_moves_of : Dx := ⟨.glo "moves_of", ⟨("", none), "moves_of", "moves_of", defArgs st_moves_of, defBody st_moves_of, defScope st_moves_of, [], []⟩⟩
def dd_Supply : Dx := ⟨.met "Supply" "__init__", ⟨("", none), "__init__", "Supply.__init__", defArgs st_Supply, defBody st_Supply, defScope st_Supply, [], [("starts", .adr (kwAt (.met "Supply" "__init__") "starts"))]⟩⟩
def dd_Supply_share : Dx := ⟨.cme "Supply" "share", ⟨("", none), "share", "Supply.share", defArgs st_Supply_share, defBody st_Supply_share, defScope st_Supply_share, [], []⟩⟩
def dd_Supply_after : Dx := ⟨.met "Supply" "after", ⟨("", none), "after", "Supply.after", defArgs st_Supply_after, defBody st_Supply_after, defScope st_Supply_after, [], []⟩⟩
def dd_Supply___contains__ : Dx := ⟨.met "Supply" "__contains__", ⟨("", none), "__contains__", "Supply.__contains__", defArgs st_Supply___contains__, defBody st_Supply___contains__, defScope st_Supply___contains__, [], []⟩⟩
def dd__law_cell : Dx := ⟨.glo "_law_cell", ⟨("", none), "_law_cell", "_law_cell", defArgs st__law_cell, defBody st__law_cell, defScope st__law_cell, [], []⟩⟩
def dd__law_draws : Dx := ⟨.glo "_law_draws", ⟨("", none), "_law_draws", "_law_draws", defArgs st__law_draws, defBody st__law_draws, defScope st__law_draws, [], []⟩⟩
def dd__law_share : Dx := ⟨.glo "_law_share", ⟨("", none), "_law_share", "_law_share", defArgs st__law_share, defBody st__law_share, defScope st__law_share, [], []⟩⟩
def dd__law_pair : Dx := ⟨.glo "_law_pair", ⟨("", none), "_law_pair", "_law_pair", defArgs st__law_pair, defBody st__law_pair, defScope st__law_pair, [], []⟩⟩
def dd__law_refused : Dx := ⟨.glo "_law_refused", ⟨("", none), "_law_refused", "_law_refused", defArgs st__law_refused, defBody st__law_refused, defScope st__law_refused, [], []⟩⟩
def dd__law_is_tuple : Dx := ⟨.glo "_law_is_tuple", ⟨("", none), "_law_is_tuple", "_law_is_tuple", defArgs st__law_is_tuple, defBody st__law_is_tuple, defScope st__law_is_tuple, [], []⟩⟩
def dd_law : Dx := ⟨.glo "law", ⟨("", none), "law", "law", defArgs st_law, defBody st_law, defScope st_law, [], []⟩⟩
def fn : List Dx := [dd_check_supply, dd_moves_of, dd_Supply, dd_Supply_share, dd_Supply_after, dd_Supply___contains__, dd__law_cell, dd__law_draws, dd__law_share, dd__law_pair, dd__law_refused, dd__law_is_tuple, dd_law]
def ftab : List TabI := []
def fx : Fy := ⟨[.glo "check_supply", .glo "moves_of", .glo "_law_cell", .glo "_law_draws", .glo "_law_share", .glo "_law_pair", .glo "_law_refused", .glo "_law_is_tuple", .glo "law", .free "ValueError", .free "abs", .free "all", .free "bool", .free "enumerate", .free "int", .free "isinstance", .free "len", .free "min", .free "range", .free "set", .free "sorted", .free "tuple", .free "zip", .glo "Supply", .cls "Supply", .mkr "Supply", .noat "Supply" "size", .noat "Supply" "steps", .noat "Supply" "starts", .noat "Supply" "moves", .meth "Supply" "after", .meth "Supply" "__contains__", .glo "InvalidSupply", .glo "BreachError", .glo "InvalidTask", .exc "InvalidSupply", .exm "InvalidSupply" "InvalidSupply" true], [("MOST_STATES", gv_MOST_STATES), ("LONGEST_PERIOD", gv_LONGEST_PERIOD)], [], []⟩
def fv : Fv := ⟨fx, ftab, [.ecc "InvalidSupply", .isT "InvalidSupply" "BreachError" true, .isTy "InvalidSupply" "ValueError" true, .isT "InvalidSupply" "InvalidTask" false, .dfl (.met "Supply" "__init__") "starts" (.tup [.int 0]), .cme "Supply" "share"], [], "/claim/cut.py"⟩
def clK (K : PySem.W.Frag) : Nat → Option (Addr × List Str) := fun i => if i = 14 then some (He.ga K "Supply", ["size", "steps", "starts", "moves"]) else if i = 11 then some (He.ga K "InvalidSupply", []) else if i = 10 then some (He.ga K "BreachError", []) else if i = 13 then some (He.ga K "InvalidTask", []) else none
def looseN : List Str := (["_wall", "BreachError", "InvalidSupply", "NothingCommon", "InvalidTask", "MOST_STATES", "LONGEST_PERIOD", "Supply", "check_supply", "moves_of", "joint_steps", "both", "_law_cell", "_law_draws", "_law_share", "_law_pair", "_law_refused", "_law_is_tuple"] : List Str)
abbrev Rw : PySem.W.OpenRow := PySem.W.OpenLaw.row PySem.Challenge.rw_firstbreach_k01_share_states
abbrev hk : PySem.W.Hook := hookV 5 fv fn
def ob (s : PySem.W.SharedT) : AlV := obsVG 5 fv fn (HandSHeadRun.getT s)
theorem ob_eq (s : PySem.W.SharedT) : ob s = hk.obs s.abs := obsVG_eq (HandSHeadRun.getT_eq s)
theorem run (w : World) : HandSHeadRun.RunEq Rw (PySem.W.view Rw.prog [21]) hk ob 4000 looseN w := by
  intro os
  kernel_rfl
theorem facts {P : Program} {w : World} {K : PySem.W.Frag} {h : Heap} {mg : Str → Option Value} {f : Addr} (X : K.In h) (Gn : h.Ns mainGlobals mg) (hfa : mg ("law" : Str) = some (.ref f)) (cz : SaysV fv fn w K) :
    ∃ fd : FuncData, (∀ (s : Shared) (v : Value), BindsTo s fd ⟨[v], []⟩ [("_law_script", v)]) ∧ ∀ base : Heap, K.In base → base.Ns mainGlobals mg → FnOk P w K mg base CX0 6 f fd ["_law_script"] (SpF ⟨K, clK K⟩ false 1 d_law) := by
  have cv := cz
  have cz := cv.z
  have c := cz.y
  have B : Bt mg := ⟨He.free_ok X Gn (c.fact 9 (f := .free "ValueError") rfl), He.free_ok X Gn (c.fact 10 (f := .free "abs") rfl), He.free_ok X Gn (c.fact 11 (f := .free "all") rfl), He.free_ok X Gn (c.fact 12 (f := .free "bool") rfl), He.free_ok X Gn (c.fact 13 (f := .free "enumerate") rfl), He.free_ok X Gn (c.fact 14 (f := .free "int") rfl), He.free_ok X Gn (c.fact 15 (f := .free "isinstance") rfl), He.free_ok X Gn (c.fact 16 (f := .free "len") rfl), He.free_ok X Gn (c.fact 17 (f := .free "min") rfl), He.free_ok X Gn (c.fact 18 (f := .free "range") rfl), He.free_ok X Gn (c.fact 19 (f := .free "set") rfl), He.free_ok X Gn (c.fact 20 (f := .free "sorted") rfl), He.free_ok X Gn (c.fact 21 (f := .free "tuple") rfl), He.free_ok X Gn (c.fact 22 (f := .free "zip") rfl)⟩
  have q_Supply : mg "Supply" = some (.ref (He.ga K "Supply")) := He.glo_ok X Gn (c.fact 23 (f := .glo "Supply") rfl)
  have k_Supply : clK K 14 = some (He.ga K "Supply", (["size", "steps", "starts", "moves"] : List Str)) := rfl
  have cc_Supply : Cls K (He.ga K "Supply") := He.cls_ok (c.fact 24 (f := .cls "Supply") rfl)
  have mk_Supply : Mk K (He.ga K "Supply") (He.ma K (He.ga K "Supply") "__init__") := He.mkr_ok (c.fact 25 (f := .mkr "Supply") rfl)
  have C_Supply : ClsI K ⟨K, clK K⟩ 14 (["size", "steps", "starts", "moves"] : List Str) := ⟨⟨_, k_Supply, cc_Supply, fun z hz => by
    simp only [List.mem_cons, List.not_mem_nil, or_false] at hz
    rcases hz with rfl | rfl | rfl | rfl
    · exact He.noat_ok (c.fact 26 (f := .noat "Supply" "size") rfl)
    · exact He.noat_ok (c.fact 27 (f := .noat "Supply" "steps") rfl)
    · exact He.noat_ok (c.fact 28 (f := .noat "Supply" "starts") rfl)
    · exact He.noat_ok (c.fact 29 (f := .noat "Supply" "moves") rfl)⟩, by decide +kernel, by decide⟩
  have g_Supply : Gc mg ⟨K, clK K⟩ "Supply" (.cls 14) := gcls_ok q_Supply k_Supply
  have q_InvalidSupply : mg "InvalidSupply" = some (.ref (He.ga K "InvalidSupply")) := He.glo_ok X Gn (c.fact 32 (f := .glo "InvalidSupply") rfl)
  have k_InvalidSupply : clK K 11 = some (He.ga K "InvalidSupply", ([] : List Str)) := rfl
  have g_InvalidSupply : Gc mg ⟨K, clK K⟩ "InvalidSupply" (.cls 11) := gcls_ok q_InvalidSupply k_InvalidSupply
  have q_BreachError : mg "BreachError" = some (.ref (He.ga K "BreachError")) := He.glo_ok X Gn (c.fact 33 (f := .glo "BreachError") rfl)
  have k_BreachError : clK K 10 = some (He.ga K "BreachError", ([] : List Str)) := rfl
  have g_BreachError : Gc mg ⟨K, clK K⟩ "BreachError" (.cls 10) := gcls_ok q_BreachError k_BreachError
  have q_InvalidTask : mg "InvalidTask" = some (.ref (He.ga K "InvalidTask")) := He.glo_ok X Gn (c.fact 34 (f := .glo "InvalidTask") rfl)
  have k_InvalidTask : clK K 13 = some (He.ga K "InvalidTask", ([] : List Str)) := rfl
  have g_InvalidTask : Gc mg ⟨K, clK K⟩ "InvalidTask" (.cls 13) := gcls_ok q_InvalidTask k_InvalidTask
  have R_InvalidSupply : RaO K mg ⟨K, clK K⟩ "InvalidSupply" 11 := raO_ok (c.fact 35 (f := .exc "InvalidSupply") rfl) q_InvalidSupply k_InvalidSupply
  have Y_InvalidSupply : TryC K mg ⟨K, clK K⟩ "InvalidSupply" mt_InvalidSupply := tryC_ok q_InvalidSupply fun p hp => by
    simp only [List.mem_cons, List.not_mem_nil, or_false] at hp
    subst hp
    · exact ⟨_, _, k_InvalidSupply, He.exm_ok (c.fact 36 (f := .exm "InvalidSupply" "InvalidSupply" true) rfl)⟩
  have h0 : clK K xix = none := by rfl
  have hXT : ∀ ci t b, xtab ci t = some b → IsT K ⟨K, clK K⟩ ci t b := xtab_ok fun p hp => by
    simp only [List.mem_cons, List.not_mem_nil, or_false] at hp
    rcases hp with rfl | rfl | rfl
    · exact isT_ok (cv.xf 1 (f := .isT "InvalidSupply" "BreachError" true) rfl) (cv.xf 0 (f := .ecc "InvalidSupply") rfl) k_InvalidSupply k_BreachError
    · exact isTy_ok (cv.xf 2 (f := .isTy "InvalidSupply" "ValueError" true) rfl) (cv.xf 0 (f := .ecc "InvalidSupply") rfl) k_InvalidSupply
    · exact isT_ok (cv.xf 3 (f := .isT "InvalidSupply" "InvalidTask" false) rfl) (cv.xf 0 (f := .ecc "InvalidSupply") rfl) k_InvalidSupply k_InvalidTask
  have hd_Supply : ∀ Gd, RDs ⟨K, clK K⟩ Gd [.tup [.int 0]] [.ref (kwAt (.met "Supply" "__init__") "starts" K)] := fun Gd => (.cons (dfl_ok (cv.xf 4 (f := .dfl (.met "Supply" "__init__") "starts" (.tup [.int 0])) rfl) Gd) .nil)
  obtain ⟨cr_Supply_share, cm_Supply_share⟩ := cme_ok (cv.xf 5 (f := .cme "Supply" "share") rfl)
  have g_MOST_STATES : Gc mg ⟨K, clK K⟩ "MOST_STATES" gv_MOST_STATES := gB_ok X Gn (c.gc 0 (f := ("MOST_STATES", gv_MOST_STATES)) rfl)
  have g_LONGEST_PERIOD : Gc mg ⟨K, clK K⟩ "LONGEST_PERIOD" gv_LONGEST_PERIOD := gB_ok X Gn (c.gc 1 (f := ("LONGEST_PERIOD", gv_LONGEST_PERIOD)) rfl)
  obtain ⟨fd_check_supply, F_check_supply⟩ := c.def_ 0 (d := dd_check_supply) rfl
  obtain ⟨fd_moves_of, F_moves_of⟩ := c.def_ 1 (d := dd_moves_of) rfl
  obtain ⟨fd_Supply, F_Supply⟩ := c.def_ 2 (d := dd_Supply) rfl
  obtain ⟨fd_Supply_share, F_Supply_share⟩ := c.def_ 3 (d := dd_Supply_share) rfl
  obtain ⟨fd_Supply_after, F_Supply_after⟩ := c.def_ 4 (d := dd_Supply_after) rfl
  obtain ⟨fd_Supply___contains__, F_Supply___contains__⟩ := c.def_ 5 (d := dd_Supply___contains__) rfl
  obtain ⟨fd__law_cell, F__law_cell⟩ := c.def_ 6 (d := dd__law_cell) rfl
  obtain ⟨fd__law_draws, F__law_draws⟩ := c.def_ 7 (d := dd__law_draws) rfl
  obtain ⟨fd__law_share, F__law_share⟩ := c.def_ 8 (d := dd__law_share) rfl
  obtain ⟨fd__law_pair, F__law_pair⟩ := c.def_ 9 (d := dd__law_pair) rfl
  obtain ⟨fd__law_refused, F__law_refused⟩ := c.def_ 10 (d := dd__law_refused) rfl
  obtain ⟨fd__law_is_tuple, F__law_is_tuple⟩ := c.def_ 11 (d := dd__law_is_tuple) rfl
  obtain ⟨fd_law, F_law⟩ := c.def_ 12 (d := dd_law) rfl
  have e := hfa.symm.trans (He.glo_ok X Gn (c.fact 8 (f := .glo "law") rfl))
  cases e
  have b := FunD.bindsA (ps := ["_law_script"]) F_law fun _ _ _ _ _ _ us hl => match us, hl with | [_], _ => rfl
  refine ⟨fd_law, fun s v => b s [v] rfl, fun base _ _ => ?_⟩
  have h_check_supply : CalleeX P w K mg base ⟨K, clK K⟩ 1 "check_supply" 3 false d_check_supply := ok_check_supply F_check_supply (He.glo_ok X Gn (c.fact 0 (f := .glo "check_supply") rfl)) B g_MOST_STATES R_InvalidSupply
  have h_moves_of : Callee P w K mg base ⟨K, clK K⟩ 1 "moves_of" 1 true d_moves_of := ok_moves_of F_moves_of (He.glo_ok X Gn (c.fact 1 (f := .glo "moves_of") rfl)) B 
  have m_Supply : MakerXD P w K mg base ⟨K, clK K⟩ 2 "Supply" 14 2 [.tup [.int 0]] d_Supply := ok_Supply hd_Supply F_Supply k_Supply mk_Supply q_Supply B C_Supply h_check_supply h_moves_of
  have h_Supply_share : CmethX P w K mg base ⟨K, clK K⟩ 4 14 "share" 3 true d_Supply_share := ok_Supply_share F_Supply_share k_Supply cr_Supply_share cm_Supply_share B g_LONGEST_PERIOD R_InvalidSupply m_Supply
  have h_Supply_after : Method P w K mg base ⟨K, clK K⟩ 1 14 "after" 3 false d_Supply_after := ok_Supply_after F_Supply_after k_Supply cc_Supply (He.meth_ok (c.fact 30 (f := .meth "Supply" "after") rfl)) B C_Supply
  have h_Supply___contains__ : Method P w K mg base ⟨K, clK K⟩ 1 14 "__contains__" 2 false d_Supply___contains__ := ok_Supply___contains__ F_Supply___contains__ k_Supply cc_Supply (He.meth_ok (c.fact 31 (f := .meth "Supply" "__contains__") rfl)) B C_Supply
  have h__law_cell : Callee P w K mg base ⟨K, clK K⟩ 1 "_law_cell" 2 false d__law_cell := ok__law_cell F__law_cell (He.glo_ok X Gn (c.fact 2 (f := .glo "_law_cell") rfl)) B 
  have h__law_draws : Callee P w K mg base ⟨K, clK K⟩ 2 "_law_draws" 3 true d__law_draws := ok__law_draws F__law_draws (He.glo_ok X Gn (c.fact 3 (f := .glo "_law_draws") rfl)) B h__law_cell
  have h__law_share : Callee P w K mg base ⟨K, clK K⟩ 1 "_law_share" 2 false d__law_share := ok__law_share F__law_share (He.glo_ok X Gn (c.fact 4 (f := .glo "_law_share") rfl)) B 
  have h__law_pair : Callee P w K mg base ⟨K, clK K⟩ 1 "_law_pair" 4 false d__law_pair := ok__law_pair F__law_pair (He.glo_ok X Gn (c.fact 5 (f := .glo "_law_pair") rfl)) B 
  have h__law_refused : Callee P w K mg base ⟨K, clK K⟩ 5 "_law_refused" 2 false d__law_refused := ok__law_refused F__law_refused (He.glo_ok X Gn (c.fact 6 (f := .glo "_law_refused") rfl)) B Y_InvalidSupply h0 h_Supply_share g_Supply hXT g_BreachError g_InvalidTask
  have h__law_is_tuple : Callee P w K mg base ⟨K, clK K⟩ 1 "_law_is_tuple" 2 false d__law_is_tuple := ok__law_is_tuple F__law_is_tuple (He.glo_ok X Gn (c.fact 7 (f := .glo "_law_is_tuple") rfl)) B 
  exact ok_law F_law (He.glo_ok X Gn (c.fact 8 (f := .glo "law") rfl)) B h__law_draws h_Supply_share g_Supply h__law_share C_Supply h_Supply___contains__ h__law_pair h_Supply_after h__law_is_tuple h__law_refused
end Pf
set_option Elab.async false
set_option linter.all false
set_option maxRecDepth 100000
set_option maxHeartbeats 0
open PySem PySem.W PySem.Calls PyProof.Rows
theorem PySem.Challenge.cw_firstbreach_k01_share_states_holds : PySem.Challenge.rw_firstbreach_k01_share_states.Holds := by
  w_on; o_law
  refine HandSHeadRun.head_any (r := OpenLaw.row PySem.Challenge.rw_firstbreach_k01_share_states) (q := view (OpenLaw.row PySem.Challenge.rw_firstbreach_k01_share_states).prog [21]) (H := Pf.hk) (ob := Pf.ob) (M := 4000) (loose := Pf.looseN) (d := HandSHeadRun.topDef (OpenLaw.row PySem.Challenge.rw_firstbreach_k01_share_states).prog 21) (kwd := []) Pf.ob_eq
    (by kernel_rfl) (fun s => by kernel_rfl) Pf.run (by kernel_rfl) (by kernel_rfl) (by kernel_rfl) (by rfl) (by first | assumption | decide +kernel) (by decide +kernel) ⟨rfl, rfl, rfl, rfl, rfl, by decide +kernel⟩ ?hw ?hc
  case hw => w_witness2
  case hc =>
    refine M.walk_ofX (l := PySem.Challenge.rw_firstbreach_k01_share_states) (n := 63) (k := 6) (x := "_law_script") (den := Pf.d_law) rfl (by decide) (by kernel_rfl) ⟨rfl, by decide, by decide⟩ ?F Pf.pure_law
    intro w mg fa h Y G hmg0
    obtain ⟨K, KX, c⟩ := Y
    have hmg : mg ("law" : PySem.Str) = some (.ref fa) := by
      have e : (HandSHeadRun.topDef (OpenLaw.row PySem.Challenge.rw_firstbreach_k01_share_states).prog 21).name = ("law" : PySem.Str) := by kernel_rfl
      rw [← e]
      exact hmg0
    obtain ⟨fd, hb, hF⟩ := Pf.facts (P := (PySem.Challenge.rw_firstbreach_k01_share_states).prog) (w := w) KX G hmg c
    exact ⟨K, fd, Pf.clK K, KX, hb, hF⟩
