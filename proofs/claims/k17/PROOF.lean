import PyProof.Rows.All
import HandS.ForMost
import HandS.Flow
import HandS.Deep
import HandS.Evl
import HandS.WordsExc
import HandS.Exc
import HandS.TupAny
import HandS.TupMul
import HandS.TupLe
import HandS.WideBits
import HandS.Zip
import HandS.Defaults
import HandS.IsInst
import HandS.Strs
import KE.SortData
import HandS.Text
import HandS.Style
import HandS.MakeKwOnly
import HandS.MakeKw
import HandS.SetBool
import HandS.TupSets
import KE.GoesEnum
import KE.GoesMore
import HandS.Property
import HandS.Head0
import HandS.Head1
import HandS.Head2
import HandS.HeadEnd
import HandS.HeadHook1
import HandS.HeadHook2
import HandS.EndBits
import HandS.HeadNt
import KE.DataAny
import HandS.Conv
import HandS.More
import HandS.HeadHook3
import PyProof.RulesMatch
import HandS.SetFor
import HandS.SetKeys
import HandS.SortKw
import HandS.Keys
import KE.SortKeyHeap
import HandS.ExcInit
import HandS.ExcCtx
import KE.KExcLine
import KE.KSuper
import HandS.ExcField
import HandS.ExcIs
import HandS.TryOnly
import HandS.HotCalls
import HandS.ClsMeth
import HandS.DictComp
import HandS.Small
import HandS.Sort
import HandS.Iter
import HandS.GenBody
import HandS.GenCall
import HandS.GenList
import HandS.GenYield
import HandS.Star
import PySem.Challenge.RW_firstbreach_k17_rate_has_loop_and_number
set_option Elab.async false
set_option linter.all false
set_option maxRecDepth 100000
set_option maxHeartbeats 4000000
namespace M
open PySem L2
inductive D where
  | non | bl (b : Bool) | int (i : Int) | str (x : Str) | ty (n : String)
  | tup (xs : List D) | lst (xs : List D) | dic (ks : List Key) (vs : List D) | dit (ks : List (List Key)) (vs : List D)
  | obj (c : Nat) (fs : List D) | scr (ns : List Int) | cls (c : Nat)
  | dkf (ks : List Key) (vs : List D)
  deriving Inhabited
structure Exc where
  c : Nat
  fs : List D
inductive R (α : Type) where
  | ok (a : α) | exc (x : Exc) | fail
def R.bind {α β : Type} (r : R α) (f : α → R β) : R β := match r with
  | .ok a => f a
  | .exc x => .exc x
  | .fail => .fail
instance : Monad R where
  pure := .ok
  bind := R.bind
@[simp] theorem R.pure_eq {α : Type} (a : α) : (pure a : R α) = .ok a := rfl
@[simp] theorem R.ok_bind {α β : Type} (a : α) (f : α → R β) : (R.ok a >>= f) = f a := rfl
@[simp] theorem R.exc_bind {α β : Type} (x : Exc) (f : α → R β) : (R.exc x >>= f) = .exc x := rfl
@[simp] theorem R.fail_bind {α β : Type} (f : α → R β) : (R.fail >>= f) = .fail := rfl
def R.nox {α : Type} : R α → R α
  | .exc _ => .fail
  | r => r
@[simp] theorem R.nox_ok {α : Type} (a : α) : (R.ok a).nox = .ok a := rfl
@[simp] theorem R.nox_fail {α : Type} : (R.fail : R α).nox = .fail := rfl
def R.need (b : Bool) : R Unit := if b then .ok () else .fail
@[simp] theorem R.need_true : R.need true = .ok () := rfl
structure Sl where
  own : Bool
  d : D
abbrev Env := List (Option Sl)
abbrev FE := Env → R D
abbrev FT := Env → R Bool
abbrev FA := Env → R (List D)
inductive Fl where
  | nx | bk | ct | rt (d : D)
abbrev FS := Env → R (Fl × Env)
abbrev FG := D → Env → R Env
inductive Kd where
  | st | bo | fr
def Ex (H H' : Hp) : Prop := ∀ a o, H a = some o → H' a = some o
theorem Ex.refl (H : Hp) : Ex H H := fun _ _ h => h
theorem Ex.trans {H H1 H2 : Hp} (a : Ex H H1) (b : Ex H1 H2) : Ex H H2 := fun x o h => b x o (a x o h)
theorem Ex.new {H : Hp} {p : Addr} {o : HO} (h : H p = none) : Ex H (upd H p o) := fun a u e => by
  rw [upd_ne (ne_of_none e h)]; exact e
theorem Ex.upd {H H' : Hp} {p : Addr} {o : HO} (e : Ex H H') (h : H p = none) : Ex H (upd H' p o) := fun a u q => by
  rw [upd_ne (ne_of_none q h)]; exact e a u q
theorem Ex.upd2 {H H' : Hp} {p : Addr} {o : HO} (e : Ex H H') (h : H' p = some o) : Ex (L2.upd H p o) H' := fun a u q => by
  by_cases ha : a = p
  · subst ha; rw [upd_same] at q; cases q; exact h
  · rw [upd_ne ha] at q; exact e a u q
theorem Ex.free {H H' : Hp} (e : Ex H H') {l : Addr} (h : H' l = none) : H l = none := by
  cases q : H l with
  | none => rfl
  | some o => rw [e l o q] at h; cases h
theorem Ex.sqL {K : PySem.W.Frag} {H H' : Hp} {a : Addr} {xs : List V} (e : Ex H H') (h : SqL K H a xs) : SqL K H' a xs := by
  rcases h with (h | ⟨o, h⟩) | h
  · exact .inl (.inl (e _ _ h))
  · exact .inl (.inr ⟨o, e _ _ h⟩)
  · exact .inr h
theorem Ex.sqT {K : PySem.W.Frag} {H H' : Hp} {a : Addr} {xs : List V} (e : Ex H H') (h : SqT K H a xs) : SqT K H' a xs := by
  rcases h with (h | ⟨o, h⟩) | h
  · exact .inl (.inl (e _ _ h))
  · exact .inl (.inr ⟨o, e _ _ h⟩)
  · exact .inr h
def okC (xs : List V) : Bool := decide (xs.length < 2) || (decide (3 < xs.length) || xs.all fun x => match x with | .str _ => true | _ => false)
def SqU (K : PySem.W.Frag) (H : Hp) (a : Addr) (xs : List V) : Prop := H a = some (.tup xs) ∨ ∃ (o : Obj) (its : Array Value) (n : Nat), K.lookup a = some o ∧ o.cls = .type "tuple" ∧ o.data = .seq its n ∧ its.size ≤ sizeLine ∧ Vals xs its.toList ∧ okC xs = true
theorem SqU.t {K : PySem.W.Frag} {H : Hp} {a : Addr} {xs : List V} (h : SqU K H a xs) : SqT K H a xs := by
  rcases h with h | ⟨o, its, n, h1, h2, h3, h4, h5, _⟩
  · exact SqT.of h
  · exact .inr ⟨o, its, n, h1, h2, h3, h4, h5⟩
theorem SqU.of {K : PySem.W.Frag} {H : Hp} {a : Addr} {xs : List V} (h : H a = some (.tup xs)) : SqU K H a xs := .inl h
theorem Ex.sqU {K : PySem.W.Frag} {H H' : Hp} {a : Addr} {xs : List V} (e : Ex H H') (h : SqU K H a xs) : SqU K H' a xs := by
  rcases h with h | h
  · exact .inl (e _ _ h)
  · exact .inr h
structure Step (G H G' H' : Hp) : Prop where
  g : Ex G G'
  h : Ex H H'
  gh : Ex G' H'
  gr : ∀ b o, G' b = some o → G b = some o ∨ H b = none
theorem Step.refl {G H : Hp} (e : Ex G H) : Step G H G H := ⟨Ex.refl _, Ex.refl _, e, fun _ _ h => .inl h⟩
theorem Step.trans {G H G1 H1 G2 H2 : Hp} (a : Step G H G1 H1) (b : Step G1 H1 G2 H2) : Step G H G2 H2 :=
  ⟨a.g.trans b.g, a.h.trans b.h, b.gh, fun x o q => by
    rcases b.gr x o q with q | q
    · exact a.gr x o q
    · exact .inr (a.h.free q)⟩
theorem Step.new {G H : Hp} {p : Addr} {o : HO} (e : Ex G H) (h : H p = none) : Step G H (upd G p o) (upd H p o) :=
  ⟨Ex.new (e.free h), Ex.new h, fun a u q => by
    by_cases ha : a = p
    · subst ha; rw [upd_same] at q ⊢; exact q
    · rw [upd_ne ha] at q ⊢; exact e a u q, fun b u q => by
    by_cases hb : b = p
    · subst hb; exact .inr h
    · rw [upd_ne hb] at q; exact .inl q⟩
theorem Step.new' {G H : Hp} {p : Addr} {o : HO} (e : Ex G H) (h : H p = none) : Step G H G (upd H p o) :=
  ⟨Ex.refl _, Ex.new h, e.upd (e.free h), fun _ _ q => .inl q⟩
theorem Step.frz {G0 H0 G H : Hp} {p : Addr} {o : HO} (s : Step G0 H0 G H) (h : H p = some o) (h0 : H0 p = none) (hg : G p = none) : Step G0 H0 (upd G p o) H :=
  ⟨s.g.trans (Ex.new hg), s.h, s.gh.upd2 h, fun b u q => by
    by_cases hb : b = p
    · subst hb; exact .inr h0
    · rw [upd_ne hb] at q; exact s.gr b u q⟩
structure Kn where
  K : PySem.W.Frag
  cl : Nat → Option (Addr × List Str)
mutual
inductive RD (k : Kn) (G : Hp) : D → V → Prop where
  | non : RD k G .non .non
  | bl (b : Bool) : RD k G (.bl b) (.bl b)
  | int (i : Int) : RD k G (.int i) (.int i)
  | str (x : Str) : RD k G (.str x) (.str x)
  | ty (n : String) : RD k G (.ty n) (.ty n)
  | tup {ds : List D} {a : Addr} {vs : List V} : SqU k.K G a vs → RDs k G ds vs → RD k G (.tup ds) (.ref a)
  | lst {ds : List D} {a : Addr} {vs : List V} : G a = some (.lst vs) → RDs k G ds vs → RD k G (.lst ds) (.ref a)
  | cls {c : Nat} {C : Addr} {nm : List Str} : k.cl c = some (C, nm) → RD k G (.cls c) (.ref C)
  | scr {ns : List Int} {a : Addr} : SqL k.K G a (ns.map V.int) → RD k G (.scr ns) (.ref a)
  | dic {ks : List Key} {ds : List D} {a : Addr} {vs : List V} : G a = some (.dK (ks.zip vs)) → ks.length = ds.length → RDs k G ds vs → RD k G (.dic ks ds) (.ref a)
  | dit {ks : List (List Key)} {ds : List D} {a : Addr} {vs : List V} : G a = some (.dT (ks.zip vs)) → ks.length = ds.length → RDs k G ds vs → RD k G (.dit ks ds) (.ref a)
  | dkf {ks : List Key} {ds : List D} {a : Addr} {o : Obj} {vs : List V} : G a = some (.frz o (.dK (ks.zip vs))) → ks.length = ds.length → RDs k G ds vs → RD k G (.dkf ks ds) (.ref a)
  | obj {c : Nat} {ds : List D} {a C dx : Addr} {nm : List Str} {vs : List V} : k.cl c = some (C, nm) → G a = some (.ins C dx (nm.zip vs)) → RDs k G ds vs → RD k G (.obj c ds) (.ref a)
inductive RDs (k : Kn) (G : Hp) : List D → List V → Prop where
  | nil : RDs k G [] []
  | cons {d : D} {ds : List D} {v : V} {vs : List V} : RD k G d v → RDs k G ds vs → RDs k G (d :: ds) (v :: vs)
end
mutual
theorem RD.mono {k : Kn} {G G' : Hp} (e : Ex G G') : ∀ {d : D} {v : V}, RD k G d v → RD k G' d v
  | _, _, .non => .non
  | _, _, .bl b => .bl b
  | _, _, .int i => .int i
  | _, _, .str x => .str x
  | _, _, .ty n => .ty n
  | _, _, .tup h r => .tup (e.sqU h) (RDs.mono e r)
  | _, _, .lst h r => .lst (e _ _ h) (RDs.mono e r)
  | _, _, .scr h => .scr (e.sqL h)
  | _, _, .cls h => .cls h
  | _, _, .dic h l r => .dic (e _ _ h) l (RDs.mono e r)
  | _, _, .dit h l r => .dit (e _ _ h) l (RDs.mono e r)
  | _, _, .dkf h l r => .dkf (e _ _ h) l (RDs.mono e r)
  | _, _, .obj c h r => .obj c (e _ _ h) (RDs.mono e r)
theorem RDs.mono {k : Kn} {G G' : Hp} (e : Ex G G') : ∀ {ds : List D} {vs : List V}, RDs k G ds vs → RDs k G' ds vs
  | _, _, .nil => .nil
  | _, _, .cons a b => .cons (RD.mono e a) (RDs.mono e b)
end
section
variable {k : Kn} {G H : Hp}
theorem RDs.length : ∀ {ds : List D} {vs : List V}, RDs k G ds vs → ds.length = vs.length
  | _, _, .nil => rfl
  | _, _, .cons _ b => by simp [RDs.length b]
theorem RDs.append : ∀ {ds es : List D} {vs us : List V}, RDs k G ds vs → RDs k G es us → RDs k G (ds ++ es) (vs ++ us)
  | _, _, _, _, .nil, s => s
  | _, _, _, _, .cons a b, s => .cons a (RDs.append b s)
theorem RDs.get : ∀ {ds : List D} {vs : List V} {i : Nat} {d : D}, RDs k G ds vs → ds[i]? = some d → ∃ v, vs[i]? = some v ∧ RD k G d v
  | _, _, _, _, .nil, h => by simp at h
  | _, _, 0, _, .cons a _, h => by simp at h; subst h; exact ⟨_, rfl, a⟩
  | _, _, i + 1, d, .cons _ b, h => by
    obtain ⟨v, h1, h2⟩ := RDs.get (i := i) (d := d) b (by simpa using h)
    exact ⟨v, by simpa using h1, h2⟩
theorem RDs.take : ∀ {ds : List D} {vs : List V} (n : Nat), RDs k G ds vs → RDs k G (ds.take n) (vs.take n)
  | _, _, 0, _ => by simpa using .nil
  | _, _, _ + 1, .nil => .nil
  | _, _, n + 1, .cons r t => .cons r (RDs.take n t)
theorem RDs.drop : ∀ {ds : List D} {vs : List V} (n : Nat), RDs k G ds vs → RDs k G (ds.drop n) (vs.drop n)
  | _, _, 0, r => r
  | _, _, _ + 1, .nil => .nil
  | _, _, n + 1, .cons _ t => RDs.drop n t
theorem RDs.reverse : ∀ {ds : List D} {vs : List V}, RDs k G ds vs → RDs k G ds.reverse vs.reverse
  | _, _, .nil => .nil
  | _, _, .cons a b => by rw [List.reverse_cons, List.reverse_cons]; exact RDs.append (RDs.reverse b) (.cons a .nil)
theorem RDs.set : ∀ {ds : List D} {vs : List V} (i : Nat) {d : D} {v : V}, RDs k G ds vs → RD k G d v → RDs k G (ds.set i d) (vs.set i v)
  | _, _, _, _, _, .nil, _ => .nil
  | _, _, 0, _, _, .cons _ t, r => .cons r t
  | _, _, i + 1, _, _, .cons q t, r => .cons q (RDs.set i t r)
theorem RDs.ints : ∀ (ns : List Int), RDs k G (ns.map D.int) (ns.map V.int)
  | [] => .nil
  | n :: ns => .cons (.int n) (RDs.ints ns)
end
inductive Cont (k : Kn) (G : Hp) : D → HO → Prop where
  | lst {ds : List D} {vs : List V} : RDs k G ds vs → Cont k G (.lst ds) (.lst vs)
  | dic {ks : List Key} {ds : List D} {vs : List V} : ks.length = ds.length → RDs k G ds vs → Cont k G (.dic ks ds) (.dK (ks.zip vs))
  | dit {ks : List (List Key)} {ds : List D} {vs : List V} : ks.length = ds.length → RDs k G ds vs → Cont k G (.dit ks ds) (.dT (ks.zip vs))
  | obj {c : Nat} {ds : List D} {C dx : Addr} {nm : List Str} {vs : List V} : k.cl c = some (C, nm) → RDs k G ds vs → Cont k G (.obj c ds) (.ins C dx (nm.zip vs))
theorem Cont.mono {k : Kn} {G G' : Hp} (e : Ex G G') {d : D} {o : HO} (c : Cont k G d o) : Cont k G' d o := by
  cases c with
  | lst r => exact .lst (r.mono e)
  | dic l r => exact .dic l (r.mono e)
  | dit l r => exact .dit l (r.mono e)
  | obj h r => exact .obj h (r.mono e)
theorem Cont.rd {k : Kn} {G : Hp} {d : D} {o : HO} {a : Addr} (c : Cont k G d o) (h : G a = some o) : RD k G d (.ref a) := by
  cases c with
  | lst r => exact .lst h r
  | dic l r => exact .dic h l r
  | dit l r => exact .dit h l r
  | obj q r => exact .obj q h r
structure Cf where
  k : Kn
  H0 : Hp
  G0 : Hp
  W : WX
def OwnAt (S : Env) (σ : St) (i : Nat) (a : Addr) : Prop := (∃ d, S[i]? = some (some ⟨true, d⟩)) ∧ σ[i]? = some (some (.ref a))
structure Rel (c : Cf) (G : Hp) (S : Env) (σ : St) (H : Hp) : Prop where
  st : Step c.G0 c.H0 G H
  len : S.length = σ.length
  fz : ∀ (i : Nat) (d : D), S[i]? = some (some ⟨false, d⟩) → ∃ v, σ[i]? = some (some v) ∧ RD c.k G d v
  ow : ∀ (i : Nat) (d : D), S[i]? = some (some ⟨true, d⟩) → ∃ a o, σ[i]? = some (some (.ref a)) ∧ G a = none ∧ c.H0 a = none ∧ H a = some o ∧ Cont c.k G d o
  nd : ∀ (i j : Nat) (a : Addr), OwnAt S σ i a → OwnAt S σ j a → i = j
section
variable {c : Cf} {G G' H H' : Hp} {S : Env} {σ : St}
theorem Rel.own (r : Rel c G S σ H) {i : Nat} {a : Addr} (h : OwnAt S σ i a) : G a = none ∧ c.H0 a = none ∧ ∃ o d, H a = some o ∧ S[i]? = some (some ⟨true, d⟩) ∧ Cont c.k G d o := by
  obtain ⟨⟨d, hd⟩, hs⟩ := h
  obtain ⟨a', o, e, g, h0, ho, ct⟩ := r.ow i d hd
  rw [hs] at e; cases e
  exact ⟨g, h0, o, d, ho, hd, ct⟩
theorem Rel.grow (r : Rel c G S σ H) (s : Step G H G' H') : Rel c G' S σ H' where
  st := r.st.trans s
  len := r.len
  fz := fun i d h => let ⟨v, e, q⟩ := r.fz i d h; ⟨v, e, q.mono s.g⟩
  ow := fun i d h => by
    obtain ⟨a, o, e, g, h0, ho, ct⟩ := r.ow i d h
    refine ⟨a, o, e, ?_, h0, s.h _ _ ho, ct.mono s.g⟩
    cases q : G' a with
    | none => rfl
    | some u =>
      rcases s.gr a u q with z | z
      · rw [g] at z; cases z
      · rw [ho] at z; cases z
  nd := r.nd
theorem Rel.frz (r : Rel c G S σ H) {i : Nat} {d : D} (h : S[i]? = some (some ⟨true, d⟩)) : ∃ G', Ex G G' ∧ Rel c G' (S.set i (some ⟨false, d⟩)) σ H := by
  obtain ⟨a, o, e, g, h0, ho, ct⟩ := r.ow i d h
  have ow : OwnAt S σ i a := ⟨⟨d, h⟩, e⟩
  have ex : Ex G (upd G a o) := Ex.new g
  have hi : i < S.length := (List.getElem?_eq_some_iff.mp h).1
  refine ⟨upd G a o, ex, ⟨r.st.frz ho h0 g, by rw [List.length_set]; exact r.len, fun j d' q => ?_, fun j d' q => ?_, fun j l b q1 q2 => ?_⟩⟩
  · by_cases hj : i = j
    · subst hj
      rw [List.getElem?_set_self hi] at q; cases q
      exact ⟨_, e, (ct.mono ex).rd upd_same⟩
    · rw [List.getElem?_set_ne hj] at q
      obtain ⟨v, e', q'⟩ := r.fz j d' q
      exact ⟨v, e', q'.mono ex⟩
  · by_cases hj : i = j
    · subst hj
      rw [List.getElem?_set_self hi] at q; cases q
    · rw [List.getElem?_set_ne hj] at q
      obtain ⟨b, u, e', g', h0', ho', ct'⟩ := r.ow j d' q
      have hb : b ≠ a := fun z => hj (r.nd i j a ow ⟨⟨d', q⟩, by rw [← z]; exact e'⟩)
      exact ⟨b, u, e', by rw [upd_ne hb]; exact g', h0', ho', ct'.mono ex⟩
  · have back : ∀ {m : Nat}, OwnAt (S.set i (some ⟨false, d⟩)) σ m b → OwnAt S σ m b := fun {m} hm => by
      obtain ⟨⟨d', q⟩, z⟩ := hm
      by_cases hj : i = m
      · subst hj; rw [List.getElem?_set_self hi] at q; cases q
      · rw [List.getElem?_set_ne hj] at q; exact ⟨⟨d', q⟩, z⟩
    exact r.nd j l b (back q1) (back q2)
theorem Rel.setS (r : Rel c G S σ H) {d : D} {v : V} (i : Nat) (h : RD c.k G d v) : Rel c G (S.set i (some ⟨false, d⟩)) (σ.set i (some v)) H where
  st := r.st
  len := by rw [List.length_set, List.length_set]; exact r.len
  fz := fun j d' q => by
    by_cases hj : i = j
    · subst hj
      have hi : i < S.length := by have := (List.getElem?_eq_some_iff.mp q).1; rwa [List.length_set] at this
      rw [List.getElem?_set_self hi] at q; cases q
      exact ⟨v, List.getElem?_set_self (by rw [← r.len]; exact hi), h⟩
    · rw [List.getElem?_set_ne hj] at q ⊢; exact r.fz j d' q
  ow := fun j d' q => by
    by_cases hj : i = j
    · subst hj
      have hi : i < S.length := by have := (List.getElem?_eq_some_iff.mp q).1; rwa [List.length_set] at this
      rw [List.getElem?_set_self hi] at q; cases q
    · rw [List.getElem?_set_ne hj] at q ⊢; exact r.ow j d' q
  nd := fun j l b q1 q2 => by
    have back : ∀ {m : Nat}, OwnAt (S.set i (some ⟨false, d⟩)) (σ.set i (some v)) m b → OwnAt S σ m b := fun {m} hm => by
      obtain ⟨⟨d', q⟩, z⟩ := hm
      by_cases hj : i = m
      · subst hj
        have hi : i < S.length := by have := (List.getElem?_eq_some_iff.mp q).1; rwa [List.length_set] at this
        rw [List.getElem?_set_self hi] at q; cases q
      · rw [List.getElem?_set_ne hj] at q z; exact ⟨⟨d', q⟩, z⟩
    exact r.nd j l b (back q1) (back q2)
theorem Rel.setO (r : Rel c G S σ H) {d : D} {a : Addr} {o : HO} (i : Nat) (ha : H' a = some o) (hg : G a = none) (h0 : c.H0 a = none) (ct : Cont c.k G d o) (hn : ∀ j, OwnAt S σ j a → j = i) (hh : ∀ b, b ≠ a → H' b = H b) :
    Rel c G (S.set i (some ⟨true, d⟩)) (σ.set i (some (.ref a))) H' where
  st := ⟨r.st.g, fun b u q => by rw [hh b (ne_of_none q h0)]; exact r.st.h b u q, fun b u q => by rw [hh b (ne_of_none q hg)]; exact r.st.gh b u q, r.st.gr⟩
  len := by rw [List.length_set, List.length_set]; exact r.len
  fz := fun j d' q => by
    by_cases hj : i = j
    · subst hj
      have hi : i < S.length := by have := (List.getElem?_eq_some_iff.mp q).1; rwa [List.length_set] at this
      rw [List.getElem?_set_self hi] at q; cases q
    · rw [List.getElem?_set_ne hj] at q ⊢; exact r.fz j d' q
  ow := fun j d' q => by
    by_cases hj : i = j
    · subst hj
      have hi : i < S.length := by have := (List.getElem?_eq_some_iff.mp q).1; rwa [List.length_set] at this
      rw [List.getElem?_set_self hi] at q; cases q
      exact ⟨a, o, List.getElem?_set_self (by rw [← r.len]; exact hi), hg, h0, ha, ct⟩
    · rw [List.getElem?_set_ne hj] at q ⊢
      obtain ⟨b, u, e', g', h0', ho', ct'⟩ := r.ow j d' q
      have hb : b ≠ a := fun z => hj (hn j ⟨⟨d', q⟩, by rw [← z]; exact e'⟩).symm
      exact ⟨b, u, e', g', h0', by rw [hh b hb]; exact ho', ct'⟩
  nd := fun j l b q1 q2 => by
    have back : ∀ {m : Nat}, OwnAt (S.set i (some ⟨true, d⟩)) (σ.set i (some (.ref a))) m b → (m = i ∧ b = a) ∨ (m ≠ i ∧ OwnAt S σ m b) := fun {m} hm => by
      obtain ⟨⟨d', q⟩, z⟩ := hm
      by_cases hj : i = m
      · subst hj
        have hi : i < S.length := by have := (List.getElem?_eq_some_iff.mp q).1; rwa [List.length_set] at this
        rw [List.getElem?_set_self (by rw [← r.len]; exact hi)] at z; cases z
        exact .inl ⟨rfl, rfl⟩
      · rw [List.getElem?_set_ne hj] at q z; exact .inr ⟨Ne.symm hj, ⟨d', q⟩, z⟩
    rcases back q1 with ⟨h1, e1⟩ | ⟨n1, o1⟩ <;> rcases back q2 with ⟨h2, e2⟩ | ⟨n2, o2⟩
    · rw [h1, h2]
    · exact absurd (hn l (by rw [← e1]; exact o2)) n2
    · exact absurd (hn j (by rw [← e2]; exact o1)) n1
    · exact r.nd j l b o1 o2
theorem Rel.unset (r : Rel c G S σ H) (i : Nat) : Rel c G (S.set i none) (σ.set i none) H where
  st := r.st
  len := by rw [List.length_set, List.length_set]; exact r.len
  fz := fun j d' q => by
    by_cases hj : i = j
    · subst hj
      have hi : i < S.length := by have := (List.getElem?_eq_some_iff.mp q).1; rwa [List.length_set] at this
      rw [List.getElem?_set_self hi] at q; cases q
    · rw [List.getElem?_set_ne hj] at q ⊢; exact r.fz j d' q
  ow := fun j d' q => by
    by_cases hj : i = j
    · subst hj
      have hi : i < S.length := by have := (List.getElem?_eq_some_iff.mp q).1; rwa [List.length_set] at this
      rw [List.getElem?_set_self hi] at q; cases q
    · rw [List.getElem?_set_ne hj] at q ⊢; exact r.ow j d' q
  nd := fun j l b q1 q2 => by
    have back : ∀ {m : Nat}, OwnAt (S.set i none) (σ.set i none) m b → OwnAt S σ m b := fun {m} hm => by
      obtain ⟨⟨d', q⟩, z⟩ := hm
      by_cases hj : i = m
      · subst hj
        have hi : i < S.length := by have := (List.getElem?_eq_some_iff.mp q).1; rwa [List.length_set] at this
        rw [List.getElem?_set_self hi] at q; cases q
      · rw [List.getElem?_set_ne hj] at q z; exact ⟨⟨d', q⟩, z⟩
    exact r.nd j l b (back q1) (back q2)
end
def wipeS (S : Env) : List Nat → Env
  | [] => S
  | v :: vs => (wipeS S vs).set v none
theorem Rel.wipe {c : Cf} {G H : Hp} {S : Env} {σ : St} (r : Rel c G S σ H) : ∀ vs : List Nat, Rel c G (wipeS S vs) (L2.wipe σ vs) H
  | [] => r
  | v :: vs => (Rel.wipe r vs).unset v
theorem Rel.mut {c : Cf} {G H : Hp} {S : Env} {σ : St} (r : Rel c G S σ H) {i : Nat} {a : Addr} {d' : D} {o' : HO} (ow : OwnAt S σ i a) (ct : Cont c.k G d' o') : Rel c G (S.set i (some ⟨true, d'⟩)) σ (upd H a o') := by
  obtain ⟨g, h0, _⟩ := r.own ow
  have q := r.setO (H' := upd H a o') i upd_same g h0 ct (fun j oj => r.nd j i a oj ow) (fun b hb => upd_ne hb)
  have e : σ.set i (some (.ref a)) = σ := by
    apply List.ext_getElem?
    intro j
    by_cases hj : i = j
    · subst hj; rw [List.getElem?_set_self (List.getElem?_eq_some_iff.mp ow.2).1, ow.2]
    · rw [List.getElem?_set_ne hj]
  rw [e] at q; exact q
def Now (k : Kn) (G H : Hp) (d : D) (v : V) : Prop := RD k G d v ∨ ∃ a o, v = .ref a ∧ H a = some o ∧ Cont k G d o
inductive Nows (k : Kn) (G H : Hp) : List D → List V → Prop where
  | nil : Nows k G H [] []
  | cons {d : D} {ds : List D} {v : V} {vs : List V} : Now k G H d v → Nows k G H ds vs → Nows k G H (d :: ds) (v :: vs)
section
variable {k : Kn} {G G' H H' : Hp}
theorem Now.grow {d : D} {v : V} (n : Now k G H d v) (s : Step G H G' H') : Now k G' H' d v := by
  rcases n with n | ⟨a, o, e, h, ct⟩
  · exact .inl (n.mono s.g)
  · exact .inr ⟨a, o, e, s.h _ _ h, ct.mono s.g⟩
theorem Nows.grow (s : Step G H G' H') : ∀ {ds : List D} {vs : List V}, Nows k G H ds vs → Nows k G' H' ds vs
  | _, _, .nil => .nil
  | _, _, .cons a b => .cons (a.grow s) (Nows.grow s b)
theorem Nows.of : ∀ {ds : List D} {vs : List V}, RDs k G ds vs → Nows k G H ds vs
  | _, _, .nil => .nil
  | _, _, .cons a b => .cons (.inl a) (Nows.of b)
theorem Now.rd {d : D} {v : V} (e : Ex G H) (n : Now k G H d v) : RD k H d v := by
  rcases n with n | ⟨a, o, rfl, h, ct⟩
  · exact n.mono e
  · exact (ct.mono e).rd h
theorem Nows.rd (e : Ex G H) : ∀ {ds : List D} {vs : List V}, Nows k G H ds vs → RDs k H ds vs
  | _, _, .nil => .nil
  | _, _, .cons a b => .cons (a.rd e) (Nows.rd e b)
theorem Now.lst {ds : List D} {v : V} (e : Ex G H) (n : Now k G H (.lst ds) v) : ∃ a vs, v = .ref a ∧ H a = some (.lst vs) ∧ RDs k G ds vs := by
  rcases n with n | ⟨a, o, rfl, h, ct⟩
  · cases n with | lst h r => exact ⟨_, _, rfl, e _ _ h, r⟩
  · cases ct with | lst r => exact ⟨_, _, rfl, h, r⟩
theorem Now.tup {ds : List D} {v : V} (n : Now k G H (.tup ds) v) : ∃ a vs, v = .ref a ∧ SqU k.K G a vs ∧ RDs k G ds vs := by
  rcases n with n | ⟨a, o, rfl, h, ct⟩
  · cases n with | tup h r => exact ⟨_, _, rfl, h, r⟩
  · cases ct
theorem Now.scr {ns : List Int} {v : V} (n : Now k G H (.scr ns) v) : ∃ a, v = .ref a ∧ SqL k.K G a (ns.map V.int) := by
  rcases n with n | ⟨a, o, rfl, h, ct⟩
  · cases n with | scr h => exact ⟨_, rfl, h⟩
  · cases ct
theorem Now.dic {ks : List Key} {ds : List D} {v : V} (e : Ex G H) (n : Now k G H (.dic ks ds) v) : ∃ a vs, v = .ref a ∧ H a = some (.dK (ks.zip vs)) ∧ ks.length = ds.length ∧ RDs k G ds vs := by
  rcases n with n | ⟨a, o, rfl, h, ct⟩
  · cases n with | dic h l r => exact ⟨_, _, rfl, e _ _ h, l, r⟩
  · cases ct with | dic l r => exact ⟨_, _, rfl, h, l, r⟩
theorem Now.dit {ks : List (List Key)} {ds : List D} {v : V} (e : Ex G H) (n : Now k G H (.dit ks ds) v) : ∃ a vs, v = .ref a ∧ H a = some (.dT (ks.zip vs)) ∧ ks.length = ds.length ∧ RDs k G ds vs := by
  rcases n with n | ⟨a, o, rfl, h, ct⟩
  · cases n with | dit h l r => exact ⟨_, _, rfl, e _ _ h, l, r⟩
  · cases ct with | dit l r => exact ⟨_, _, rfl, h, l, r⟩
theorem Now.dkf {ks : List Key} {ds : List D} {v : V} (e : Ex G H) (n : Now k G H (.dkf ks ds) v) : ∃ a o vs, v = .ref a ∧ H a = some (.frz o (.dK (ks.zip vs))) ∧ ks.length = ds.length ∧ RDs k G ds vs := by
  rcases n with n | ⟨a, o, rfl, h, ct⟩
  · cases n with | dkf h l r => exact ⟨_, _, _, rfl, e _ _ h, l, r⟩
  · cases ct
theorem Now.obj {c : Nat} {ds : List D} {v : V} (e : Ex G H) (n : Now k G H (.obj c ds) v) : ∃ a C dx nm vs, v = .ref a ∧ k.cl c = some (C, nm) ∧ H a = some (.ins C dx (nm.zip vs)) ∧ RDs k G ds vs := by
  rcases n with n | ⟨a, o, rfl, h, ct⟩
  · cases n with | obj q h r => exact ⟨_, _, _, _, _, rfl, q, e _ _ h, r⟩
  · cases ct with | obj q r => exact ⟨_, _, _, _, _, rfl, q, h, r⟩
theorem Now.int {i : Int} {v : V} (n : Now k G H (.int i) v) : v = .int i := by
  rcases n with n | ⟨a, o, rfl, h, ct⟩
  · cases n; rfl
  · cases ct
theorem Now.bl {i : Bool} {v : V} (n : Now k G H (.bl i) v) : v = .bl i := by
  rcases n with n | ⟨a, o, rfl, h, ct⟩
  · cases n; rfl
  · cases ct
theorem Now.str {i : Str} {v : V} (n : Now k G H (.str i) v) : v = .str i := by
  rcases n with n | ⟨a, o, rfl, h, ct⟩
  · cases n; rfl
  · cases ct
theorem Now.non {v : V} (n : Now k G H .non v) : v = .non := by
  rcases n with n | ⟨a, o, rfl, h, ct⟩
  · cases n; rfl
  · cases ct
theorem Now.ty {x : String} {v : V} (n : Now k G H (.ty x) v) : v = .ty x := by
  rcases n with n | ⟨a, o, rfl, h, ct⟩
  · cases n; rfl
  · cases ct
end
def Res (k : Kn) (H : Hp) (G' H' : Hp) (d : D) (v : V) : Kd → Prop
  | .st => RD k G' d v
  | .bo => Now k G' H' d v
  | .fr => ∃ a o, v = .ref a ∧ G' a = none ∧ H a = none ∧ H' a = some o ∧ Cont k G' d o
section
variable {k : Kn} {H0 H G' H' G2 H2 : Hp} {d : D} {v : V} {kd : Kd}
theorem Res.mono (h : Res k H G' H' d v kd) (e : Ex H0 H) : Res k H0 G' H' d v kd := by
  cases kd with
  | st => exact h
  | bo => exact h
  | fr => obtain ⟨a, o, e', hg, h0, r⟩ := h; exact ⟨a, o, e', hg, e.free h0, r⟩
theorem Res.now (h : Res k H G' H' d v kd) : Now k G' H' d v := by
  cases kd with
  | st => exact .inl h
  | bo => exact h
  | fr => obtain ⟨a, o, e, _, _, h, ct⟩ := h; exact .inr ⟨a, o, e, h, ct⟩
end
def Args (k : Kn) (G H : Hp) (ds : List D) (vs : List V) : Bool → Prop
  | true => Nows k G H ds vs
  | false => RDs k G ds vs
theorem Args.nows {k : Kn} {G H : Hp} {ds : List D} {vs : List V} {b : Bool} (h : Args k G H ds vs b) : Nows k G H ds vs := by
  cases b with
  | true => exact h
  | false => exact Nows.of h
def XR (c : Cf) (G : Hp) (x : Exc) (cls : Value) (da : Option Addr) (H : Hp) : Prop :=
  ∃ C nm, c.k.cl x.c = some (C, nm) ∧ cls = .ref C ∧ ((nm = [] ∧ x.fs = [] ∧ da = none) ∨ ∃ d vs, da = some d ∧ H d = some (.xd (nm.zip vs)) ∧ RDs c.k G x.fs vs ∧ nm.length = vs.length)
def PX (c : Cf) (σ : St) (x : Exc) : Prop := ∀ cls da G' H', Step c.G0 c.H0 G' H' → XR c G' x cls da H' → c.W cls da σ H'
def PXs (c : Cf) (x : Exc) : Prop := ∀ σ, PX c σ x
abbrev liftX (E : XK) : WX := fun cls da _ H => E cls da H
def PostE (c : Cf) (k : Kd) (G : Hp) (S : Env) (σ : St) (H : Hp) (Q : VK) : R D → Prop
  | .ok d => ∀ v G' H', Step G H G' H' → Res c.k H G' H' d v k → Q v H'
  | .exc x => PX c σ x
  | .fail => False
def RdE (c : Cf) (k : Kd) (f : FE) : TE := fun σ H Q => ∃ G S, Rel c G S σ H ∧ PostE c k G S σ H Q (f S)
def PostT (c : Cf) (G : Hp) (S : Env) (σ : St) (H : Hp) (Q : Bool → Hp → Prop) : R Bool → Prop
  | .ok b => ∀ G' H', Step G H G' H' → Q b H'
  | .exc x => PX c σ x
  | .fail => False
def RdT (c : Cf) (f : FT) : TT := fun σ H Q => ∃ G S, Rel c G S σ H ∧ PostT c G S σ H Q (f S)
def PostA (c : Cf) (b : Bool) (G : Hp) (S : Env) (σ : St) (H : Hp) (Q : List V → Hp → Prop) : R (List D) → Prop
  | .ok ds => ∀ vs G' H', Step G H G' H' → Args c.k G' H' ds vs b → Q vs H'
  | .exc x => PX c σ x
  | .fail => False
def RdA (c : Cf) (b : Bool) (f : FA) : TA := fun σ H Q => ∃ G S, Rel c G S σ H ∧ PostA c b G S σ H Q (f S)
structure Frm (as : List Nat) (S : Env) (σ : St) (H : Hp) (S' : Env) (σ' : St) (H' : Hp) : Prop where
  len : σ'.length = σ.length
  sg : ∀ (i : Nat), i ∉ as → σ'[i]? = σ[i]?
  sl : ∀ (i : Nat), i ∉ as → i + 1000 ∉ as → S'[i]? = S[i]?
  ow : ∀ (i : Nat) (a : Addr), i ∉ as → i + 1000 ∉ as → OwnAt S σ i a → H' a = H a
theorem Frm.refl (as : List Nat) (S : Env) (σ : St) (H : Hp) : Frm as S σ H S σ H := ⟨rfl, fun _ _ => rfl, fun _ _ _ => rfl, fun _ _ _ _ _ => rfl⟩
theorem Frm.trans {as bs : List Nat} {S S1 S2 : Env} {σ σ1 σ2 : St} {H H1 H2 : Hp} (a : Frm as S σ H S1 σ1 H1) (b : Frm bs S1 σ1 H1 S2 σ2 H2) : Frm (as ++ bs) S σ H S2 σ2 H2 where
  len := b.len.trans a.len
  sg := fun i h => by
    simp only [List.mem_append, not_or] at h
    exact (b.sg i h.2).trans (a.sg i h.1)
  sl := fun i h h' => by
    simp only [List.mem_append, not_or] at h h'
    exact (b.sl i h.2 h'.2).trans (a.sl i h.1 h'.1)
  ow := fun i x h h' o => by
    simp only [List.mem_append, not_or] at h h'
    have o' : OwnAt S1 σ1 i x := ⟨by obtain ⟨d, e⟩ := o.1; exact ⟨d, (a.sl i h.1 h'.1).trans e⟩, (a.sg i h.1).trans o.2⟩
    exact (b.ow i x h.2 h'.2 o').trans (a.ow i x h.1 h'.1 o)
theorem Frm.mono {as bs : List Nat} {S S1 : Env} {σ σ1 : St} {H H1 : Hp} (a : Frm as S σ H S1 σ1 H1) (h : ∀ i, i ∈ as → i ∈ bs) : Frm bs S σ H S1 σ1 H1 :=
  ⟨a.len, fun i q => a.sg i fun z => q (h i z), fun i q q' => a.sl i (fun z => q (h i z)) fun z => q' (h _ z), fun i x q q' => a.ow i x (fun z => q (h i z)) fun z => q' (h _ z)⟩
theorem Frm.step {c : Cf} {as : List Nat} {S : Env} {σ : St} {G H G' H' : Hp} (r : Rel c G S σ H) (s : Step G H G' H') : Frm as S σ H S σ H' :=
  ⟨rfl, fun _ _ => rfl, fun _ _ _ => rfl, fun i a _ _ o => by
    obtain ⟨_, _, u, _, h, _⟩ := r.own o
    rw [h, s.h a u h]⟩
theorem Frm.mut {c : Cf} {G H : Hp} {S : Env} {σ : St} (r : Rel c G S σ H) {i : Nat} {a : Addr} {x : Option Sl} {o' : HO} (ow : OwnAt S σ i a) : Frm [i + 1000] S σ H (S.set i x) σ (upd H a o') :=
  ⟨rfl, fun _ _ => rfl, fun j _ h => List.getElem?_set_ne (fun z => h (by simp [z])), fun j b _ h oj => upd_ne (fun z => h (by
    have : i = j := r.nd i j b (by rw [z]; exact ow) oj
    simp [this]))⟩
def RV (c : Cf) (fr : Bool) (G H : Hp) (d : D) (v : V) : Prop :=
  match fr with
  | true => ∃ a o, v = .ref a ∧ G a = none ∧ c.H0 a = none ∧ H a = some o ∧ Cont c.k G d o
  | false => RD c.k G d v
structure OwR (k : Kn) (as : List Nat) (S' : Env) (σ : St) (G' H' : Hp) : Prop where
  ex : ∃ σ' : St, (∀ i : Nat, i ∉ as → σ'[i]? = σ[i]?) ∧ ∀ (i : Nat) (d : D), S'[i]? = some (some ⟨true, d⟩) → ∃ a o, σ'[i]? = some (some (.ref a)) ∧ G' a = none ∧ H' a = some o ∧ Cont k G' d o
theorem Rel.owR {c : Cf} {as : List Nat} {S : Env} {σ : St} {G H : Hp} (r : Rel c G S σ H) : OwR c.k as S σ G H :=
  ⟨σ, fun _ _ => rfl, fun i d q => by
    obtain ⟨a, o, e, g, _, ho, ct⟩ := r.ow i d q
    exact ⟨a, o, e, g, ho, ct⟩⟩
theorem OwR.sub {k : Kn} {as bs : List Nat} {S : Env} {σ : St} {G H : Hp} (h : OwR k as S σ G H) (hs : ∀ i, i ∈ as → i ∈ bs) : OwR k bs S σ G H := by
  obtain ⟨σ', h1, h2⟩ := h.ex
  exact ⟨σ', fun i hi => h1 i fun z => hi (hs i z), h2⟩
theorem OwR.mv {k : Kn} {as bs : List Nat} {S S1 S2 : Env} {σ σ1 : St} {G H H0 H1 : Hp} (h : OwR k bs S2 σ1 G H) (fm : Frm as S σ H0 S1 σ1 H1) : OwR k (as ++ bs) S2 σ G H := by
  obtain ⟨σ', h1, h2⟩ := h.ex
  refine ⟨σ', fun i hi => ?_, h2⟩
  simp only [List.mem_append, not_or] at hi
  exact (h1 i hi.2).trans (fm.sg i hi.1)
def PostS (c : Cf) (fr : Bool) (as : List Nat) (G : Hp) (S : Env) (σ : St) (H : Hp) (Dn : Ends) : R (Fl × Env) → Prop
  | .ok (.nx, S') => ∀ G' σ' H', Ex G G' → Rel c G' S' σ' H' → Frm as S σ H S' σ' H' → Dn.nx σ' H'
  | .ok (.bk, S') => ∀ G' σ' H', Ex G G' → Rel c G' S' σ' H' → Frm as S σ H S' σ' H' → Dn.bk σ' H'
  | .ok (.ct, S') => ∀ G' σ' H', Ex G G' → Rel c G' S' σ' H' → Frm as S σ H S' σ' H' → Dn.ct σ' H'
  | .ok (.rt d, S') => ∀ v G' H', Step c.G0 c.H0 G' H' → RV c fr G' H' d v → OwR c.k as S' σ G' H' → Dn.rt v H'
  | .exc x => PXs c x
  | .fail => False
def RdS (c : Cf) (fr : Bool) (as : List Nat) (f : FS) : TS := fun Dn σ H => ∃ G S, Rel c G S σ H ∧ PostS c fr as G S σ H Dn (f S)
def PostG (c : Cf) (as : List Nat) (G : Hp) (S : Env) (σ : St) (H : Hp) (Q : St → Hp → Prop) : R Env → Prop
  | .ok S' => ∀ G' σ' H', Step G H G' H' → Rel c G' S' σ' H' → Frm as S σ H S' σ' H' → Q σ' H'
  | _ => False
def RdG (c : Cf) (as : List Nat) (g : FG) : TG := fun v σ H Q => ∃ G S d, Rel c G S σ H ∧ RD c.k G d v ∧ PostG c as G S σ H Q (g d S)
end M
set_option Elab.async false
set_option linter.all false
set_option maxRecDepth 100000
set_option maxHeartbeats 4000000
namespace M
open PySem L2
section
variable {X : Cx}
theorem peI {e : Expr} {t t' : TE} (h : PE X e t) (i : ∀ σ H Q, t' σ H Q → t σ H Q) : PE X e t' := ⟨fun pins s σ H Q I q => h.run pins s σ H Q I (i σ H Q q)⟩
theorem ptI {e : Expr} {t t' : TT} (h : PT X e t) (i : ∀ σ H Q, t' σ H Q → t σ H Q) : PT X e t' := ⟨fun pins s σ H Q I q => h.run pins s σ H Q I (i σ H Q q)⟩
theorem pwI {e : Expr} {t t' : TT} (h : PW X e t) (i : ∀ σ H Q, t' σ H Q → t σ H Q) : PW X e t' := ⟨fun wh pins s σ H Q I q => h.run wh pins s σ H Q I (i σ H Q q)⟩
theorem paI {e : List Expr} {t t' : TA} (h : PA X e t) (i : ∀ σ H Q, t' σ H Q → t σ H Q) : PA X e t' := ⟨fun pos pins s σ H Q I q => h.run pos pins s σ H Q I (i σ H Q q)⟩
theorem psI {e : Stmt} {t t' : TS} (h : PS X e t) (i : ∀ D σ H, t' D σ H → t D σ H) : PS X e t' := ⟨fun pins s σ H D I q => h.run pins s σ H D I (i D σ H q)⟩
theorem pssI {e : List Stmt} {t t' : TS} (h : PSs X e t) (i : ∀ D σ H, t' D σ H → t D σ H) : PSs X e t' := ⟨fun pins s σ H D I q => h.run pins s σ H D I (i D σ H q)⟩
theorem pgI {e : Expr} {t t' : TG} (h : PG X e t) (i : ∀ v σ H Q, t' v σ H Q → t v σ H Q) : PG X e t' := ⟨fun pins s σ H v u Q I r q => h.run pins s σ H v u Q I r (i v σ H Q q)⟩
theorem pgsI {e : List Expr} {t t' : TGs} (h : PGs X e t) (i : ∀ v σ H Q, t' v σ H Q → t v σ H Q) : PGs X e t' := ⟨fun pins s σ H v u Q I r q => h.run pins s σ H v u Q I r (i v σ H Q q)⟩
theorem piI {tg e : Expr} {t t' : TI} (h : PI X tg e t) (i : ∀ σ H Q, t' σ H Q → t σ H Q) : PI X tg e t' := ⟨fun pins s σ H R I q => h.run pins s σ H R I (i σ H R q)⟩
theorem poI {e : Option Expr} {t t' : TO} (h : PO X e t) (i : ∀ σ H Q, t' σ H Q → t σ H Q) : PO X e t' := ⟨fun pins s σ H Q I q => h.run pins s σ H Q I (i σ H Q q)⟩
theorem ptsI {e : List Expr} {t t' : TT} (h : PTs X e t) (i : ∀ σ H Q, t' σ H Q → t σ H Q) : PTs X e t' := ⟨fun pins s σ H Q I q => h.run pins s σ H Q I (i σ H Q q)⟩
end
section
variable {X : Cx} {c : Cf}
theorem rdE_go {kd : Kd} {f : FE} {G H : Hp} {S : Env} {σ : St} {Q : VK} {β : Type} {g : D → R β} {Post : R β → Prop} (r : Rel c G S σ H) (p : Post (f S >>= g))
    (hx : ∀ x, Post (.exc x) → PX c σ x) (hf : Post .fail → False) (k : ∀ d v G' H', Step G H G' H' → Res c.k H G' H' d v kd → Post (g d) → Q v H') : RdE c kd f σ H Q := by
  refine ⟨G, S, r, ?_⟩
  cases e : f S with
  | ok d => rw [e] at p; exact fun v G' H' s h => k d v G' H' s h p
  | exc x => rw [e] at p; exact hx x p
  | fail => rw [e] at p; exact hf p
theorem rdT_go {f : FT} {G H : Hp} {S : Env} {σ : St} {Q : Bool → Hp → Prop} {β : Type} {g : Bool → R β} {Post : R β → Prop} (r : Rel c G S σ H) (p : Post (f S >>= g))
    (hx : ∀ x, Post (.exc x) → PX c σ x) (hf : Post .fail → False) (k : ∀ d G' H', Step G H G' H' → Post (g d) → Q d H') : RdT c f σ H Q := by
  refine ⟨G, S, r, ?_⟩
  cases e : f S with
  | ok d => rw [e] at p; exact fun G' H' s => k d G' H' s p
  | exc x => rw [e] at p; exact hx x p
  | fail => rw [e] at p; exact hf p
theorem rdA_go {b : Bool} {f : FA} {G H : Hp} {S : Env} {σ : St} {Q : List V → Hp → Prop} {β : Type} {g : List D → R β} {Post : R β → Prop} (r : Rel c G S σ H) (p : Post (f S >>= g))
    (hx : ∀ x, Post (.exc x) → PX c σ x) (hf : Post .fail → False) (k : ∀ ds vs G' H', Step G H G' H' → Args c.k G' H' ds vs b → Post (g ds) → Q vs H') : RdA c b f σ H Q := by
  refine ⟨G, S, r, ?_⟩
  cases e : f S with
  | ok d => rw [e] at p; exact fun v G' H' s h => k d v G' H' s h p
  | exc x => rw [e] at p; exact hx x p
  | fail => rw [e] at p; exact hf p
abbrev PE' (X : Cx) (c : Cf) (kd : Kd) (e : Expr) (f : FE) : Prop := PE X e (RdE c kd f)
abbrev PT' (X : Cx) (c : Cf) (e : Expr) (f : FT) : Prop := PT X e (RdT c f)
abbrev PA' (X : Cx) (c : Cf) (b : Bool) (es : List Expr) (f : FA) : Prop := PA X es (RdA c b f)
theorem cst_of {e : Expr} {d : D} {v : V} (h : PE X e (tC v)) (r : ∀ G, RD c.k G d v) : PE' X c .st e (fun _ => .ok d) :=
  peI h fun σ H Q ⟨G, S, rel, p⟩ => p v G H (Step.refl rel.st.gh) (r G)
def eI (i : Int) : FE := fun _ => .ok (.int i)
def eS (x : Str) : FE := fun _ => .ok (.str x)
def eB (b : Bool) : FE := fun _ => .ok (.bl b)
def eN : FE := fun _ => .ok .non
theorem d_int {i j pos} : PE' X c .st (.Constant (.int i) j pos) (eI i) := cst_of pe_int fun _ => .int i
theorem d_bl {i j pos} : PE' X c .st (.Constant (.bool i) j pos) (eB i) := cst_of pe_bl fun _ => .bl i
theorem d_non {j pos} : PE' X c .st (.Constant .none j pos) eN := cst_of pe_non fun _ => .non
def eV (i : Nat) : FE := fun S => match S[i]? with
  | some (some ⟨false, d⟩) => .ok d
  | _ => .fail
def eW (i : Nat) : FE := fun S => match S[i]? with
  | some (some ⟨_, d⟩) => .ok d
  | _ => .fail
theorem d_v (i : Nat) {x : Str} {pos : Pos} (hN : X.N[i]? = some x := by rfl) (hv : Vis X.env.scope x := by first | exact Or.inl rfl | exact Or.inr (Or.inl rfl) | exact Or.inr (Or.inr rfl)) (hd : (x == ("__debug__" : Str)) = false := by decide)
    (hcd : (x == ("__classdict__" : Str)) = false := by decide) : PE' X c .st (.Name x pos) (eV i) :=
  peI (pe_var hN hv hd hcd) fun σ H Q ⟨G, S, r, p⟩ => by
    unfold eV at p
    split at p
    · rename_i d e
      obtain ⟨v, e1, q⟩ := r.fz i d e
      exact ⟨v, e1, p v G H (Step.refl r.st.gh) q⟩
    · exact p.elim
theorem d_w (i : Nat) {x : Str} {pos : Pos} (hN : X.N[i]? = some x := by rfl) (hv : Vis X.env.scope x := by first | exact Or.inl rfl | exact Or.inr (Or.inl rfl) | exact Or.inr (Or.inr rfl)) (hd : (x == ("__debug__" : Str)) = false := by decide)
    (hcd : (x == ("__classdict__" : Str)) = false := by decide) : PE' X c .bo (.Name x pos) (eW i) :=
  peI (pe_var hN hv hd hcd) fun σ H Q ⟨G, S, r, p⟩ => by
    unfold eW at p
    split at p
    · rename_i b d e
      cases b with
      | false =>
        obtain ⟨v, e1, q⟩ := r.fz i d e
        exact ⟨v, e1, p v G H (Step.refl r.st.gh) (.inl q)⟩
      | true =>
        obtain ⟨a, o, e1, hg, h0, ho, ct⟩ := r.ow i d e
        exact ⟨_, e1, p _ G H (Step.refl r.st.gh) (.inr ⟨a, o, rfl, ho, ct⟩)⟩
    · exact p.elim
theorem d_z {e : Expr} {f : FE} (h : PE' X c .fr e f) : PE' X c .st e f :=
  peI h fun σ H Q ⟨G, S, r, p⟩ => ⟨G, S, r, by
    cases e1 : f S with
    | ok d =>
      rw [e1] at p
      rintro v G' H' s ⟨a, o, rfl, hg, hn, ha, ct⟩
      exact p _ (upd G' a o) H' (s.frz ha hn hg) ((ct.mono (Ex.new hg)).rd upd_same)
    | exc x => rw [e1] at p; exact p
    | fail => rw [e1] at p; exact p⟩
def Op2 (X : Cx) (k : Kn) (f : Value → Value → Sem Value) (kd : Kd) (g : D → D → R D) : Prop :=
  ∃ r : R2, OpR X f r ∧ ∀ G H x y u v d, Ex G H → Now k G H x u → Now k G H y v → g x y = .ok d → ∀ Q : VK, (∀ w G' H', Step G H G' H' → Res k H G' H' d w kd → Q w H') → r u v H Q
variable {kd k1 k2 k3 : Kd} {a b : Expr} {f g h : FE} {pos : Pos}
def e2 (o : D → D → R D) (f g : FE) : FE := fun S => do
  let x ← f S
  let y ← g S
  (o x y).nox
theorem e2_go {o : D → D → R D} {σ : St} {H : Hp} {Q : VK} {r : R2} (hr : ∀ G H x y u v d, Ex G H → Now c.k G H x u → Now c.k G H y v → o x y = .ok d → ∀ Q : VK, (∀ w G' H', Step G H G' H' → Res c.k H G' H' d w kd → Q w H') → r u v H Q)
    (q : RdE c kd (e2 o f g) σ H Q) : RdE c k1 f σ H fun x H1 => RdE c k2 g σ H1 fun y H2 => r x y H2 Q := by
  obtain ⟨G, S, rel, p⟩ := q
  refine rdE_go (g := fun x => do let y ← g S; (o x y).nox) (Post := PostE c kd G S σ H Q) rel p (fun _ z => z) (fun z => z) fun d1 v1 G1 H1 s1 q1 p1 => ?_
  refine rdE_go (g := fun y => (o d1 y).nox) (Post := PostE c kd G S σ H Q) (rel.grow s1) p1 (fun _ z => z) (fun z => z) fun d2 v2 G2 H2 s2 q2 p2 => ?_
  cases e : o d1 d2 with
  | ok d =>
    rw [e] at p2
    exact hr G2 H2 d1 d2 v1 v2 d s2.gh (q1.now.grow s2) q2.now e Q fun w G3 H3 s3 q3 => p2 w G3 H3 ((s1.trans s2).trans s3) (q3.mono (s1.h.trans s2.h))
  | exc x => rw [e] at p2; exact p2.elim
  | fail => rw [e] at p2; exact p2.elim
theorem d_op {op : Operator} {o : D → D → R D} (ho : Op2 X c.k (binaryOp op) kd o) (ha : PE' X c k1 a f) (hb : PE' X c k2 b g) : PE' X c kd (.BinOp a op b pos) (e2 o f g) := by
  obtain ⟨r, h1, h2⟩ := ho
  exact peI (pe_op h1 ha hb) fun σ H Q q => e2_go h2 q
theorem d_cmp {op : CmpOp} {o : D → D → R D} (ho : Op2 X c.k (compareOp op) kd o) (ha : PE' X c k1 a f) (hb : PE' X c k2 b g) (hm : behindInMarks op b = false := by rfl) : PE' X c kd (.Compare a [op] [b] pos) (e2 o f g) := by
  obtain ⟨r, h1, h2⟩ := ho
  exact peI (pe_cmpR h1 ha hb hm) fun σ H Q q => e2_go h2 q
def Ix2 (X : Cx) (k : Kn) (g : D → D → R D) : Prop :=
  ∃ r : R2, IxR X r ∧ ∀ G H x y u v d, Ex G H → Now k G H x u → Now k G H y v → g x y = .ok d → ∀ Q : VK, (∀ w G' H', Step G H G' H' → Res k H G' H' d w .st → Q w H') → r u v H Q
theorem d_ix {o : D → D → R D} (ho : Ix2 X c.k o) (ha : PE' X c k1 a f) (hb : PE' X c k2 b g) (hi : PlainIx b := by exact fun _ _ => rfl) : PE' X c .st (.Subscript a b pos) (e2 o f g) := by
  obtain ⟨r, h1, h2⟩ := ho
  exact peI (pe_ix h1 ha hb hi) fun σ H Q q => e2_go h2 q
def e1 (o : D → R D) (f : FE) : FE := fun S => do
  let x ← f S
  (o x).nox
theorem e1_go {o : D → R D} {σ : St} {H : Hp} {Q : VK} {r : V → Hp → VK → Prop} (hr : ∀ G H x u d, Ex G H → Now c.k G H x u → o x = .ok d → ∀ Q : VK, (∀ w G' H', Step G H G' H' → Res c.k H G' H' d w kd → Q w H') → r u H Q)
    (q : RdE c kd (e1 o f) σ H Q) : RdE c k1 f σ H fun x H1 => r x H1 Q := by
  obtain ⟨G, S, rel, p⟩ := q
  refine rdE_go (g := fun x => (o x).nox) (Post := PostE c kd G S σ H Q) rel p (fun _ z => z) (fun z => z) fun d1 v1 G1 H1 s1 q1 p1 => ?_
  cases e : o d1 with
  | ok d =>
    rw [e] at p1
    exact hr G1 H1 d1 v1 d s1.gh q1.now e Q fun w G3 H3 s3 q3 => p1 w G3 H3 (s1.trans s3) (q3.mono s1.h)
  | exc x => rw [e] at p1; exact p1.elim
  | fail => rw [e] at p1; exact p1.elim
def Un1 (X : Cx) (k : Kn) (f : Value → Sem Value) (g : D → R D) : Prop :=
  ∃ r : V → Hp → VK → Prop, UnR X f r ∧ ∀ G H x u d, Ex G H → Now k G H x u → g x = .ok d → ∀ Q : VK, (∀ w G' H', Step G H G' H' → Res k H G' H' d w .st → Q w H') → r u H Q
theorem d_un {op : UnaryOp} {o : D → R D} (ho : Un1 X c.k (unaryOp op) o) (ha : PE' X c k1 a f) : PE' X c .st (.UnaryOp op a pos) (e1 o f) := by
  obtain ⟨r, h1, h2⟩ := ho
  exact peI (pe_un h1 ha) fun σ H Q q => e1_go h2 q
def aN : FA := fun _ => .ok []
def aC (f : FE) (g : FA) : FA := fun S => do
  let x ← f S
  let xs ← g S
  .ok (x :: xs)
theorem d_an {b : Bool} : PA' X c b [] aN := paI pa_nil fun σ H Q ⟨G, S, r, p⟩ => p [] G H (Step.refl r.st.gh) (by cases b <;> exact .nil)
theorem d_ac {e : Expr} {es : List Expr} {ga : FA} (ha : PE' X c .st e f) (hr : PA' X c false es ga) (hs : starEach (e :: es) X.env = (false, eval e X.env) :: starEach es X.env := by rfl) : PA' X c false (e :: es) (aC f ga) :=
  paI (pa_cons ha hr hs) fun σ H Q ⟨G, S, rel, p⟩ => by
    refine rdE_go (g := fun x => do let xs ← ga S; .ok (x :: xs)) (Post := PostA c false G S σ H Q) rel p (fun _ z => z) (fun z => z) fun d1 v1 G1 H1 s1 q1 p1 => ?_
    refine rdA_go (g := fun xs => .ok (d1 :: xs)) (Post := PostA c false G S σ H Q) (rel.grow s1) p1 (fun _ z => z) (fun z => z) fun d2 v2 G2 H2 s2 q2 p2 => ?_
    exact p2 _ G2 H2 (s1.trans s2) (.cons (RD.mono s2.g q1) q2)
theorem d_ab {e : Expr} {es : List Expr} {ga : FA} (ha : PE' X c k1 e f) (hr : PA' X c true es ga) (hs : starEach (e :: es) X.env = (false, eval e X.env) :: starEach es X.env := by rfl) : PA' X c true (e :: es) (aC f ga) :=
  paI (pa_cons ha hr hs) fun σ H Q ⟨G, S, rel, p⟩ => by
    refine rdE_go (g := fun x => do let xs ← ga S; .ok (x :: xs)) (Post := PostA c true G S σ H Q) rel p (fun _ z => z) (fun z => z) fun d1 v1 G1 H1 s1 q1 p1 => ?_
    refine rdA_go (g := fun xs => .ok (d1 :: xs)) (Post := PostA c true G S σ H Q) (rel.grow s1) p1 (fun _ z => z) (fun z => z) fun d2 v2 G2 H2 s2 q2 p2 => ?_
    exact p2 _ G2 H2 (s1.trans s2) (.cons (q1.now.grow s2) q2)
def mkT (xs : List D) : R D := if xs.length ≤ sizeLine then .ok (.tup xs) else .fail
def mkL (xs : List D) : R D := if xs.length ≤ sizeLine then .ok (.lst xs) else .fail
def eT (g : FA) : FE := fun S => g S >>= mkT
def eL (g : FA) : FE := fun S => g S >>= mkL
theorem d_tup {es : List Expr} {ga : FA} {x1} (h : PA' X c false es ga) : PE' X c .st (.Tuple es x1 pos) (eT ga) :=
  peI (pe_tup h) fun σ H Q ⟨G, S, rel, p⟩ => by
    refine rdA_go (g := mkT) (Post := PostE c .st G S σ H Q) rel p (fun _ z => z) (fun z => z) fun ds vs G1 H1 s1 q1 p1 => ?_
    have q1 : RDs c.k G1 ds vs := q1
    by_cases hl : ds.length ≤ sizeLine
    · unfold mkT at p1; rw [if_pos hl] at p1
      exact ⟨by rw [← q1.length]; exact hl, fun p hp => p1 _ _ _ (s1.trans (Step.new s1.gh hp)) (.tup (SqU.of upd_same) (q1.mono (Ex.new (s1.gh.free hp))))⟩
    · unfold mkT at p1; rw [if_neg hl] at p1; exact p1.elim
theorem d_lst {es : List Expr} {ga : FA} (h : PA' X c false es ga) : PE' X c .fr (.List es pos) (eL ga) :=
  peI (pe_lst h) fun σ H Q ⟨G, S, rel, p⟩ => by
    refine rdA_go (g := mkL) (Post := PostE c .fr G S σ H Q) rel p (fun _ z => z) (fun z => z) fun ds vs G1 H1 s1 q1 p1 => ?_
    have q1 : RDs c.k G1 ds vs := q1
    by_cases hl : ds.length ≤ sizeLine
    · unfold mkL at p1; rw [if_pos hl] at p1
      exact ⟨by rw [← q1.length]; exact hl, fun p hp => p1 _ _ _ (s1.trans (Step.new' s1.gh hp)) ⟨p, _, rfl, s1.gh.free hp, s1.h.free hp, upd_same, .lst q1⟩⟩
    · unfold mkL at p1; rw [if_neg hl] at p1; exact p1.elim
def ClR (X : Cx) (k : Kn) (f : Value) (kd : Kd) (g : List D → R D) : Prop :=
  ∃ r : List V → Hp → VK → Prop, CallR X f r ∧ ∀ G H ds vs d, Ex G H → Nows k G H ds vs → g ds = .ok d → ∀ Q : VK, (∀ w G' H', Step G H G' H' → Res k H G' H' d w kd → Q w H') → r vs H Q
def eC (o : List D → R D) (g : FA) : FE := fun S => do
  let xs ← g S
  (o xs).nox
theorem eC_go {ba : Bool} {ga : FA} {o : List D → R D} {σ : St} {H : Hp} {Q : VK} {r : List V → Hp → VK → Prop} (hr : ∀ G H ds vs d, Ex G H → Nows c.k G H ds vs → o ds = .ok d → ∀ Q : VK, (∀ w G' H', Step G H G' H' → Res c.k H G' H' d w kd → Q w H') → r vs H Q)
    (q : RdE c kd (eC o ga) σ H Q) : RdA c ba ga σ H fun x H1 => r x H1 Q := by
  obtain ⟨G, S, rel, p⟩ := q
  refine rdA_go (g := fun x => (o x).nox) (Post := PostE c kd G S σ H Q) rel p (fun _ z => z) (fun z => z) fun d1 v1 G1 H1 s1 q1 p1 => ?_
  cases e : o d1 with
  | ok d =>
    rw [e] at p1
    exact hr G1 H1 d1 v1 d s1.gh q1.nows e Q fun w G3 H3 s3 q3 => p1 w G3 H3 (s1.trans s3) (q3.mono s1.h)
  | exc x => rw [e] at p1; exact p1.elim
  | fail => rw [e] at p1; exact p1.elim
theorem d_bltn {ba : Bool} {x : Str} {p : Pos} {e : Expr} {es : List Expr} {ga : FA} {id : String} {o : List D → R D} (ho : ClR X c.k (.builtin id) kd o) (hm : X.mg x = none) (ha : PA' X c ba (e :: es) ga) (hv : bootBuiltins x = some (.builtin id) := by decide +kernel) (hg : Gl X x := by rfl)
    (hn : x ≠ "__name__" := by decide) (hdb : (x == ("__debug__" : Str)) = false := by decide)
    (hs : starEach (e :: es) X.env = (false, eval e X.env) :: starEach es X.env := by rfl) (hs2 : ((backTo pos (starEach es X.env)).any fun x => x.1) = false := by rfl) :
    PE' X c kd (.Call (.Name x p) (e :: es) [] pos) (eC o ga) := by
  obtain ⟨r, h1, h2⟩ := ho
  exact peI (pe_callB h1 hg hm hv ha hn hdb hs hs2) fun σ H Q q => eC_go h2 q
theorem d_btyp {ba : Bool} {x : Str} {p : Pos} {e : Expr} {es : List Expr} {ga : FA} {id : String} {o : List D → R D} (ho : ClR X c.k (.type id) kd o) (hm : X.mg x = none) (ha : PA' X c ba (e :: es) ga) (hv : bootBuiltins x = some (.type id) := by decide +kernel) (hg : Gl X x := by rfl)
    (hn : x ≠ "__name__" := by decide) (hdb : (x == ("__debug__" : Str)) = false := by decide)
    (hs : starEach (e :: es) X.env = (false, eval e X.env) :: starEach es X.env := by rfl) (hs2 : ((backTo pos (starEach es X.env)).any fun x => x.1) = false := by rfl) :
    PE' X c kd (.Call (.Name x p) (e :: es) [] pos) (eC o ga) := by
  obtain ⟨r, h1, h2⟩ := ho
  exact peI (pe_callTy h1 hg hm hv ha hn hdb hs hs2) fun σ H Q q => eC_go h2 q
end
end M
set_option Elab.async false
set_option linter.all false
set_option maxRecDepth 100000
set_option maxHeartbeats 4000000
namespace M
open PySem L2
mutual
def D.toP : D → PyData
  | .bl b => .bool b
  | .int i => .int i
  | .str x => .str x
  | .tup xs => .tuple (D.toPs xs)
  | .lst xs => .list (D.toPs xs)
  | _ => .none
def D.toPs : List D → List PyData
  | [] => []
  | x :: xs => x.toP :: D.toPs xs
end
mutual
def deq : D → D → Bool
  | .non, .non => true
  | .bl a, .bl b => a == b
  | .bl a, .int j => (if a then 1 else 0) == j
  | .int i, .bl b => i == (if b then 1 else 0)
  | .int i, .int j => i == j
  | .str x, .str y => x == y
  | .lst xs, .lst ys => deqs xs ys
  | .tup xs, .tup ys => deqs xs ys
  | _, _ => false
def deqs : List D → List D → Bool
  | [], [] => true
  | x :: xs, y :: ys => deq x y && deqs xs ys
  | _, _ => false
end
mutual
def dok : Nat → D → Bool
  | _, .non => true
  | _, .bl _ => true
  | _, .int _ => true
  | _, .str x => PyData.strOk x
  | n + 1, .tup xs => doks n xs
  | n + 1, .lst xs => doks n xs
  | _, _ => false
def doks : Nat → List D → Bool
  | _, [] => true
  | n, x :: xs => dok n x && doks n xs
end
mutual
theorem dok_lay : ∀ (n : Nat) (d : D), dok n d = true → PyData.canLay0 d.toP = true ∧ PyData.depth d.toP ≤ n
  | n, .non, _ => by simp [D.toP, PyData.canLay0, PyData.depth]
  | n, .bl _, _ => by simp [D.toP, PyData.canLay0, PyData.depth]
  | n, .int _, _ => by simp [D.toP, PyData.canLay0, PyData.depth]
  | n, .str x, h => by
    cases n <;> (simp only [dok] at h; simp [D.toP, PyData.canLay0, PyData.depth, h])
  | n + 1, .tup xs, h => by
    simp only [dok] at h
    have := doks_lay n xs h
    simp only [D.toP, PyData.canLay0, PyData.depth]
    exact ⟨this.1, by omega⟩
  | n + 1, .lst xs, h => by
    simp only [dok] at h
    have := doks_lay n xs h
    simp only [D.toP, PyData.canLay0, PyData.depth]
    exact ⟨this.1, by omega⟩
  | 0, .tup xs, h => by simp [dok] at h
  | 0, .lst xs, h => by simp [dok] at h
  | n, .ty _, h => by cases n <;> simp [dok] at h
  | n, .dic _ _, h => by cases n <;> simp [dok] at h
  | n, .dit _ _, h => by cases n <;> simp [dok] at h
  | n, .dkf _ _, h => by cases n <;> simp [dok] at h
  | n, .obj _ _, h => by cases n <;> simp [dok] at h
  | n, .scr _, h => by cases n <;> simp [dok] at h
  | n, .cls _, h => by cases n <;> simp [dok] at h
theorem doks_lay : ∀ (n : Nat) (ds : List D), doks n ds = true → PyData.canLayAll0 (D.toPs ds) = true ∧ PyData.depthAll (D.toPs ds) ≤ n
  | n, [], _ => by simp [D.toPs, PyData.canLayAll0, PyData.depthAll]
  | n, x :: xs, h => by
    simp only [doks, Bool.and_eq_true] at h
    have a := dok_lay n x h.1
    have b := doks_lay n xs h.2
    simp only [D.toPs, PyData.canLayAll0, PyData.depthAll, Bool.and_eq_true]
    exact ⟨⟨a.1, b.1⟩, by omega⟩
end
mutual
theorem deq_eqv : ∀ (n m : Nat) (x y : D), dok n x = true → dok m y = true → PyData.eqv x.toP y.toP = deq x y
  | n, m, .non, y, _, h => by cases y <;> first | (simp [D.toP, PyData.eqv, deq]; done) | (cases m <;> simp [dok] at h)
  | n, m, .bl _, y, _, h => by cases y <;> first | (simp [D.toP, PyData.eqv, deq]; done) | (cases m <;> simp [dok] at h)
  | n, m, .int _, y, _, h => by cases y <;> first | (simp [D.toP, PyData.eqv, deq]; done) | (cases m <;> simp [dok] at h)
  | n, m, .str _, y, _, h => by cases y <;> first | (simp [D.toP, PyData.eqv, deq]; done) | (cases m <;> simp [dok] at h)
  | n + 1, m, .tup xs, y, h1, h => by
    cases y with
    | tup ys =>
      cases m with
      | zero => simp [dok] at h
      | succ m =>
        simp only [dok] at h h1
        simp only [D.toP, PyData.eqv, deq]
        exact deqs_eqv n m xs ys h1 h
    | _ => first | (simp [D.toP, PyData.eqv, deq]; done) | (cases m <;> simp [dok] at h)
  | n + 1, m, .lst xs, y, h1, h => by
    cases y with
    | lst ys =>
      cases m with
      | zero => simp [dok] at h
      | succ m =>
        simp only [dok] at h h1
        simp only [D.toP, PyData.eqv, deq]
        exact deqs_eqv n m xs ys h1 h
    | _ => first | (simp [D.toP, PyData.eqv, deq]; done) | (cases m <;> simp [dok] at h)
  | 0, _, .tup xs, _, h, _ => by simp [dok] at h
  | 0, _, .lst xs, _, h, _ => by simp [dok] at h
  | n, _, .ty _, _, h, _ => by cases n <;> simp [dok] at h
  | n, _, .dic _ _, _, h, _ => by cases n <;> simp [dok] at h
  | n, _, .dit _ _, _, h, _ => by cases n <;> simp [dok] at h
  | n, _, .dkf _ _, _, h, _ => by cases n <;> simp [dok] at h
  | n, _, .obj _ _, _, h, _ => by cases n <;> simp [dok] at h
  | n, _, .scr _, _, h, _ => by cases n <;> simp [dok] at h
  | n, _, .cls _, _, h, _ => by cases n <;> simp [dok] at h
theorem deqs_eqv : ∀ (n m : Nat) (xs ys : List D), doks n xs = true → doks m ys = true → PyData.eqvAll (D.toPs xs) (D.toPs ys) = deqs xs ys
  | n, m, [], [], _, _ => by simp [D.toPs, PyData.eqvAll, deqs]
  | n, m, [], _ :: _, _, _ => by simp [D.toPs, PyData.eqvAll, deqs]
  | n, m, _ :: _, [], _, _ => by simp [D.toPs, PyData.eqvAll, deqs]
  | n, m, x :: xs, y :: ys, h1, h2 => by
    simp only [doks, Bool.and_eq_true] at h1 h2
    simp only [D.toPs, PyData.eqvAll, deqs]
    rw [deq_eqv n m x y h1.1 h2.1, deqs_eqv n m xs ys h1.2 h2.2]
end
mutual
theorem RD.dp {k : Kn} {H : Hp} : ∀ {d : D} {v : V} (n : Nat), RD k H d v → dok n d = true → Dp k.K H v d.toP
  | _, _, _, .non, _ => by simp only [D.toP]; exact .non
  | _, _, _, .bl b, _ => by simp only [D.toP]; exact .bl b
  | _, _, _, .int b, _ => by simp only [D.toP]; exact .int b
  | _, _, _, .str b, _ => by simp only [D.toP]; exact .str b
  | _, _, n, .tup h r, e => by
    cases n with
    | zero => simp [dok] at e
    | succ n => simp only [dok] at e; simp only [D.toP]; exact .tup h.t (RDs.dp n r e)
  | _, _, n, .lst h r, e => by
    cases n with
    | zero => simp [dok] at e
    | succ n => simp only [dok] at e; simp only [D.toP]; exact .lst (SqL.of h) (RDs.dp n r e)
  | _, _, n, .ty _, e => by cases n <;> simp [dok] at e
  | _, _, n, .scr _, e => by cases n <;> simp [dok] at e
  | _, _, n, .cls _, e => by cases n <;> simp [dok] at e
  | _, _, n, .dic _ _ _, e => by cases n <;> simp [dok] at e
  | _, _, n, .dit _ _ _, e => by cases n <;> simp [dok] at e
  | _, _, n, .dkf _ _ _, e => by cases n <;> simp [dok] at e
  | _, _, n, .obj _ _ _, e => by cases n <;> simp [dok] at e
theorem RDs.dp {k : Kn} {H : Hp} : ∀ {ds : List D} {vs : List V} (n : Nat), RDs k H ds vs → doks n ds = true → DpAll k.K H vs (D.toPs ds)
  | _, _, _, .nil, _ => by simp only [D.toPs]; exact .nil
  | _, _, n, .cons a b, e => by
    simp only [doks, Bool.and_eq_true] at e
    simp only [D.toPs]
    exact .cons (RD.dp n a e.1) (RDs.dp n b e.2)
end
theorem dok_shaped {d : D} (h : dok 60 d = true) : SeqAt.shaped d.toP = true := by
  have := dok_lay 60 d h
  unfold SeqAt.shaped
  simp only [this.1, Bool.true_and, decide_eq_true_eq]
  omega
def eqD (a b : D) : R D := if dok 60 a && dok 60 b then .ok (.bl (deq a b)) else .fail
def neD (a b : D) : R D := if dok 60 a && dok 60 b then .ok (.bl (!deq a b)) else .fail
section
variable {X : Cx} {k : Kn}
theorem o_eq (hk : k.K = X.K) (hu : X.A.units + 64 < cLine) : Op2 X k (compareOp .Eq) .st eqD := by
  refine ⟨_, op_eqD hu, ?_⟩
  intro G H x y u v d e nx ny hg Q q
  unfold eqD at hg
  split at hg
  · rename_i h
    simp only [Bool.and_eq_true] at h
    cases hg
    refine ⟨x.toP, y.toP, hk ▸ (nx.rd e).dp 60 h.1, hk ▸ (ny.rd e).dp 60 h.2, dok_shaped h.1, dok_shaped h.2, ?_⟩
    rw [deq_eqv 60 60 x y h.1 h.2]
    exact q _ G H (Step.refl e) (.bl _)
  · cases hg
theorem o_ne (hk : k.K = X.K) (hu : X.A.units + 64 < cLine) : Op2 X k (compareOp .NotEq) .st neD := by
  refine ⟨_, op_neD hu, ?_⟩
  intro G H x y u v d e nx ny hg Q q
  unfold neD at hg
  split at hg
  · rename_i h
    simp only [Bool.and_eq_true] at h
    cases hg
    refine ⟨x.toP, y.toP, hk ▸ (nx.rd e).dp 60 h.1, hk ▸ (ny.rd e).dp 60 h.2, dok_shaped h.1, dok_shaped h.2, ?_⟩
    rw [deq_eqv 60 60 x y h.1 h.2]
    exact q _ G H (Step.refl e) (.bl _)
  · cases hg
def addD : D → D → R D
  | .int i, .int j => .ok (.int (i + j))
  | .str x, .str y => if x.length + y.length ≤ sizeLine then .ok (.str (x ++ y)) else .fail
  | .lst xs, .lst ys => if xs.length + ys.length ≤ sizeLine then .ok (.lst (xs ++ ys)) else .fail
  | .tup xs, .tup ys => if xs.length + ys.length ≤ sizeLine then .ok (.tup (xs ++ ys)) else .fail
  | _, _ => .fail
theorem o_add (hk : k.K = X.K) : Op2 X k (binaryOp .Add) .st addD := by
  refine ⟨_, op_add.or (op_add_str.or (op_cat.or op_catA)), ?_⟩
  intro G H x y u v d e nx ny hg Q q
  unfold addD at hg
  split at hg
  · cases hg; obtain rfl := nx.int; obtain rfl := ny.int
    exact .inl ⟨_, _, rfl, rfl, q _ G H (Step.refl e) (.int _)⟩
  · split at hg
    · rename_i hl
      cases hg; obtain rfl := nx.str; obtain rfl := ny.str
      exact .inr (.inl ⟨_, _, rfl, rfl, hl, q _ G H (Step.refl e) (.str _)⟩)
    · cases hg
  · split at hg
    · rename_i hl
      cases hg
      obtain ⟨a, vs, rfl, ha, ra⟩ := nx.lst e
      obtain ⟨b, us, rfl, hb, rb⟩ := ny.lst e
      exact .inr (.inr (.inl ⟨a, b, vs, us, rfl, rfl, ha, hb, by rw [← ra.length, ← rb.length]; exact hl, fun p hp => q _ _ _ (Step.new e hp) (.lst upd_same ((ra.append rb).mono (Ex.new (e.free hp))))⟩))
    · cases hg
  · split at hg
    · rename_i hl
      cases hg
      obtain ⟨a, vs, rfl, ha, ra⟩ := nx.tup
      obtain ⟨b, us, rfl, hb, rb⟩ := ny.tup
      refine .inr (.inr (.inr ⟨a, b, vs, us, rfl, rfl, hk ▸ e.sqT ha.t, hk ▸ e.sqT hb.t, by rw [← ra.length, ← rb.length]; exact hl, fun z => ?_, fun z1 z2 => ?_, fun _ _ p hp => q _ _ _ (Step.new e hp) (.tup (SqU.of upd_same) ((ra.append rb).mono (Ex.new (e.free hp))))⟩))
      · subst z; cases ra; exact q _ _ _ (Step.refl e) (.tup hb rb)
      · subst z2; cases rb; rw [List.append_nil] at q; exact q _ _ _ (Step.refl e) (.tup ha ra)
    · cases hg
  · cases hg
theorem o_int {f : Value → Value → Sem Value} {C : Int → Int → Prop} [∀ i j, Decidable (C i j)] {gv : Int → Int → V} {gd : Int → Int → D} (h : OpR X f (rI C gv)) (r : ∀ i j G, RD k G (gd i j) (gv i j)) :
    Op2 X k f .st (fun x y => match x, y with | .int i, .int j => if C i j then .ok (gd i j) else .fail | _, _ => .fail) := by
  refine ⟨_, h, ?_⟩
  intro G H x y u v d e nx ny hg Q q
  dsimp only at hg
  split at hg
  · split at hg
    · rename_i hc
      cases hg; obtain rfl := nx.int; obtain rfl := ny.int
      exact ⟨_, _, rfl, rfl, hc, q _ G H (Step.refl e) (r _ _ _)⟩
    · cases hg
  · cases hg
theorem o_int0 {f : Value → Value → Sem Value} {gv : Int → Int → V} {gd : Int → Int → D} (h : OpR X f (rI0 gv)) (r : ∀ i j G, RD k G (gd i j) (gv i j)) :
    Op2 X k f .st (fun x y => match x, y with | .int i, .int j => .ok (gd i j) | _, _ => .fail) := by
  refine ⟨_, h, ?_⟩
  intro G H x y u v d e nx ny hg Q q
  dsimp only at hg
  split at hg
  · cases hg; obtain rfl := nx.int; obtain rfl := ny.int
    exact ⟨_, _, rfl, rfl, q _ G H (Step.refl e) (r _ _ _)⟩
  · cases hg
def subD : D → D → R D := fun x y => match x, y with | .int i, .int j => .ok (.int (i - j)) | _, _ => .fail
theorem o_sub : Op2 X k (binaryOp .Sub) .st subD := o_int0 op_sub fun _ _ _ => .int _
instance (i j : Int) : Decidable (CMul i j) := by unfold CMul; exact inferInstance
instance (i j : Int) : Decidable (CMulX i j) := by unfold CMulX; exact inferInstance
instance (i j : Int) : Decidable (CDiv i j) := by unfold CDiv; exact inferInstance
instance (i j : Int) : Decidable (CPow i j) := by unfold CPow; exact inferInstance
def fdivD : D → D → R D := fun x y => match x, y with | .int i, .int j => if CDiv i j then .ok (.int (i / j)) else .fail | _, _ => .fail
theorem o_fdiv : Op2 X k (binaryOp .FloorDiv) .st fdivD := o_int op_fdiv fun _ _ _ => .int _
def modD : D → D → R D := fun x y => match x, y with | .int i, .int j => if 0 < j then .ok (.int (i % j)) else .fail | _, _ => .fail
theorem o_mod : Op2 X k (binaryOp .Mod) .st modD := o_int (C := fun _ j => 0 < j) op_mod fun _ _ _ => .int _
def powD : D → D → R D := fun x y => match x, y with | .int i, .int j => if CPow i j then .ok (.int (i ^ j.toNat)) else .fail | _, _ => .fail
def mulD : D → D → R D
  | .int i, .int j => if CMul i j ∨ CMulX i j then .ok (.int (i * j)) else .fail
  | .lst xs, .int j => if -(2 ^ 63) ≤ j ∧ j < 2 ^ 63 ∧ xs.length * j.toNat ≤ sizeLine then .ok (.lst (List.replicate j.toNat xs).flatten) else .fail
  | .tup xs, .int j => if xs ≠ [] ∧ 2 ≤ j ∧ j ≤ 1000 ∧ xs.length ≤ 1000 then .ok (.tup (List.replicate j.toNat xs).flatten) else .fail
  | _, _ => .fail
theorem RDs.rep {G : Hp} {ds : List D} {vs : List V} (r : RDs k G ds vs) : ∀ n : Nat, RDs k G (List.replicate n ds).flatten (List.replicate n vs).flatten
  | 0 => by simpa using .nil
  | n + 1 => by rw [List.replicate_succ, List.replicate_succ, List.flatten_cons, List.flatten_cons]; exact r.append (RDs.rep r n)
theorem o_mul (hk : k.K = X.K) : Op2 X k (binaryOp .Mult) .st mulD := by
  refine ⟨_, (op_mul.or op_mulX).or (op_rep.or op_repT), ?_⟩
  intro G H x y u v d e nx ny hg Q q
  unfold mulD at hg
  split at hg
  · split at hg
    · rename_i hc
      cases hg; obtain rfl := nx.int; obtain rfl := ny.int
      rcases hc with hc | hc
      · exact .inl (.inl ⟨_, _, rfl, rfl, hc, q _ G H (Step.refl e) (.int _)⟩)
      · exact .inl (.inr ⟨_, _, rfl, rfl, hc, q _ G H (Step.refl e) (.int _)⟩)
    · cases hg
  · split at hg
    · rename_i hc
      cases hg; obtain rfl := ny.int
      obtain ⟨a, vs, rfl, ha, ra⟩ := nx.lst e
      exact .inr (.inl ⟨a, _, vs, rfl, rfl, ha, hc.1, hc.2.1, by rw [← ra.length]; exact hc.2.2, fun p hp => q _ _ _ (Step.new e hp) (.lst upd_same ((ra.rep _).mono (Ex.new (e.free hp))))⟩)
    · cases hg
  · split at hg
    · rename_i hc
      cases hg; obtain rfl := ny.int
      obtain ⟨a, vs, rfl, ha, ra⟩ := nx.tup
      exact .inr (.inr ⟨a, _, vs, rfl, rfl, hk ▸ e.sqT ha.t, fun z => hc.1 (by subst z; cases ra; rfl), hc.2.1, hc.2.2.1, by rw [← ra.length]; exact hc.2.2.2, fun p hp => q _ _ _ (Step.new e hp) (.tup (SqU.of upd_same) ((ra.rep _).mono (Ex.new (e.free hp))))⟩)
    · cases hg
  · cases hg
def ltD : D → D → R D := fun x y => match x, y with | .int i, .int j => .ok (.bl (decide (i < j))) | _, _ => .fail
theorem o_lt : Op2 X k (compareOp .Lt) .st ltD := o_int0 op_lt fun _ _ _ => .bl _
def leD : D → D → R D := fun x y => match x, y with | .int i, .int j => .ok (.bl (decide (i ≤ j))) | _, _ => .fail
theorem o_le : Op2 X k (compareOp .LtE) .st leD := o_int0 op_le fun _ _ _ => .bl _
def gtD : D → D → R D := fun x y => match x, y with | .int i, .int j => .ok (.bl (decide (j < i))) | _, _ => .fail
theorem o_gt : Op2 X k (compareOp .Gt) .st gtD := o_int0 op_gt fun _ _ _ => .bl _
def geD : D → D → R D := fun x y => match x, y with | .int i, .int j => .ok (.bl (decide (j ≤ i))) | _, _ => .fail
theorem o_ge : Op2 X k (compareOp .GtE) .st geD := o_int0 op_ge fun _ _ _ => .bl _
def negD : D → R D := fun x => match x with | .int i => .ok (.int (-i)) | _ => .fail
theorem o_neg : Un1 X k (unaryOp .USub) negD := by
  refine ⟨_, un_neg, ?_⟩
  intro G H x u d e nx hg Q q
  unfold negD at hg
  split at hg
  · cases hg; obtain rfl := nx.int
    exact ⟨_, rfl, q _ G H (Step.refl e) (.int _)⟩
  · cases hg
def D.isNon : D → Bool
  | .non => true
  | _ => false
def isD : D → D → R D := fun x y => match y with | .non => .ok (.bl x.isNon) | _ => .fail
theorem Now.isNon {G H : Hp} {x : D} {u : V} (n : Now k G H x u) : decide (u = V.non) = x.isNon := by
  rcases n with n | ⟨a, o, rfl, h, ct⟩
  · cases n <;> simp [D.isNon]
  · cases ct <;> simp [D.isNon]
theorem o_is : Op2 X k (compareOp .Is) .st isD := by
  refine ⟨_, op_isN, ?_⟩
  intro G H x y u v d e nx ny hg Q q
  unfold isD at hg
  split at hg
  · cases hg; obtain rfl := ny.non
    exact ⟨rfl, by rw [nx.isNon]; exact q _ G H (Step.refl e) (.bl _)⟩
  · cases hg
def isntD : D → D → R D := fun x y => match y with | .non => .ok (.bl (!x.isNon)) | _ => .fail
theorem o_isnt : Op2 X k (compareOp .IsNot) .st isntD := by
  refine ⟨_, op_notN, ?_⟩
  intro G H x y u v d e nx ny hg Q q
  unfold isntD at hg
  split at hg
  · cases hg; obtain rfl := ny.non
    exact ⟨rfl, by rw [nx.isNon]; exact q _ G H (Step.refl e) (.bl _)⟩
  · cases hg
theorem RDs.atI {G : Hp} {ds : List D} {vs : List V} {i : Int} {d : D} (r : RDs k G ds vs) (h : L2.atI ds i = some d) : ∃ v, L2.atI vs i = some v ∧ RD k G d v := by
  unfold L2.atI at h ⊢
  rw [← r.length]
  cases e : ixN ds.length i with
  | none => rw [e] at h; cases h
  | some j => rw [e] at h; exact r.get h
def ixD : D → D → R D
  | .lst xs, .int i => match L2.atI xs i with | some d => .ok d | none => .fail
  | .tup xs, .int i => match L2.atI xs i with | some d => .ok d | none => .fail
  | .scr ns, .int i => match L2.atI ns i with | some d => .ok (.int d) | none => .fail
  | .str x, .int i => if x.length ≤ sizeLine then match L2.atI x.cps.toList i with | some c => .ok (.str ⟨#[c]⟩) | none => .fail else .fail
  | _, _ => .fail
theorem IxR.or {r r' : R2} (h : IxR X r) (h' : IxR X r') : IxR X (fun x y H Q => r x y H Q ∨ r' x y H Q) := fun v sl pins s σ H x y u w Q I rx ry q hs => by
  rcases q with q | q
  · exact h v sl pins s σ H x y u w Q I rx ry q hs
  · exact h' v sl pins s σ H x y u w Q I rx ry q hs
theorem atI_map {α β : Type} (f : α → β) (xs : List α) (i : Int) : L2.atI (xs.map f) i = (L2.atI xs i).map f := by
  unfold L2.atI
  rw [List.length_map]
  cases ixN xs.length i with
  | none => rfl
  | some j => simp
theorem o_ix (hk : k.K = X.K) : Ix2 X k ixD := by
  refine ⟨_, IxR.or ix_list (IxR.or ix_tup ix_str), ?_⟩
  intro G H x y u v d e nx ny hg Q q
  unfold ixD at hg
  split at hg
  · split at hg
    · rename_i d' hd
      cases hg; obtain rfl := ny.int
      obtain ⟨a, vs, rfl, ha, ra⟩ := nx.lst e
      obtain ⟨w, h1, h2⟩ := ra.atI hd
      exact .inl ⟨a, vs, _, w, rfl, rfl, SqL.of ha, h1, q _ G H (Step.refl e) h2⟩
    · cases hg
  · split at hg
    · rename_i d' hd
      cases hg; obtain rfl := ny.int
      obtain ⟨a, vs, rfl, ha, ra⟩ := nx.tup
      obtain ⟨w, h1, h2⟩ := ra.atI hd
      exact .inr (.inl ⟨a, vs, _, w, rfl, rfl, hk ▸ e.sqT ha.t, h1, q _ G H (Step.refl e) h2⟩)
    · cases hg
  · split at hg
    · rename_i d' hd
      cases hg; obtain rfl := ny.int
      obtain ⟨a, rfl, ha⟩ := nx.scr
      exact .inl ⟨a, _, _, .int d', rfl, rfl, hk ▸ e.sqL ha, by rw [atI_map, hd]; rfl, q _ G H (Step.refl e) (.int _)⟩
    · cases hg
  · split at hg
    · rename_i hl
      split at hg
      · rename_i d' hd
        cases hg; obtain rfl := ny.int; obtain rfl := nx.str
        exact .inr (.inr ⟨_, _, d', rfl, rfl, hl, hd, q _ G H (Step.refl e) (.str _)⟩)
      · cases hg
    · cases hg
  · cases hg
end
end M
set_option Elab.async false
set_option linter.all false
set_option maxRecDepth 100000
set_option maxHeartbeats 4000000
namespace M
open PySem L2
section
variable {X : Cx} {c : Cf} {kd k1 k2 k3 : Kd} {a b e : Expr} {f g h : FE} {pos : Pos}
def toB : D → R Bool
  | .bl b => .ok b
  | _ => .fail
def tB' (f : FE) : FT := fun S => f S >>= toB
def truD : D → R Bool
  | .non => .ok false
  | .bl b => .ok b
  | .int i => .ok (i != 0)
  | .str x => if x.length ≤ sizeLine then .ok (x.length != 0) else .fail
  | .tup xs => .ok (!xs.isEmpty)
  | .lst xs => .ok (!xs.isEmpty)
  | .dic ks _ => .ok (!ks.isEmpty)
  | _ => .fail
def tT' (f : FE) : FT := fun S => f S >>= truD
theorem Now.toB {k : Kn} {G H : Hp} {d : D} {v : V} {b : Bool} (n : Now k G H d v) (h : toB d = .ok b) : v = .bl b := by
  cases d <;> simp only [M.toB] at h <;> first | (cases h; done) | (cases h; exact n.bl)
theorem Nows.isEmpty {k : Kn} {G : Hp} {ds : List D} {vs : List V} (r : RDs k G ds vs) : (!ds.isEmpty) = !vs.isEmpty := by
  cases r <;> rfl
theorem Now.tru {k : Kn} {G H : Hp} {d : D} {v : V} {b : Bool} (e : Ex G H) (n : Now k G H d v) (h : truD d = .ok b) : TruV k.K v H b := by
  unfold truD at h
  split at h
  · cases h; obtain rfl := n.non; rfl
  · cases h; obtain rfl := n.bl; rfl
  · cases h; obtain rfl := n.int; rfl
  · split at h
    · rename_i hl
      cases h; obtain rfl := n.str
      exact ⟨hl, by simp [bne, BEq.beq]⟩
    · cases h
  · cases h; obtain ⟨p, vs, rfl, hp, r⟩ := n.tup
    exact .inr (.inl ⟨vs, e.sqT hp.t, Nows.isEmpty r⟩)
  · cases h; obtain ⟨p, vs, rfl, hp, r⟩ := n.lst e
    exact .inl ⟨vs, SqL.of hp, Nows.isEmpty r⟩
  · cases h; obtain ⟨p, vs, rfl, hp, l, r⟩ := n.dic e
    refine .inr (.inr ⟨_, hp, ?_⟩)
    have l2 := r.length
    rename_i ks ds
    cases ks with
    | nil => rfl
    | cons x xs =>
      cases vs with
      | nil => simp at l2; subst l2; simp at l
      | cons y ys => rfl
  · cases h
theorem d_tt {kd : Kd} (hk : c.k.K = X.K) (ha : PE' X c kd a f) (he : ∀ whole, isTrue a X.env whole = (do let v ← whole; standAt a.pos; holding [v] (truthy v)) := by intro _; rfl) : PT' X c a (tT' f) :=
  ptI (pt_truth ha he) fun σ H Q ⟨G, S, rel, p⟩ => by
    refine rdE_go (g := truD) (Post := PostT c G S σ H Q) rel p (fun _ z => z) (fun z => z) fun d v G' H' s q p1 => ?_
    cases e1 : truD d with
    | ok b => rw [e1] at p1; exact ⟨b, hk ▸ q.now.tru s.gh e1, p1 G' H' s⟩
    | exc x => cases d <;> simp only [truD] at e1 <;> first | (cases e1; done) | (split at e1 <;> cases e1)
    | fail => rw [e1] at p1; exact p1.elim
theorem tB_go {t : TE} {σ : St} {H : Hp} {Q : Bool → Hp → Prop} (ht : ∀ σ H Q, RdE c .st f σ H Q → t σ H Q) (q : RdT c (tB' f) σ H Q) : t σ H fun x H' => ∃ k, x = .bl k ∧ Q k H' := by
  obtain ⟨G, S, rel, p⟩ := q
  refine ht σ H _ (rdE_go (g := toB) (Post := PostT c G S σ H Q) rel p (fun _ z => z) (fun z => z) fun d v G' H' s q p1 => ?_)
  cases e1 : toB d with
  | ok b => rw [e1] at p1; exact ⟨b, q.now.toB e1, p1 G' H' s⟩
  | exc x => cases d <;> simp only [toB] at e1 <;> cases e1
  | fail => rw [e1] at p1; exact p1.elim
theorem d_tc {op : CmpOp} {o : D → D → R D} (ho : Op2 X c.k (compareOp op) .st o) (ha : PE' X c k1 a f) (hb : PE' X c k2 b g) (hm : behindInMarks op b = false := by rfl) : PT' X c (.Compare a [op] [b] pos) (tB' (e2 o f g)) := by
  obtain ⟨r, h1, h2⟩ := ho
  exact ptI (pt_cmpR h1 ha hb hm) fun σ H Q q => tB_go (t := tOp r (RdE c k1 f) (RdE c k2 g)) (fun σ H Q q => e2_go h2 q) q
def e3 (o o' : D → D → R D) (f g h : FE) : FE := fun S => do
  let x ← f S
  let y ← g S
  let b ← (o x y).nox
  let b ← toB b
  if b then do
    let z ← h S
    (o' y z).nox
  else .ok (.bl false)
theorem e3_go {o o' : D → D → R D} {r r' : R2} {σ : St} {H : Hp} {Q : VK} (hr : ∀ G H x y u v d, Ex G H → Now c.k G H x u → Now c.k G H y v → o x y = .ok d → ∀ Q : VK, (∀ w G' H', Step G H G' H' → Res c.k H G' H' d w .st → Q w H') → r u v H Q)
    (hr' : ∀ G H x y u v d, Ex G H → Now c.k G H x u → Now c.k G H y v → o' x y = .ok d → ∀ Q : VK, (∀ w G' H', Step G H G' H' → Res c.k H G' H' d w .st → Q w H') → r' u v H Q)
    (q : RdE c .st (e3 o o' f g h) σ H Q) : tChain r r' (RdE c k1 f) (RdE c k2 g) (RdE c k3 h) σ H Q := by
  obtain ⟨G, S, rel, p⟩ := q
  refine rdE_go (g := fun x => do let y ← g S; let b ← (o x y).nox; let b ← toB b; if b then do { let z ← h S; (o' y z).nox } else .ok (.bl false)) (Post := PostE c .st G S σ H Q) rel p (fun _ z => z) (fun z => z) fun d1 v1 G1 H1 s1 q1 p1 => ?_
  refine rdE_go (g := fun y => do let b ← (o d1 y).nox; let b ← toB b; if b then do { let z ← h S; (o' y z).nox } else .ok (.bl false)) (Post := PostE c .st G S σ H Q) (rel.grow s1) p1 (fun _ z => z) (fun z => z) fun d2 v2 G2 H2 s2 q2 p2 => ?_
  cases eo : o d1 d2 with
  | exc x => rw [eo] at p2; exact p2.elim
  | fail => rw [eo] at p2; exact p2.elim
  | ok db =>
    rw [eo] at p2
    refine hr G2 H2 d1 d2 v1 v2 db s2.gh (q1.now.grow s2) q2.now eo _ fun w G3 H3 s3 q3 => ?_
    cases eb : toB db with
    | exc x => cases db <;> simp only [toB] at eb <;> cases eb
    | fail => simp only [R.nox_ok, R.ok_bind, eb, R.fail_bind] at p2; exact p2.elim
    | ok kb =>
      simp only [R.nox_ok, R.ok_bind, eb] at p2
      refine ⟨kb, (Res.now (kd := .st) q3).toB eb, ?_⟩
      cases kb with
      | false =>
        rw [if_neg Bool.false_ne_true] at p2 ⊢
        exact p2 _ G3 H3 ((s1.trans s2).trans s3) (.bl _)
      | true =>
        rw [if_pos rfl] at p2 ⊢
        refine rdE_go (g := fun z => (o' d2 z).nox) (Post := PostE c .st G S σ H Q) (((rel.grow s1).grow s2).grow s3) p2 (fun _ z => z) (fun z => z) fun d4 v4 G4 H4 s4 q4 p4 => ?_
        cases eo' : o' d2 d4 with
        | exc x => rw [eo'] at p4; exact p4.elim
        | fail => rw [eo'] at p4; exact p4.elim
        | ok dr =>
          rw [eo'] at p4
          exact hr' G4 H4 d2 d4 v2 v4 dr s4.gh (q2.now.grow (s3.trans s4)) q4.now eo' Q fun w' G5 H5 s5 q5 => p4 w' G5 H5 ((((s1.trans s2).trans s3).trans s4).trans s5) q5
theorem d_tch {op op' : CmpOp} {cc : Expr} {o o' : D → D → R D} (ho : Op2 X c.k (compareOp op) .st o) (ho' : Op2 X c.k (compareOp op') .st o') (ha : PE' X c k1 a f) (hb : PE' X c k2 b g) (hc : PE' X c k3 cc h)
    (hm : lastMarks [op, op'] [b, cc] = false := by with_unfolding_all rfl) : PT' X c (.Compare a [op, op'] [b, cc] pos) (tB' (e3 o o' f g h)) := by
  obtain ⟨r, h1, h2⟩ := ho
  obtain ⟨r', h1', h2'⟩ := ho'
  exact ptI (pt_chain h1 h1' ha hb hc hm) fun σ H Q q => tB_go (t := tChain r r' (RdE c k1 f) (RdE c k2 g) (RdE c k3 h)) (fun σ H Q q => e3_go h2 h2' q) q
def tNo (t : FT) : FT := fun S => t S >>= fun b => .ok (!b)
def tA (t u : FT) : FT := fun S => t S >>= fun b => if b then u S else .ok false
def tO (t u : FT) : FT := fun S => t S >>= fun b => if b then .ok true else u S
variable {t u : FT}
theorem d_not (ha : PT' X c a t) : PT' X c (.UnaryOp .Not a pos) (tNo t) :=
  ptI (pt_not ha) fun σ H Q ⟨G, S, rel, p⟩ => rdT_go (g := fun b => .ok (!b)) (Post := PostT c G S σ H Q) rel p (fun _ z => z) (fun z => z) fun b G' H' s p1 => p1 G' H' s
abbrev PW' (X : Cx) (c : Cf) (e : Expr) (f : FT) : Prop := PW X e (RdT c f)
theorem PostT.grow {G H G' H' : Hp} {S : Env} {σ : St} {Q : Bool → Hp → Prop} {r : R Bool} (s : Step G H G' H') (p : PostT c G S σ H Q r) : PostT c G' S σ H' Q r := by
  cases r with
  | ok b => exact fun G2 H2 s2 => p G2 H2 (s.trans s2)
  | exc x => exact p
  | fail => exact p
theorem PostE.grow {G H G' H' : Hp} {S : Env} {σ : St} {Q : VK} {r : R D} (s : Step G H G' H') (p : PostE c kd G S σ H Q r) : PostE c kd G' S σ H' Q r := by
  cases r with
  | ok b => exact fun v G2 H2 s2 q => p v G2 H2 (s.trans s2) (q.mono s.h)
  | exc x => exact p
  | fail => exact p
theorem d_and1 (ha : PT' X c a t) : PW' X c (.BoolOp .And [a] pos) t := pw_and1 ha
theorem d_or1 (ha : PT' X c a t) : PW' X c (.BoolOp .Or [a] pos) t := pw_or1 ha
theorem d_and {rest : List Expr} (ha : PT' X c a t) (hb : PW' X c (.BoolOp .And (b :: rest) pos) u) : PW' X c (.BoolOp .And (a :: b :: rest) pos) (tA t u) :=
  pwI (pw_and ha hb) fun σ H Q ⟨G, S, rel, p⟩ => rdT_go (g := fun b => if b then u S else .ok false) (Post := PostT c G S σ H Q) rel p (fun _ z => z) (fun z => z) fun b G' H' s p1 => by
    cases b with
    | true => exact ⟨G', S, rel.grow s, PostT.grow s p1⟩
    | false => exact p1 G' H' s
theorem d_or {rest : List Expr} (ha : PT' X c a t) (hb : PW' X c (.BoolOp .Or (b :: rest) pos) u) : PW' X c (.BoolOp .Or (a :: b :: rest) pos) (tO t u) :=
  pwI (pw_or ha hb) fun σ H Q ⟨G, S, rel, p⟩ => rdT_go (g := fun b => if b then .ok true else u S) (Post := PostT c G S σ H Q) rel p (fun _ z => z) (fun z => z) fun b G' H' s p1 => by
    cases b with
    | true => exact p1 G' H' s
    | false => exact ⟨G', S, rel.grow s, PostT.grow s p1⟩
theorem d_pw (h : PW' X c a t) : PT' X c a t := h.pt
def eAnd (f g : FE) : FE := fun S => f S >>= toB >>= fun b => if b then g S else .ok (.bl false)
def eOr (f g : FE) : FE := fun S => f S >>= toB >>= fun b => if b then .ok (.bl true) else g S
def eNot (f : FE) : FE := fun S => f S >>= toB >>= fun b => .ok (.bl (!b))
def eIf (t : FT) (f g : FE) : FE := fun S => t S >>= fun b => if b then f S else g S
theorem bind_toB {β : Type} (r : R D) (k : Bool → R β) : (r >>= toB >>= k) = r >>= fun d => toB d >>= k := by cases r <;> rfl
theorem d_vone {op} (h : PE' X c .st a f) : PE' X c .st (.BoolOp op [a] pos) f := pe_one h
theorem d_vand {rest : List Expr} (ha : PE' X c .st a f) (hb : PE' X c .st (.BoolOp .And (b :: rest) pos) g) : PE' X c .st (.BoolOp .And (a :: b :: rest) pos) (eAnd f g) :=
  peI (pe_and ha hb) fun σ H Q ⟨G, S, rel, p⟩ => by
    unfold eAnd at p
    rw [bind_toB] at p
    refine rdE_go (Post := PostE c .st G S σ H Q) rel p (fun _ z => z) (fun z => z) fun d v G' H' s q p1 => ?_
    cases d with
    | bl k =>
      refine ⟨k, (Res.now (kd := .st) q).bl, ?_⟩
      cases k with
      | true => exact ⟨G', S, rel.grow s, PostE.grow s p1⟩
      | false => exact p1 _ G' H' s (.bl _)
    | _ => exact p1.elim
theorem d_vnot (ha : PE' X c .st a f) : PE' X c .st (.UnaryOp .Not a pos) (eNot f) :=
  peI (pe_not ha) fun σ H Q ⟨G, S, rel, p⟩ => by
    unfold eNot at p
    rw [bind_toB] at p
    refine rdE_go (Post := PostE c .st G S σ H Q) rel p (fun _ z => z) (fun z => z) fun d v G' H' s q p1 => ?_
    cases d with
    | bl k => exact ⟨k, (Res.now (kd := .st) q).bl, p1 _ G' H' s (.bl _)⟩
    | _ => exact p1.elim
end
end M
set_option Elab.async false
set_option linter.all false
set_option maxRecDepth 100000
set_option maxHeartbeats 4000000
namespace M
open PySem L2
abbrev PS' (X : Cx) (c : Cf) (fr : Bool) (as : List Nat) (st : Stmt) (s : FS) : Prop := PS X st (RdS c fr as s)
abbrev PB' (X : Cx) (c : Cf) (fr : Bool) (as : List Nat) (st : List Stmt) (s : FS) : Prop := PSs X st (RdS c fr as s)
section
variable {X : Cx} {c : Cf} {kd k1 k2 k3 : Kd} {a b e : Expr} {f g h : FE} {t u : FT} {pos : Pos} {fr : Bool} {as bs : List Nat} {s r : FS} {st : Stmt} {sts : List Stmt}
theorem PostS.mv {G G' H H' : Hp} {S S' : Env} {σ σ' : St} {Dn : Ends} {q : R (Fl × Env)} (hg : Ex G G') (fm : Frm as S σ H S' σ' H') (hs : ∀ i, i ∈ as ++ bs → i ∈ as ∨ i ∈ bs) (p : PostS c fr (as ++ bs) G S σ H Dn q) : PostS c fr bs G' S' σ' H' Dn q := by
  cases q with
  | exc x => exact p
  | fail => exact p
  | ok z =>
    obtain ⟨fl, S2⟩ := z
    cases fl with
    | nx => exact fun G2 σ2 H2 e r2 f2 => p G2 σ2 H2 (hg.trans e) r2 (fm.trans f2)
    | bk => exact fun G2 σ2 H2 e r2 f2 => p G2 σ2 H2 (hg.trans e) r2 (fm.trans f2)
    | ct => exact fun G2 σ2 H2 e r2 f2 => p G2 σ2 H2 (hg.trans e) r2 (fm.trans f2)
    | rt d => exact fun v G2 H2 st rv ow => p v G2 H2 st rv (ow.mv fm)
theorem PostS.sub {as' : List Nat} {G H : Hp} {S : Env} {σ : St} {Dn : Ends} {q : R (Fl × Env)} (hs : ∀ i, i ∈ as' → i ∈ as) (p : PostS c fr as G S σ H Dn q) : PostS c fr as' G S σ H Dn q := by
  cases q with
  | exc x => exact p
  | fail => exact p
  | ok z =>
    obtain ⟨fl, S2⟩ := z
    cases fl with
    | nx => exact fun G2 σ2 H2 e r2 f2 => p G2 σ2 H2 e r2 (f2.mono hs)
    | bk => exact fun G2 σ2 H2 e r2 f2 => p G2 σ2 H2 e r2 (f2.mono hs)
    | ct => exact fun G2 σ2 H2 e r2 f2 => p G2 σ2 H2 e r2 (f2.mono hs)
    | rt d => exact fun v G2 H2 st rv ow => p v G2 H2 st rv (ow.sub hs)
theorem PostS.gr {G H G' H' : Hp} {S : Env} {σ : St} {Dn : Ends} {q : R (Fl × Env)} (rel : Rel c G S σ H) (sp : Step G H G' H') (p : PostS c fr as G S σ H Dn q) : PostS c fr as G' S σ H' Dn q :=
  PostS.mv (as := []) (bs := as) sp.g (Frm.step rel sp) (fun i h => .inr (by simpa using h)) p
def sNil : FS := fun S => .ok (.nx, S)
def sBrk : FS := fun S => .ok (.bk, S)
def sSeq (s r : FS) : FS := fun S => s S >>= fun z => match z.1 with | .nx => r z.2 | _ => .ok z
def sSet (i : Nat) (f : FE) : FS := fun S => f S >>= fun d => .ok (.nx, S.set i (some ⟨false, d⟩))
def sOwn (i : Nat) (f : FE) : FS := fun S => f S >>= fun d => .ok (.nx, S.set i (some ⟨true, d⟩))
def sDrop (f : FE) : FS := fun S => f S >>= fun _ => .ok (.nx, S)
def sRet (f : FE) : FS := fun S => f S >>= fun d => .ok (.rt d, S)
def sRetN : FS := fun S => .ok (.rt .non, S)
def eO (i : Nat) : FE := fun S => match S[i]? with
  | some (some ⟨true, d⟩) => .ok d
  | _ => .fail
def sRetO (i : Nat) : FS := fun S => eO i S >>= fun d => .ok (.rt d, S)
def sIf (t : FT) (s r : FS) : FS := fun S => t S >>= fun b => if b then s S else r S
def sNo : FS := fun _ => .fail
def fzS (S : Env) (i : Nat) : Env := match S[i]? with
  | some (some ⟨true, d⟩) => S.set i (some ⟨false, d⟩)
  | _ => S
def sFz (i : Nat) (s : FS) : FS := fun S => s (fzS S i)
theorem b_nil : PB' X c fr [] [] sNil := pssI pss_nil fun Dn σ H ⟨G, S, rel, p⟩ => p G σ H (Ex.refl _) rel (Frm.refl _ _ _ _)
theorem s_brk : PS' X c fr [] (.Break pos) sBrk := psI ps_break fun Dn σ H ⟨G, S, rel, p⟩ => p G σ H (Ex.refl _) rel (Frm.refl _ _ _ _)
theorem b_cons (h1 : PS' X c fr as st s) (h2 : PB' X c fr bs sts r) : PB' X c fr (as ++ bs) (st :: sts) (sSeq s r) :=
  pssI (pss_cons h1 h2) fun Dn σ H ⟨G, S, rel, p⟩ => ⟨G, S, rel, by
    have p : PostS c fr (as ++ bs) G S σ H Dn (s S >>= fun z => match z.1 with | .nx => r z.2 | _ => .ok z) := p
    cases e1 : s S with
    | exc x => rw [e1] at p; exact p
    | fail => rw [e1] at p; exact p
    | ok z =>
      rw [e1] at p
      obtain ⟨fl, S1⟩ := z
      cases fl with
      | nx => exact fun G1 σ1 H1 ex r1 f1 => ⟨G1, S1, r1, PostS.mv (as := as) (bs := bs) ex f1 (fun i => List.mem_append.mp) p⟩
      | bk => exact PostS.sub (fun i q => List.mem_append_left _ q) p
      | ct => exact PostS.sub (fun i q => List.mem_append_left _ q) p
      | rt d => exact PostS.sub (fun i q => List.mem_append_left _ q) p⟩
theorem b_one (h1 : PS' X c fr as st s) : PB' X c fr as [st] s := pss_one h1
theorem s_fz (i : Nat) (h1 : PS' X c fr as st s) : PS' X c fr (i :: as) st (sFz i s) :=
  psI h1 fun Dn σ H ⟨G, S, rel, p⟩ => by
    have p : PostS c fr (i :: as) G S σ H Dn (s (fzS S i)) := p
    unfold fzS at p
    split at p
    · rename_i d hd
      obtain ⟨G', ex, rel'⟩ := rel.frz hd
      refine ⟨G', _, rel', PostS.mv (as := [i]) (bs := as) ex ⟨rfl, fun _ _ => rfl, fun j hj _ => ?_, fun _ _ _ _ _ => rfl⟩ (fun j q => by simpa using q) p⟩
      rw [List.getElem?_set_ne (fun z => hj (by simp [z]))]
    · exact ⟨G, S, rel, PostS.sub (fun j q => List.mem_cons_of_mem _ q) p⟩
abbrev PG' (X : Cx) (c : Cf) (as : List Nat) (e : Expr) (g : FG) : Prop := PG X e (RdG c as g)
abbrev FGs := List D → Env → R Env
def RdGs (c : Cf) (as : List Nat) (g : FGs) : TGs := fun vs σ H Q => ∃ G S ds, Rel c G S σ H ∧ RDs c.k G ds vs ∧ PostG c as G S σ H Q (g ds S)
abbrev PGs' (X : Cx) (c : Cf) (as : List Nat) (e : List Expr) (g : FGs) : Prop := PGs X e (RdGs c as g)
def gN (i : Nat) : FG := fun d S => .ok (S.set i (some ⟨false, d⟩))
def gsN : FGs := fun ds S => match ds with | [] => .ok S | _ => .fail
def gsC (g : FG) (r : FGs) : FGs := fun ds S => match ds with | d :: ds => g d S >>= r ds | [] => .fail
def gT (n : Nat) (r : FGs) : FG := fun d S => match d with | .tup ds => if ds.length = n then r ds S else .fail | _ => .fail
theorem Frm.set {S : Env} {σ : St} {H : Hp} (i : Nat) (x : Option Sl) (v : Option V) : Frm [i] S σ H (S.set i x) (σ.set i v) H :=
  ⟨by simp, fun j hj => List.getElem?_set_ne (fun z => hj (by simp [z])), fun j hj _ => List.getElem?_set_ne (fun z => hj (by simp [z])), fun _ _ _ _ _ => rfl⟩
theorem g_n (i : Nat) {x : Str} (hN : X.N.Nodup) (hi : X.N[i]? = some x := by rfl) (hx : Loc X.env.scope x := by first | exact Or.inl rfl | exact Or.inr rfl) (hf : X.fn x = true ∨ X.env.scope.names.lookup x = some .local := by first | exact .inl rfl | exact .inr rfl) : PG' X c [i] (.Name x pos) (gN i) :=
  pgI (pg_name hN hi hx hf) fun v σ H Q ⟨G, S, d, rel, q, p⟩ => p G _ H (Step.refl rel.st.gh) (rel.setS i q) (Frm.set i _ _)
theorem gs_n : PGs' X c [] [] gsN :=
  pgsI pgs_nil fun vs σ H Q ⟨G, S, ds, rel, q, p⟩ => by
    cases q with
    | nil => exact ⟨rfl, p G σ H (Step.refl rel.st.gh) rel (Frm.refl _ _ _ _)⟩
    | cons _ _ => exact p.elim
theorem gs_c {e : Expr} {es : List Expr} {ga : FG} {ra : FGs} (h1 : PG' X c as e ga) (h2 : PGs' X c bs es ra) (hs : (assignEach (e :: es) X.env).map (·.2) = assign e X.env :: (assignEach es X.env).map (·.2) := by rfl) : PGs' X c (as ++ bs) (e :: es) (gsC ga ra) :=
  pgsI (pgs_cons h1 h2 hs) fun vs σ H Q ⟨G, S, ds, rel, q, p⟩ => by
    cases q with
    | nil => exact p.elim
    | @cons d ds v vs q1 q2 =>
      refine ⟨v, vs, rfl, G, S, d, rel, q1, ?_⟩
      have p : PostG c (as ++ bs) G S σ H Q (ga d S >>= ra ds) := p
      cases e1 : ga d S with
      | exc x => rw [e1] at p; exact p.elim
      | fail => rw [e1] at p; exact p.elim
      | ok S1 =>
        rw [e1] at p
        refine fun G1 σ1 H1 ex r1 f1 => ⟨G1, S1, ds, r1, q2.mono ex.g, ?_⟩
        have p : PostG c (as ++ bs) G S σ H Q (ra ds S1) := p
        cases e2 : ra ds S1 with
        | exc x => rw [e2] at p; exact p.elim
        | fail => rw [e2] at p; exact p.elim
        | ok S2 => rw [e2] at p; exact fun G2 σ2 H2 ex2 r2 f2 => p G2 σ2 H2 (ex.trans ex2) r2 (f1.trans f2)
theorem g_t {es : List Expr} {k : Nat} {ra : FGs} {n : Nat} (hk : c.k.K = X.K) (hc : X.calm = true) (h : PGs' X c as es ra) (hn : (assignEach es X.env).length = n := by rfl) (hst : (assignEach es X.env).findIdx? (·.1) = none := by rfl) : PG' X c as (.Tuple es k pos) (gT n ra) :=
  pgI (pg_tup hc h hn hst) fun v σ H Q ⟨G, S, d, rel, q, p⟩ => by
    cases q with
    | @tup ds a vs hs hr =>
      have p : PostG c as G S σ H Q (if ds.length = n then ra ds S else .fail) := p
      by_cases hl : ds.length = n
      · rw [if_pos hl] at p
        exact ⟨a, vs, rfl, hk ▸ rel.st.gh.sqT hs.t, by rw [← hr.length]; exact hl, G, S, ds, rel, hr, p⟩
      · rw [if_neg hl] at p; exact p.elim
    | _ => exact p.elim
def sAsg (g : FG) (f : FE) : FS := fun S => f S >>= fun d => (g d S).nox >>= fun S' => .ok (Fl.nx, S')
theorem asg_go {ga : FG} {tg : TG} {Dn : Ends} {σ : St} {H : Hp} (hg : ∀ v σ H Q, RdG c as ga v σ H Q → tg v σ H Q) (q : RdS c fr as (sAsg ga f) Dn σ H) : RdE c .st f σ H fun x H1 => tg x σ H1 Dn.nx := by
  obtain ⟨G, S, rel, p⟩ := q
  refine rdE_go (g := fun d => (ga d S).nox >>= fun S' => .ok (Fl.nx, S')) (Post := PostS c fr as G S σ H Dn) rel p (fun _ z => z _) (fun z => z) fun d v G' H' sp q p1 => ?_
  refine hg v σ H' _ ⟨G', S, d, rel.grow sp, q, ?_⟩
  cases e1 : ga d S with
  | exc x => rw [e1] at p1; exact p1.elim
  | fail => rw [e1] at p1; exact p1.elim
  | ok S1 =>
    rw [e1] at p1
    exact fun G2 σ2 H2 ex r2 f2 => p1 G2 σ2 H2 (sp.g.trans ex.g) r2 ((Frm.step (as := []) rel sp).trans f2)
theorem s_asg {tg : Expr} {ga : FG} (he : PE' X c .st e f) (hg : PG' X c as tg ga) (hs : swapsWithSole [tg] e pos.line X.env = pure false := by rfl) (hw : swappedStores [tg] e X.env = pure none := by rfl) (h1 : (assignEach [tg] X.env).map (·.2) = [assign tg X.env] := by rfl) : PS' X c fr as (.Assign [tg] e pos) (sAsg ga f) :=
  psI (ps_asg he hg hs hw h1) fun Dn σ H q => asg_go (fun _ _ _ _ z => z) q
theorem s_set (i : Nat) {x : Str} {pos' : Pos} (hN : X.N.Nodup) (he : PE' X c .st e f) (hi : X.N[i]? = some x := by rfl) (hx : Loc X.env.scope x := by first | exact Or.inl rfl | exact Or.inr rfl) (hs : swapsWith e (some (.Name x pos')) pos.line X.env = pure false := by rfl)
    (hf : X.fn x = true ∨ X.env.scope.names.lookup x = some .local := by first | exact .inl rfl | exact .inr rfl) : PS' X c fr [i] (.Assign [.Name x pos'] e pos) (sSet i f) :=
  psI (ps_set hN hi hx he hs hf) fun Dn σ H ⟨G, S, rel, p⟩ => by
    refine rdE_go (g := fun d => .ok (Fl.nx, S.set i (some ⟨false, d⟩))) (Post := PostS c fr [i] G S σ H Dn) rel p (fun _ z => z _) (fun z => z) fun d v G' H' sp q p1 => ?_
    exact p1 G' _ H' sp.g ((rel.grow sp).setS i q) ((Frm.step (as := []) rel sp).trans (Frm.set i _ _))
theorem own_go {i : Nat} {Dn : Ends} {σ : St} {H : Hp} (q : RdS c fr [i] (sOwn i f) Dn σ H) : RdE c .fr f σ H fun x H1 => gName i x σ H1 Dn.nx := by
  obtain ⟨G, S, rel, p⟩ := q
  refine rdE_go (g := fun d => .ok (Fl.nx, S.set i (some ⟨true, d⟩))) (Post := PostS c fr [i] G S σ H Dn) rel p (fun _ z => z _) (fun z => z) fun d v G' H' sp q p1 => ?_
  obtain ⟨a, o, rfl, hg, hn, ha, ct⟩ := q
  refine p1 G' _ H' sp.g ((rel.grow sp).setO i ha hg (rel.st.h.free hn) ct (fun j ow => ?_) (fun _ _ => rfl)) ((Frm.step (as := []) rel sp).trans (Frm.set i _ _))
  obtain ⟨_, _, u, _, q, _⟩ := rel.own ow
  rw [hn] at q; cases q
theorem s_own (i : Nat) {x : Str} {pos' : Pos} (hN : X.N.Nodup) (he : PE' X c .fr e f) (hi : X.N[i]? = some x := by rfl) (hx : Loc X.env.scope x := by first | exact Or.inl rfl | exact Or.inr rfl) (hs : swapsWith e (some (.Name x pos')) pos.line X.env = pure false := by rfl)
    (hf : X.fn x = true ∨ X.env.scope.names.lookup x = some .local := by first | exact .inl rfl | exact .inr rfl) : PS' X c fr [i] (.Assign [.Name x pos'] e pos) (sOwn i f) :=
  psI (ps_set hN hi hx he hs hf) fun Dn σ H q => own_go q
theorem s_drop (he : PE' X c kd e f) (hs : swapsWith e none pos.line X.env = pure false := by rfl) : PS' X c fr [] (.Expr e pos) (sDrop f) :=
  psI (ps_expr he hs) fun Dn σ H ⟨G, S, rel, p⟩ => by
    refine rdE_go (g := fun d => .ok (Fl.nx, S)) (Post := PostS c fr [] G S σ H Dn) rel p (fun _ z => z _) (fun z => z) fun d v G' H' sp q p1 => ?_
    exact p1 G' σ H' sp.g (rel.grow sp) (Frm.step rel sp)
theorem s_ret (he : PE' X c .st e f) : PS' X c false [] (.Return (some e) pos) (sRet f) :=
  psI (ps_ret he) fun Dn σ H ⟨G, S, rel, p⟩ => by
    refine rdE_go (g := fun d => .ok (Fl.rt d, S)) (Post := PostS c false [] G S σ H Dn) rel p (fun _ z => z _) (fun z => z) fun d v G' H' sp q p1 => ?_
    exact p1 v G' H' (rel.st.trans sp) q (rel.grow sp).owR
theorem s_retO (i : Nat) {x : Str} {p' : Pos} (hN : X.N[i]? = some x := by rfl) (hv : Vis X.env.scope x := by first | exact Or.inl rfl | exact Or.inr (Or.inl rfl) | exact Or.inr (Or.inr rfl)) (hd : (x == ("__debug__" : Str)) = false := by decide)
    (hcd : (x == ("__classdict__" : Str)) = false := by decide) : PS' X c true [] (.Return (some (.Name x p')) pos) (sRetO i) :=
  psI (ps_ret (pe_var hN hv hd hcd)) fun Dn σ H ⟨G, S, rel, p⟩ => by
    have p : PostS c true [] G S σ H Dn (eO i S >>= fun d => .ok (.rt d, S)) := p
    unfold eO at p
    split at p
    · rename_i d hd
      obtain ⟨a, o, e1, hg, h0, ho, ct⟩ := rel.ow i d hd
      exact ⟨_, e1, p _ G H rel.st ⟨a, o, rfl, hg, h0, ho, ct⟩ rel.owR⟩
    · exact p.elim
theorem s_if {cc : Expr} {aa bb : List Stmt} (hc : PT' X c cc t) (ha : PB' X c fr as aa s) (hb : PB' X c fr bs bb r) : PS' X c fr (as ++ bs) (.If cc aa bb pos) (sIf t s r) :=
  psI (ps_if hc ha hb) fun Dn σ H ⟨G, S, rel, p⟩ => rdT_go (g := fun b => if b then s S else r S) (Post := PostS c fr (as ++ bs) G S σ H Dn) rel p (fun _ z => z _) (fun z => z) fun b G' H' sp p1 => by
    cases b with
    | true => exact ⟨G', S, rel.grow sp, PostS.sub (fun i q => List.mem_append_left _ q) (PostS.gr rel sp p1)⟩
    | false => exact ⟨G', S, rel.grow sp, PostS.sub (fun i q => List.mem_append_right _ q) (PostS.gr rel sp p1)⟩
def whileF (t : FT) (s : FS) : Nat → FS
  | 0 => fun _ => .fail
  | n + 1 => fun S => t S >>= fun b => if b then s S >>= fun z => match z.1 with
    | .nx => whileF t s n z.2
    | .ct => whileF t s n z.2
    | .bk => .ok (.nx, z.2)
    | .rt d => .ok (.rt d, z.2) else .ok (.nx, S)
theorem s_while (n : Nat) {cc : Expr} {body : List Stmt} (hp : PassesOwn (model X.prog X.w) X.A X.env X.xe) (hc : PT' X c cc t) (hb : PB' X c fr as body s) : PS' X c fr as (.While cc body [] pos) (whileF t s n) :=
  psI (ps_while hp hc hb) fun Dn σ H ⟨G, S, rel, p⟩ => by
    refine ⟨fun m σ1 H1 => ∃ G1 S1, Rel c G1 S1 σ1 H1 ∧ Ex G G1 ∧ Frm as S σ H S1 σ1 H1 ∧ PostS c fr as G S σ H Dn (whileF t s m S1), ⟨n, G, S, rel, Ex.refl _, Frm.refl _ _ _ _, p⟩, ?_⟩
    rintro m σ1 H1 ⟨G1, S1, r1, ex1, f1, p1⟩
    cases m with
    | zero => exact p1.elim
    | succ m =>
      refine rdT_go (g := fun b => if b then s S1 >>= fun z => match z.1 with
        | .nx => whileF t s m z.2
        | .ct => whileF t s m z.2
        | .bk => .ok (.nx, z.2)
        | .rt d => .ok (.rt d, z.2) else .ok (.nx, S1)) (Post := PostS c fr as G S σ H Dn) r1 p1 (fun _ z => z _) (fun z => z) fun b G2 H2 sp p2 => ?_
      have f2 : Frm as S σ H S1 σ1 H2 := (f1.trans (Frm.step (as := []) r1 sp)).mono (fun i q => by simpa using q)
      cases b with
      | false => exact p2 G2 σ1 H2 (ex1.trans sp.g) (r1.grow sp) f2
      | true =>
        rw [if_pos rfl] at p2 ⊢
        refine ⟨fun σ' H' => ∃ G3 S3, Rel c G3 S3 σ' H' ∧ Ex G G3 ∧ Frm as S σ H S3 σ' H' ∧ PostS c fr as G S σ H Dn (whileF t s m S3), fun σ' H' q => ⟨m, Nat.lt_succ_self m, q⟩, G2, S1, r1.grow sp, ?_⟩
        cases e1 : s S1 with
        | exc x => rw [e1] at p2; exact p2
        | fail => rw [e1] at p2; exact p2
        | ok z =>
          rw [e1] at p2
          obtain ⟨fl, S3⟩ := z
          have fin : ∀ {σ3 : St} {H3 : Hp}, Frm as S1 σ1 H2 S3 σ3 H3 → Frm as S σ H S3 σ3 H3 := fun f3 => (f2.trans f3).mono (fun i q => by simpa using q)
          cases fl with
          | nx => exact fun G3 σ3 H3 e3 r3 f3 => ⟨G3, S3, r3, (ex1.trans sp.g).trans e3, fin f3, p2⟩
          | ct => exact fun G3 σ3 H3 e3 r3 f3 => ⟨G3, S3, r3, (ex1.trans sp.g).trans e3, fin f3, p2⟩
          | bk => exact fun G3 σ3 H3 e3 r3 f3 => p2 G3 σ3 H3 ((ex1.trans sp.g).trans e3) r3 (fin f3)
          | rt d => exact fun v G3 H3 st rv ow => p2 v G3 H3 st rv ((ow.mv f2).sub fun i q => by simpa using q)
def Itm (k : Kn) (ki : List Nat) (G1 : Hp) (S : Env) (σ : St) (H1 : Hp) (J : It) (ds : List D) : Prop :=
  ∀ G H, Ex G1 G → Ex G H → (∀ i, i ∈ ki → ∀ a, OwnAt S σ i a → H a = H1 a) → (∀ i : Nat, ds.length ≤ i → J.stop i H) ∧ ∀ (i : Nat) (d : D), ds[i]? = some d → J.go i H ∧ ∀ x H', J.yld i H x H' → ∃ G', Step G H G' H' ∧ RD k G' d x
abbrev FI := Env → R (List D)
def PostI (c : Cf) (ki : List Nat) (G : Hp) (S : Env) (σ : St) (H : Hp) (Q : It → Hp → Prop) : R (List D) → Prop
  | .ok ds => ∀ J G' H', Step G H G' H' → Itm c.k ki G' S σ H' J ds → Q J H'
  | .exc x => PX c σ x
  | .fail => False
def RdI (c : Cf) (ki : List Nat) (f : FI) : TI := fun σ H Q => ∃ G S, Rel c G S σ H ∧ PostI c ki G S σ H Q (f S)
abbrev PI' (X : Cx) (c : Cf) (ki : List Nat) (tg e : Expr) (f : FI) : Prop := PI X tg e (RdI c ki f)
def forF (g : FG) (s : FS) : List D → FS
  | [] => fun S => .ok (.nx, S)
  | d :: ds => fun S => (g d S).nox >>= fun S1 => s S1 >>= fun z => match z.1 with
    | .nx => forF g s ds z.2
    | .ct => forF g s ds z.2
    | .bk => .ok (.nx, z.2)
    | .rt d => .ok (.rt d, z.2)
def sFor (i : FI) (g : FG) (s : FS) : FS := fun S => i S >>= fun ds => forF g s ds S
theorem s_for {tg iter : Expr} {body : List Stmt} {ki gs : List Nat} {fi : FI} {ga : FG} (hp : PassesOwn (model X.prog X.w) X.A X.env X.xe) (hc : X.calm = true) (hi : PI' X c ki tg iter fi) (hg : PG' X c gs tg ga) (hb : PB' X c fr as body s)
    (hki : ∀ i, i ∈ ki → i ∉ gs ++ as ∧ i + 1000 ∉ gs ++ as := by decide) (hs : ∀ x, foldedSetIterable iter X.env x = pure x := by intro _; rfl) : PS' X c fr (gs ++ as) (.For tg iter body [] pos) (sFor fi ga s) :=
  psI (ps_for hp hc hi hg hb hs) fun Dn σ H ⟨G, S, rel, p⟩ => by
    refine ⟨G, S, rel, ?_⟩
    have p : PostS c fr (gs ++ as) G S σ H Dn (fi S >>= fun ds => forF ga s ds S) := p
    cases e0 : fi S with
    | exc x => rw [e0] at p; exact p _
    | fail => rw [e0] at p; exact p
    | ok ds =>
      rw [e0] at p
      have p : PostS c fr (gs ++ as) G S σ H Dn (forF ga s ds S) := p
      intro J G0 H0 sp it
      refine ⟨fun i m σ1 H1 => m = ds.length - i ∧ i ≤ ds.length ∧ ∃ G1 S1, Rel c G1 S1 σ1 H1 ∧ Ex G0 G1 ∧ Frm (gs ++ as) S σ H0 S1 σ1 H1 ∧ PostS c fr (gs ++ as) G S σ H Dn (forF ga s (ds.drop i) S1),
        ⟨_, rfl, Nat.zero_le _, G0, S, rel.grow sp, Ex.refl _, Frm.refl _ _ _ _, by simpa using p⟩, ?_⟩
      rintro i m σ1 H1 ⟨rfl, hle, G1, S1, r1, ex1, f1, p1⟩
      have keep : ∀ j, j ∈ ki → ∀ a, OwnAt S σ j a → H1 a = H0 a := fun j hj a ow => f1.ow j a (hki j hj).1 (hki j hj).2 ow
      have itm := it G1 H1 ex1 r1.st.gh keep
      have fm : Frm (gs ++ as) S σ H S1 σ1 H1 := ((Frm.step (as := []) rel sp).trans f1).mono (fun i q => by simpa using q)
      by_cases hlt : i < ds.length
      · obtain ⟨d, hd⟩ : ∃ d, ds[i]? = some d := ⟨ds[i], List.getElem?_eq_getElem hlt⟩
        have hdrop : ds.drop i = d :: ds.drop (i + 1) := by
          rw [List.drop_eq_getElem_cons hlt]; congr 1; rw [List.getElem?_eq_getElem hlt] at hd; exact Option.some.inj hd
        rw [hdrop] at p1
        obtain ⟨hgo, hy⟩ := itm.2 i d hd
        refine .inr ⟨hgo, fun σ' H' => ∃ G3 S3, Rel c G3 S3 σ' H' ∧ Ex G0 G3 ∧ Frm (gs ++ as) S σ H0 S3 σ' H' ∧ PostS c fr (gs ++ as) G S σ H Dn (forF ga s (ds.drop (i + 1)) S3), fun σ' H' q => ⟨ds.length - (i + 1), by omega, rfl, hlt, q⟩, fun x H2 hx => ?_⟩
        obtain ⟨G2, sp2, hd2⟩ := hy x H2 hx
        refine ⟨G2, S1, d, r1.grow sp2, hd2, ?_⟩
        have p1 : PostS c fr (gs ++ as) G S σ H Dn ((ga d S1).nox >>= fun S1 => s S1 >>= fun z => match z.1 with
          | .nx => forF ga s (ds.drop (i + 1)) z.2
          | .ct => forF ga s (ds.drop (i + 1)) z.2
          | .bk => .ok (.nx, z.2)
          | .rt d => .ok (.rt d, z.2)) := p1
        cases e1 : ga d S1 with
        | exc x => rw [e1] at p1; exact p1.elim
        | fail => rw [e1] at p1; exact p1.elim
        | ok S2 =>
          rw [e1] at p1
          refine fun G3 σ3 H3 e3 r3 f3 => ⟨G3, S2, r3, ?_⟩
          have f03 : Frm (gs ++ as) S σ H0 S2 σ3 H3 := (f1.trans ((Frm.step (as := []) r1 sp2).trans f3)).mono (fun i q => by simp only [List.mem_append, List.not_mem_nil, false_or] at q ⊢; rcases q with q | q; exact q; exact .inl q)
          have p1 : PostS c fr (gs ++ as) G S σ H Dn (s S2 >>= fun z => match z.1 with
            | .nx => forF ga s (ds.drop (i + 1)) z.2
            | .ct => forF ga s (ds.drop (i + 1)) z.2
            | .bk => .ok (.nx, z.2)
            | .rt d => .ok (.rt d, z.2)) := p1
          have g03 : Ex G0 G3 := (ex1.trans sp2.g).trans e3.g
          cases e2 : s S2 with
          | exc x => rw [e2] at p1; exact p1
          | fail => rw [e2] at p1; exact p1
          | ok z =>
            rw [e2] at p1
            obtain ⟨fl, S4⟩ := z
            have fin : ∀ {σ4 : St} {H4 : Hp}, Frm as S2 σ3 H3 S4 σ4 H4 → Frm (gs ++ as) S σ H0 S4 σ4 H4 := fun f4 => (f03.trans f4).mono (fun i q => by simp only [List.mem_append] at q ⊢; rcases q with q | q; exact q; exact .inr q)
            have fin2 : ∀ {σ4 : St} {H4 : Hp}, Frm as S2 σ3 H3 S4 σ4 H4 → Frm (gs ++ as) S σ H S4 σ4 H4 := fun f4 => ((Frm.step (as := []) rel sp).trans (fin f4)).mono (fun i q => by simpa using q)
            cases fl with
            | nx => exact fun G4 σ4 H4 e4 r4 f4 => ⟨G4, S4, r4, g03.trans e4, fin f4, p1⟩
            | ct => exact fun G4 σ4 H4 e4 r4 f4 => ⟨G4, S4, r4, g03.trans e4, fin f4, p1⟩
            | bk => exact fun G4 σ4 H4 e4 r4 f4 => p1 G4 σ4 H4 ((sp.g.trans g03).trans e4) r4 (fin2 f4)
            | rt d => exact fun v G4 H4 st rv ow => p1 v G4 H4 st rv ((ow.mv f03).sub fun i q => by simp only [List.mem_append] at q ⊢; rcases q with q | q; exact q; exact .inr q)
      · have hi : i = ds.length := by omega
        subst hi
        rw [List.drop_length] at p1
        exact .inl ⟨itm.1 _ (Nat.le_refl _), p1 G1 σ1 H1 (sp.g.trans ex1) r1 fm⟩
end
end M
set_option Elab.async false
set_option linter.all false
set_option maxRecDepth 100000
set_option maxHeartbeats 4000000
namespace M
open PySem L2
section
variable {X : Cx} {c : Cf} {kd k1 k2 k3 : Kd} {a b e tg : Expr} {f g h : FE} {t u : FT} {pos : Pos} {fr : Bool} {as bs : List Nat} {s r : FS}
def chrs (x : Str) : List D := x.cps.toList.map fun n => .str ⟨#[n]⟩
def itemsD : D → R (List D)
  | .lst ds => .ok ds
  | .tup ds => .ok ds
  | .scr ns => .ok (ns.map .int)
  | .str x => .ok (chrs x)
  | _ => .fail
theorem itm_list {k : Kn} {ki : List Nat} {G1 H1 : Hp} {S : Env} {σ : St} {K : PySem.W.Frag} {ds : List D} {vs : List V} {p : Addr} (hr : RDs k G1 ds vs) (hs : ∀ G H, Ex G1 G → Ex G H → (∀ i, i ∈ ki → ∀ a, OwnAt S σ i a → H a = H1 a) → SqL K H p vs)
    : Itm k ki G1 S σ H1 (Itl K p) ds := fun G H e1 e2 kp => by
  have q := hs G H e1 e2 kp
  refine ⟨fun i hi => ⟨vs, q, by rw [← hr.length]; exact hi⟩, fun i d hd => ?_⟩
  obtain ⟨v, hv, r⟩ := (hr.mono e1).get hd
  refine ⟨⟨vs, v, q, hv⟩, fun x H' hx => ?_⟩
  obtain ⟨rfl, hy⟩ := hx
  have := hy vs q
  rw [hv] at this; cases this
  exact ⟨G, Step.refl e2, r⟩
theorem itm_tup {k : Kn} {ki : List Nat} {G1 H1 : Hp} {S : Env} {σ : St} {K : PySem.W.Frag} {ds : List D} {vs : List V} {p : Addr} (hr : RDs k G1 ds vs) (hs : SqT K G1 p vs) : Itm k ki G1 S σ H1 (Itt K p) ds := fun G H e1 e2 kp => by
  have q := e2.sqT (e1.sqT hs)
  refine ⟨fun i hi => ⟨vs, q, by rw [← hr.length]; exact hi⟩, fun i d hd => ?_⟩
  obtain ⟨v, hv, r⟩ := (hr.mono e1).get hd
  refine ⟨⟨vs, v, q, hv⟩, fun x H' hx => ?_⟩
  obtain ⟨rfl, hy⟩ := hx
  have := hy vs q
  rw [hv] at this; cases this
  exact ⟨G, Step.refl e2, r⟩
theorem itm_str {k : Kn} {ki : List Nat} {G1 H1 : Hp} {S : Env} {σ : St} (x : Str) : Itm k ki G1 S σ H1 (Its x) (chrs x) := fun G H e1 e2 kp => by
  refine ⟨fun i hi => ?_, fun i d hd => ?_⟩
  · show x.cps.size ≤ i
    simpa [chrs] using hi
  · unfold chrs at hd
    rw [List.getElem?_map] at hd
    cases q : x.cps.toList[i]? with
    | none => rw [q] at hd; cases hd
    | some n =>
      rw [q] at hd; cases hd
      have q' : x.cps[i]? = some n := by simpa using q
      refine ⟨?_, fun y H' hy => ?_⟩
      · have := (Array.getElem?_eq_some_iff.mp q').1
        exact this
      · obtain ⟨e3, n', q2, e4⟩ := hy
        subst e3; subst e4
        rw [q'] at q2; cases q2
        exact ⟨G, Step.refl e2, .str _⟩
theorem i_seq (hk : c.k.K = X.K) (he : PE' X c .st e f) : PI' X c [] tg e (fun S => f S >>= itemsD) := by
  refine ⟨fun pins st σ H Rq I q => ?_⟩
  obtain ⟨G, S, rel, p⟩ := q
  have p : PostI c [] G S σ H Rq (f S >>= itemsD) := p
  cases e1 : f S with
  | exc x => exact (pi_list he).run pins st σ H Rq I ⟨G, S, rel, by rw [e1] at p ⊢; exact p⟩
  | fail => rw [e1] at p; exact p.elim
  | ok d =>
    rw [e1] at p
    cases d with
    | lst ds =>
      refine (pi_list he).run pins st σ H Rq I ⟨G, S, rel, ?_⟩
      rw [e1]
      intro v G' H' sp q
      cases q with
      | lst h r => exact ⟨_, rfl, ⟨_, SqL.of (sp.gh _ _ h)⟩, p _ G' H' sp (itm_list r fun G2 H2 a1 a2 _ => SqL.of (a2 _ _ (a1 _ _ h)))⟩
    | scr ns =>
      refine (pi_list he).run pins st σ H Rq I ⟨G, S, rel, ?_⟩
      rw [e1]
      intro v G' H' sp q
      cases q with
      | scr h => exact ⟨_, rfl, ⟨_, hk ▸ sp.gh.sqL h⟩, p _ G' H' sp (itm_list (RDs.ints ns) fun G2 H2 a1 a2 _ => hk ▸ a2.sqL (a1.sqL h))⟩
    | tup ds =>
      refine (pi_tup he).run pins st σ H Rq I ⟨G, S, rel, ?_⟩
      rw [e1]
      intro v G' H' sp q
      cases q with
      | tup h r => exact ⟨_, rfl, ⟨_, hk ▸ sp.gh.sqT h.t⟩, p _ G' H' sp (itm_tup r (hk ▸ h.t))⟩
    | str x =>
      refine (pi_str he).run pins st σ H Rq I ⟨G, S, rel, ?_⟩
      rw [e1]
      intro v G' H' sp q
      cases q with
      | str => exact ⟨_, rfl, p _ G' H' sp (itm_str x)⟩
    | _ => exact p.elim
theorem i_own (i : Nat) {x : Str} (hN : X.N[i]? = some x := by rfl) (hv : Vis X.env.scope x := by first | exact Or.inl rfl | exact Or.inr (Or.inl rfl) | exact Or.inr (Or.inr rfl)) (hd : (x == ("__debug__" : Str)) = false := by decide)
    (hcd : (x == ("__classdict__" : Str)) = false := by decide) : PI' X c [i] tg (.Name x pos) (fun S => eO i S >>= itemsD) :=
  piI (pi_list (pe_var hN hv hd hcd)) fun σ H Rq ⟨G, S, rel, p⟩ => by
    have p : PostI c [i] G S σ H Rq (eO i S >>= itemsD) := p
    unfold eO at p
    split at p
    · rename_i d hd
      obtain ⟨a, o, e1, hg, h0, ho, ct⟩ := rel.ow i d hd
      cases ct with
      | lst r =>
        refine ⟨_, e1, a, rfl, ⟨_, SqL.of ho⟩, p _ G H (Step.refl rel.st.gh) (itm_list r fun G2 H2 a1 a2 kp => SqL.of ?_)⟩
        rw [kp i (by simp) a ⟨⟨_, hd⟩, e1⟩]; exact ho
      | _ => exact p.elim
    · exact p.elim
def rngL (lo : Int) (n : Nat) : List D := (List.range n).map fun (i : Nat) => .int (lo + i)
def rng1 : List D → R (List D)
  | [.int j] => if -(2 ^ 62) ≤ j ∧ j < 2 ^ 62 then .ok (rngL 0 j.toNat) else .fail
  | _ => .fail
def rng2 : List D → R (List D)
  | [.int i, .int j] => if -(2 ^ 62) ≤ i ∧ i < 2 ^ 62 ∧ -(2 ^ 62) ≤ j ∧ j < 2 ^ 62 then .ok (rngL i (j - i).toNat) else .fail
  | _ => .fail
theorem itm_rng {k : Kn} {ki : List Nat} {G1 H1 : Hp} {S : Env} {σ : St} (lo : Int) (n : Nat) : Itm k ki G1 S σ H1 (Itr lo n) (rngL lo n) := fun G H e1 e2 kp => by
  refine ⟨fun i hi => (by simpa [rngL] using hi : n ≤ i), fun i d hd => ?_⟩
  unfold rngL at hd
  rw [List.getElem?_map] at hd
  have hi : i < n := by
    rcases Nat.lt_or_ge i n with z | z
    · exact z
    · rw [List.getElem?_eq_none (by simpa using z)] at hd; cases hd
  rw [List.getElem?_range hi] at hd
  cases hd
  refine ⟨hi, fun x H' hx => ?_⟩
  obtain ⟨rfl, rfl⟩ := hx
  exact ⟨G, Step.refl e2, .int _⟩
theorem i_rng1 {p : Pos} {fa : FA} {ba : Bool} (hm : X.mg "range" = none) (ha : PA' X c ba [a] fa) (hg : Gl X "range" := by rfl) (hs : starEach [a] X.env = [(false, eval a X.env)] := by rfl) : PI' X c [] tg (.Call (.Name "range" p) [a] [] pos) (fun S => fa S >>= rng1) :=
  piI (pi_range1 hg hm ha hs) fun σ H Rq ⟨G, S, rel, p⟩ => by
    refine rdA_go (g := rng1) (Post := PostI c [] G S σ H Rq) rel p (fun _ z => z) (fun z => z) fun ds vs G' H' sp q p1 => ?_
    rcases ds with _ | ⟨d1, _ | ⟨d2, dr⟩⟩
    · exact p1.elim
    · cases d1 with
      | int j =>
        have p1 : PostI c [] G S σ H Rq (if -(2 ^ 62) ≤ j ∧ j < 2 ^ 62 then .ok (rngL 0 j.toNat) else .fail) := p1
        cases q.nows with
        | cons n1 n2 =>
          cases n2
          obtain rfl := n1.int
          by_cases hj : -(2 ^ 62) ≤ j ∧ j < 2 ^ 62
          · rw [if_pos hj] at p1
            exact ⟨j, rfl, hj.1, hj.2, p1 _ G' H' sp (itm_rng 0 _)⟩
          · rw [if_neg hj] at p1; exact p1.elim
      | _ => exact p1.elim
    · cases d1 <;> exact p1.elim
theorem i_rng2 {p : Pos} {fa : FA} {ba : Bool} (hm : X.mg "range" = none) (ha : PA' X c ba [a, b] fa) (hg : Gl X "range" := by rfl) (hs : starEach [a, b] X.env = [(false, eval a X.env), (false, eval b X.env)] := by rfl) (hs2 : starEach [b] X.env = [(false, eval b X.env)] := by rfl) :
    PI' X c [] tg (.Call (.Name "range" p) [a, b] [] pos) (fun S => fa S >>= rng2) :=
  piI (pi_range2 hg hm ha hs hs2) fun σ H Rq ⟨G, S, rel, p⟩ => by
    refine rdA_go (g := rng2) (Post := PostI c [] G S σ H Rq) rel p (fun _ z => z) (fun z => z) fun ds vs G' H' sp q p1 => ?_
    rcases ds with _ | ⟨d1, _ | ⟨d2, _ | ⟨d3, dr⟩⟩⟩
    · exact p1.elim
    · cases d1 <;> exact p1.elim
    · cases d1 with
      | int i =>
        cases d2 with
        | int j =>
          have p1 : PostI c [] G S σ H Rq (if -(2 ^ 62) ≤ i ∧ i < 2 ^ 62 ∧ -(2 ^ 62) ≤ j ∧ j < 2 ^ 62 then .ok (rngL i (j - i).toNat) else .fail) := p1
          cases q.nows with
          | cons n1 n2 =>
            cases n2 with
            | cons n2 n3 =>
              cases n3
              obtain rfl := n1.int
              obtain rfl := n2.int
              by_cases hj : -(2 ^ 62) ≤ i ∧ i < 2 ^ 62 ∧ -(2 ^ 62) ≤ j ∧ j < 2 ^ 62
              · rw [if_pos hj] at p1
                exact ⟨i, j, rfl, hj, p1 _ G' H' sp (itm_rng i _)⟩
              · rw [if_neg hj] at p1; exact p1.elim
        | _ => exact p1.elim
      | _ => exact p1.elim
    · cases d1 <;> first | exact p1.elim | (cases d2 <;> exact p1.elim)
theorem Rel.cw {c : Cf} {W : WX} {G H : Hp} {S : Env} {σ : St} (r : Rel c G S σ H) : Rel { c with W := W } G S σ H := ⟨r.st, r.len, r.fz, r.ow, r.nd⟩
theorem wipe_in {i : Nat} : ∀ {vs : List Nat} {σ : St}, i ∈ vs → i < σ.length → (L2.wipe σ vs)[i]? = some none
  | v :: vs, σ, hm, hi => by
    unfold L2.wipe
    by_cases h : v = i
    · subst h; rw [List.getElem?_set_self (by rw [wipe_length]; exact hi)]
    · rw [List.getElem?_set_ne h]
      exact wipe_in (by rcases List.mem_cons.mp hm with z | z; exact absurd z.symm h; exact z) hi
theorem wipe_eq {vs : List Nat} {σ σ' : St} (hl : σ'.length = σ.length) (h : ∀ (i : Nat), i ∉ vs → σ'[i]? = (L2.wipe σ vs)[i]?) : L2.wipe σ' vs = L2.wipe σ vs := by
  apply List.ext_getElem?
  intro i
  by_cases hm : i ∈ vs
  · by_cases hi : i < σ.length
    · rw [wipe_in hm hi, wipe_in hm (by rw [hl]; exact hi)]
    · rw [List.getElem?_eq_none (by rw [wipe_length, hl]; omega), List.getElem?_eq_none (by rw [wipe_length]; omega)]
  · rw [wipe_out hm, h i hm]
abbrev Cf.nx (c : Cf) : Cf := { c with W := liftX E0 }
abbrev PTs' (X : Cx) (c : Cf) (ifs : List Expr) (t : FT) : Prop := PTs X ifs (RdT c t)
def tY : FT := fun _ => .ok true
theorem ts_n : PTs' X c [] tY := ptsI pts_nil fun σ H Q ⟨G, S, rel, p⟩ => p G H (Step.refl rel.st.gh)
theorem ts_1 (h : PT' X c a t) : PTs' X c [a] t := pts_one h
def lcF (ga : FG) (t : FT) (fe : FE) (S : Env) : List D → R (List D)
  | [] => .ok []
  | d :: ds => (ga d S).nox >>= fun S1 => (t S1).nox >>= fun b => if b then (fe S1).nox >>= fun y => lcF ga t fe S ds >>= fun ys => .ok (y :: ys) else lcF ga t fe S ds
def lcE (fi : FI) (ga : FG) (t : FT) (fe : FE) (vs : List Nat) : FE := fun S => fi S >>= fun ds => if ds.length ≤ sizeLine then lcF ga t fe (wipeS S vs) ds >>= fun ys => .ok (.lst ys) else .fail
theorem lcF_exc {ga : FG} {t : FT} {fe : FE} {S : Env} {x : Exc} : ∀ ds, lcF ga t fe S ds ≠ .exc x
  | [] => by intro h; cases h
  | d :: ds => by
    intro h
    unfold lcF at h
    cases e1 : ga d S <;> rw [e1] at h <;> first | (cases h; done) | skip
    simp only [R.nox_ok, R.ok_bind] at h
    rename_i S1
    cases e2 : t S1 <;> rw [e2] at h <;> first | (cases h; done) | skip
    simp only [R.nox_ok, R.ok_bind] at h
    rename_i b
    cases b with
    | false => exact lcF_exc ds h
    | true =>
      rw [if_pos rfl] at h
      cases e3 : fe S1 <;> rw [e3] at h <;> first | (cases h; done) | skip
      simp only [R.nox_ok, R.ok_bind] at h
      cases e4 : lcF ga t fe S ds with
      | ok ys => rw [e4] at h; cases h
      | exc y => exact lcF_exc ds e4
      | fail => rw [e4] at h; cases h
theorem lc_go {ki gs vs : List Nat} {fi : FI} {ga : FG} {fe : FE} {σ : St} {H : Hp} {Q : VK} {gi : TG} {tt : TT} {te : TE} (hg : ∀ v σ H Q, RdG c.nx gs ga v σ H Q → gi v σ H Q) (ht : ∀ σ H Q, RdT c.nx t σ H Q → tt σ H Q) (he : ∀ σ H Q, RdE c.nx .st fe σ H Q → te σ H Q)
    (hgs : ∀ i, i ∈ gs → i ∈ vs) (q : RdE c .fr (lcE fi ga t fe vs) σ H Q) : tLc (RdI c ki fi) gi tt te vs σ H Q := by
  obtain ⟨G, S, rel, p⟩ := q
  refine ⟨G, S, rel, ?_⟩
  have p : PostE c .fr G S σ H Q (fi S >>= fun ds => if ds.length ≤ sizeLine then lcF ga t fe (wipeS S vs) ds >>= fun ys => .ok (.lst ys) else .fail) := p
  cases e0 : fi S with
  | exc x => rw [e0] at p; exact p
  | fail => rw [e0] at p; exact p
  | ok ds =>
    rw [e0, R.ok_bind] at p
    by_cases hz : ds.length ≤ sizeLine
    · rw [if_pos hz] at p
      intro J G1 H1 sp it Dl hD
      have relb := ((rel.grow sp).wipe vs).cw (W := liftX E0)
      have hD0 : H Dl = none := sp.h.free hD
      refine ⟨fun i m H2 => m = ds.length - i ∧ i ≤ ds.length ∧ ∃ G2 ac av, Step G1 H1 G2 H2 ∧ G2 Dl = none ∧ H2 Dl = some (.lst av) ∧ RDs c.k G2 ac av ∧ ac.length ≤ i ∧
          PostE c .fr G S σ H Q (lcF ga t fe (wipeS S vs) (ds.drop i) >>= fun ys => .ok (.lst (ac ++ ys))),
        ⟨_, rfl, Nat.zero_le _, G1, [], [], Step.new' sp.gh hD, sp.gh.free hD, upd_same, .nil, Nat.zero_le _, by simpa using p⟩, ?_⟩
      rintro i m H2 ⟨rfl, hle, G2, ac, av, sp2, hGD, hHD, hr, hal, p2⟩
      have rel2 : Rel c.nx G2 (wipeS S vs) (L2.wipe σ vs) H2 := relb.grow sp2
      have itm := it G2 H2 sp2.g sp2.gh fun j hj x ow => by
        obtain ⟨_, _, o, _, ho, _⟩ := (rel.grow sp).own ow
        rw [ho, sp2.h _ _ ho]
      by_cases hlt : i < ds.length
      · obtain ⟨d, hd⟩ : ∃ d, ds[i]? = some d := ⟨ds[i], List.getElem?_eq_getElem hlt⟩
        have hdrop : ds.drop i = d :: ds.drop (i + 1) := by
          rw [List.drop_eq_getElem_cons hlt]; congr 1; rw [List.getElem?_eq_getElem hlt] at hd; exact Option.some.inj hd
        rw [hdrop] at p2
        obtain ⟨hgo, hy⟩ := itm.2 i d hd
        refine .inr ⟨hgo, fun H' => ∃ G3 ac av, Step G1 H1 G3 H' ∧ G3 Dl = none ∧ H' Dl = some (.lst av) ∧ RDs c.k G3 ac av ∧ ac.length ≤ i + 1 ∧
          PostE c .fr G S σ H Q (lcF ga t fe (wipeS S vs) (ds.drop (i + 1)) >>= fun ys => .ok (.lst (ac ++ ys))), fun H' ⟨G3, r3⟩ => ⟨_, by omega, rfl, hlt, G3, r3⟩, fun x H3 hx => ?_⟩
        obtain ⟨G3, sp3, hd3⟩ := hy x H3 hx
        refine hg x _ H3 _ ⟨G3, wipeS S vs, d, rel2.grow sp3, hd3, ?_⟩
        unfold lcF at p2
        cases e1 : ga d (wipeS S vs) with
        | exc x => rw [e1] at p2; exact p2.elim
        | fail => rw [e1] at p2; exact p2.elim
        | ok S1 =>
          rw [e1, R.nox_ok, R.ok_bind] at p2
          intro G4 σ4 H4 sp4 rel4 f4
          refine ⟨wipe_eq (by rw [f4.len, wipe_length]) fun j hj => f4.sg j fun z => hj (hgs j z), ht σ4 H4 _ ⟨G4, S1, rel4, ?_⟩⟩
          cases e2 : t S1 with
          | exc x => rw [e2] at p2; exact p2.elim
          | fail => rw [e2] at p2; exact p2.elim
          | ok b =>
            rw [e2, R.nox_ok, R.ok_bind] at p2
            intro G5 H5 sp5
            have spA : Step G2 H2 G5 H5 := (sp3.trans sp4).trans sp5
            have nD : ∀ {G6 H6 : Hp}, Step G2 H2 G6 H6 → G6 Dl = none ∧ H6 Dl = some (.lst av) := fun {G6 H6} z => by
              refine ⟨?_, z.h _ _ hHD⟩
              cases q : G6 Dl with
              | none => rfl
              | some o =>
                rcases z.gr _ _ q with w | w
                · rw [hGD] at w; cases w
                · rw [hHD] at w; cases w
            cases b with
            | false =>
              rw [if_neg Bool.false_ne_true] at p2 ⊢
              exact ⟨G5, ac, av, sp2.trans spA, (nD spA).1, (nD spA).2, hr.mono spA.g, by omega, p2⟩
            | true =>
              rw [if_pos rfl] at p2 ⊢
              refine he σ4 H5 _ ⟨G5, S1, rel4.grow sp5, ?_⟩
              cases e3 : fe S1 with
              | exc x => rw [e3] at p2; exact p2.elim
              | fail => rw [e3] at p2; exact p2.elim
              | ok y =>
                rw [e3, R.nox_ok, R.ok_bind] at p2
                intro v G6 H6 sp6 hv
                have spB := spA.trans sp6
                refine ⟨av, (nD spB).2, by rw [← hr.length]; omega, ?_⟩
                have spC : Step G1 H1 G6 (upd H6 Dl (.lst (av ++ [v]))) := by
                  have z := sp2.trans spB
                  exact ⟨z.g, z.h.upd hD, z.gh.upd (nD spB).1, z.gr⟩
                refine ⟨G6, ac ++ [y], av ++ [v], spC, (nD spB).1, upd_same, (hr.mono spB.g).append (.cons hv .nil), by rw [List.length_append]; simp; omega, ?_⟩
                cases e4 : lcF ga t fe (wipeS S vs) (ds.drop (i + 1)) with
                | exc x => exact absurd e4 (lcF_exc _)
                | fail => rw [e4] at p2; exact p2.elim
                | ok ys => rw [e4] at p2; simpa using p2
      · have hi : i = ds.length := by omega
        subst hi
        rw [List.drop_length] at p2
        refine .inl ⟨itm.1 _ (Nat.le_refl _), ?_⟩
        have p2 : PostE c .fr G S σ H Q (.ok (.lst (ac ++ []))) := p2
        rw [List.append_nil] at p2
        exact p2 _ G2 H2 (sp.trans sp2) ⟨Dl, _, rfl, hGD, hD0, hHD, .lst hr⟩
    · rw [if_neg hz] at p; exact p.elim
theorem d_lc {elt iter : Expr} {ifs : List Expr} {scope : Scope} (own : List (Str × Nat)) {ki gs : List Nat} {fi : FI} {ga : FG} {fe : FE} (hc : X.calm = true) (hN : X.N.Nodup) (hi : PI' X c ki tg iter fi) (ok : BlkOk X.N X.env.scope scope own)
    (hg : ∀ (s : Shared) (H : Hp) (C : Addr) (cl : List (Str × Addr)) (fp : List Addr), PG' (X.blk s H scope (compEnvC scope cl C X.env) fp) c.nx gs tg ga) (ht : ∀ (s : Shared) (H : Hp) (C : Addr) (cl : List (Str × Addr)) (fp : List Addr), PTs' (X.blk s H scope (compEnvC scope cl C X.env) fp) c.nx ifs t)
    (he : ∀ (s : Shared) (H : Hp) (C : Addr) (cl : List (Str × Addr)) (fp : List Addr), PE' (X.blk s H scope (compEnvC scope cl C X.env) fp) c.nx .st elt fe) (hgs : ∀ i, i ∈ gs → i ∈ own.map (·.2) := by decide) (hs : ∀ x, foldedSetIterable iter X.env x = pure x := by intro _; rfl) :
    PE' X c .fr (.ListComp elt [⟨tg, iter, ifs, 0⟩] scope pos) (lcE fi ga t fe (own.map (·.2))) :=
  peI (pe_lc hc hN hi ok hg ht he hs) fun σ H Q q => lc_go (fun _ _ _ _ z => z) (fun _ _ _ z => z) (fun _ _ _ z => z) hgs q
end
end M
set_option Elab.async false
set_option linter.all false
set_option maxRecDepth 100000
set_option maxHeartbeats 4000000
namespace M
open PySem L2
abbrev kdOf (fr : Bool) : Kd := if fr then .fr else .st
def PostF (k : Kn) (fr : Bool) (G0 H : Hp) (Q : VK) (E : XK) : R D → Prop
  | .ok d => ∀ v G' H', Step G0 H G' H' → Res k H G' H' d v (kdOf fr) → Q v H'
  | .exc x => PXs ⟨k, H, G0, liftX E⟩ x
  | .fail => False
def SpF (k : Kn) (fr : Bool) (n : Nat) (den : List D → R D) : Sp := fun vs H Q E => vs.length = n ∧ ∃ G0 ds, Ex G0 H ∧ RDs k G0 ds vs ∧ PostF k fr G0 H Q E (den ds)
def startS (n : Nat) (ds : List D) : Env := ds.map (fun d => some ⟨false, d⟩) ++ List.replicate (n - ds.length) none
def endF (fr : Bool) : R (Fl × Env) → R D
  | .ok (.rt d, _) => .ok d
  | .ok (.nx, _) => if fr then .fail else .ok .non
  | .ok _ => .fail
  | .exc x => .exc x
  | .fail => .fail
def runF (fr : Bool) (n : Nat) (s : FS) (ds : List D) : R D := endF fr (s (startS n ds))
theorem rel_start {c : Cf} {N : List Str} {ds : List D} {vs : List V} (e : Ex c.G0 c.H0) (r : RDs c.k c.G0 ds vs) : Rel c c.G0 (startS N.length ds) (L2.start N vs) c.H0 := by
  have own : ∀ (i : Nat) (d : D), (startS N.length ds)[i]? ≠ some (some ⟨true, d⟩) := fun i d q => by
    unfold startS at q
    rw [List.getElem?_append] at q
    split at q
    · rw [List.getElem?_map] at q
      cases h : ds[i]? <;> rw [h] at q <;> cases q
    · rw [List.getElem?_replicate] at q
      split at q <;> cases q
  refine ⟨Step.refl e, by simp [startS, L2.start, r.length], fun i d q => ?_, fun i d q => absurd q (own i d), fun i j a o => ?_⟩
  · unfold startS at q
    rw [List.getElem?_append] at q
    split at q
    · rename_i hlt
      rw [List.getElem?_map] at q
      cases h : ds[i]? with
      | none => rw [h] at q; cases q
      | some d' =>
        rw [h] at q; cases q
        obtain ⟨v, h1, h2⟩ := r.get h
        refine ⟨v, ?_, h2⟩
        unfold L2.start
        rw [List.getElem?_append_left (by rw [List.length_map]; exact (List.getElem?_eq_some_iff.mp h1).1), List.getElem?_map, h1]; rfl
    · rw [List.getElem?_replicate] at q
      split at q <;> cases q
  · obtain ⟨⟨d, q⟩, _⟩ := o
    exact absurd q (own i d)
theorem body_ok {k : Kn} {fr : Bool} {as : List Nat} {N : List Str} {X : Cx} {body : List Stmt} {s : FS} {H : Hp} {vs : List V} {Q : VK} {E : XK} {n : Nat} (hb : ∀ G0, PB' X ⟨k, H, G0, liftX E⟩ fr as body s) (q : SpF k fr n (runF fr N.length s) vs H Q E) :
    ∃ t, PSs X body t ∧ t { nx := fun _ H' => Q .non H', rt := Q } (L2.start N vs) H := by
  obtain ⟨hl, G0, ds, e, r, p⟩ := q
  refine ⟨_, hb G0, G0, _, rel_start (c := ⟨k, H, G0, liftX E⟩) e r, ?_⟩
  unfold runF at p
  cases e1 : s (startS N.length ds) with
  | exc x => rw [e1] at p; exact p
  | fail => rw [e1] at p; exact p.elim
  | ok z =>
    rw [e1] at p
    obtain ⟨fl, S1⟩ := z
    cases fl with
    | nx =>
      cases fr with
      | true => exact p.elim
      | false => exact fun G' σ' H' _ rel _ => p .non G' H' rel.st .non
    | bk => exact p.elim
    | ct => exact p.elim
    | rt d =>
      intro v G' H' st rv _
      refine p v G' H' st ?_
      cases fr with
      | true => exact rv
      | false => exact rv
section
variable {P : Program} {w : World} {K : PySem.W.Frag} {mg : Str → Option Value} {base : Heap}
theorem fn_ok {k : Kn} {fr : Bool} {as : List Nat} {x qual : Str} {params : Arguments} {body : List Stmt} {scope : Scope} {dvs : List V} {kws : List (Str × V)} {f : Addr} {fd : FuncData} {N ps : List Str} {lv : Nat} {s : FS} (F : FunD K x qual params body scope dvs kws f fd) (S : FnScope N ps scope)
    (hb : ∀ (cdv : Value) (A : Around) (outer : List PySem.Env) (sh : Shared) (H G0 : Hp), Room lv (A.deeper (PyProof.Rows.envOfC qual scope sh.heap.objs.size f cdv)) → PB' (cxOf CX0 P w K mg base N qual scope f cdv A outer sh H E0).nox ⟨k, H, G0, liftX E0⟩ fr as body s) :
    FnOk P w K mg base CX0 (lv + 1) f fd ps (SpF k fr ps.length (fun ds => (runF fr N.length s ds).nox)) := by
  refine F.ok S (fun vs H Q E q => q.1) fun cdv A outer sh H vs Q E hr q => ?_
  have q' : SpF k fr ps.length (runF fr N.length s) vs H Q E0 := by
    obtain ⟨hl, G0, ds, e, r, p⟩ := q
    refine ⟨hl, G0, ds, e, r, ?_⟩
    dsimp only at p
    cases e1 : runF fr N.length s ds with
    | ok d => rw [e1] at p; exact p
    | exc x => rw [e1] at p; exact p.elim
    | fail => rw [e1] at p; exact p.elim
  obtain ⟨t, h1, h2⟩ := body_ok (X := (cxOf CX0 P w K mg base N qual scope f cdv A outer sh H E0).nox) (fun G0 => hb cdv A outer sh H G0 hr) q'
  exact ⟨t, h1.nox, h2⟩
end
structure Fn0 (X : Cx) (k : Kn) (x : Str) (n : Nat) (fr : Bool) (den : List D → R D) : Prop where
  ex : ∃ (f : Addr) (fd : FuncData) (lv : Nat) (ps : List Str), ps.length = n ∧ FnOk X.prog X.w X.K X.mg X.base CX0 lv f fd ps (SpF k fr n den) ∧ Room lv X.A ∧ X.mg x = some (.ref f) ∧ PySem.W.keepIn X.K (.ref f) = true ∧ Binds X.K fd ps []
section
variable {X : Cx} {c : Cf} {kd k1 k2 k3 : Kd} {a b e : Expr} {pos : Pos} {fr : Bool} {den : List D → R D}
theorem call_go {n : Nat} {fa : FA} {σ : St} {H : Hp} {Q : VK} (hl : ∀ S ds, fa S = .ok ds → ds.length = n) (q : RdE c (kdOf fr) (eC den fa) σ H Q) : RdA c false fa σ H fun vs H1 => SpF c.k fr n den (vs ++ []) H1 Q E0 := by
  obtain ⟨G, S, rel, p⟩ := q
  have p : PostE c (kdOf fr) G S σ H Q (fa S >>= fun ds => (den ds).nox) := p
  refine ⟨G, S, rel, ?_⟩
  cases e0 : fa S with
  | exc x => rw [e0] at p; exact p
  | fail => rw [e0] at p; exact p
  | ok ds =>
    rw [e0] at p
    intro vs G1 H1 s1 q1
    have q1 : RDs c.k G1 ds vs := q1
    rw [List.append_nil]
    refine ⟨by rw [← q1.length]; exact hl S ds e0, G1, ds, s1.gh, q1, ?_⟩
    have p : PostE c (kdOf fr) G S σ H Q (den ds).nox := p
    cases e1 : den ds with
    | ok d => rw [e1] at p; exact fun v G' H' s2 r2 => p v G' H' (s1.trans s2) (r2.mono s1.h)
    | exc x => rw [e1] at p; exact p.elim
    | fail => rw [e1] at p; exact p.elim
def Len (n : Nat) (fa : FA) : Prop := ∀ S ds, fa S = .ok ds → ds.length = n
theorem len_n : Len 0 aN := fun S ds h => by cases h; rfl
theorem len_c {n : Nat} {f : FE} {fa : FA} (h : Len n fa) : Len (n + 1) (aC f fa) := fun S ds q => by
  unfold aC at q
  cases e1 : f S with
  | exc x => rw [e1] at q; cases q
  | fail => rw [e1] at q; cases q
  | ok d =>
    rw [e1] at q
    have q : (fa S >>= fun xs => R.ok (d :: xs)) = .ok ds := q
    cases e2 : fa S with
    | exc x => rw [e2] at q; cases q
    | fail => rw [e2] at q; cases q
    | ok xs => rw [e2] at q; cases q; simp [h S xs e2]
theorem d_call {x : Str} {n : Nat} {p : Pos} {es : List Expr} {fa : FA} (F : Fn0 X c.k x n fr den) (ha : PA' X c false (e :: es) fa) (hl : Len n fa) (hg : Gl X x := by rfl) (hdb : (x == ("__debug__" : Str)) = false := by decide)
    (hs : starEach (e :: es) X.env = (false, eval e X.env) :: starEach es X.env := by rfl) (hs2 : ((backTo pos (starEach es X.env)).any fun x => x.1) = false := by rfl) : PE' X c (kdOf fr) (.Call (.Name x p) (e :: es) [] pos) (eC den fa) := by
  obtain ⟨f, fd, lv, ps, hn, ok, hr, hm, hk, hb⟩ := F.ex
  exact peI (pe_call ok hr hg hm hk hb .nil pass0 ha hdb hs hs2) fun σ H Q q => call_go hl q
mutual
def D.noMut : D → Bool
  | .lst _ => false
  | .dic _ _ => false
  | .dit _ _ => false
  | .dkf _ _ => false
  | .tup xs => D.noMuts xs
  | .obj _ _ => false
  | .scr _ => false
  | _ => true
def D.noMuts : List D → Bool
  | [] => true
  | x :: xs => x.noMut && D.noMuts xs
end
noncomputable def cut (S : Env) (σ : St) (H : Hp) : Hp := fun b => open Classical in if ∃ i, OwnAt S σ i b then none else H b
theorem cut_own {S : Env} {σ : St} {H : Hp} {i : Nat} {a : Addr} (h : OwnAt S σ i a) : cut S σ H a = none := by unfold cut; rw [if_pos ⟨i, h⟩]
theorem cut_of {S : Env} {σ : St} {H : Hp} {b : Addr} {o : HO} (h : cut S σ H b = some o) : H b = some o ∧ ∀ i, ¬ OwnAt S σ i b := by
  unfold cut at h
  split at h
  · cases h
  · rename_i hn; exact ⟨h, fun i q => hn ⟨i, q⟩⟩
theorem cut_get {S : Env} {σ : St} {H : Hp} {b : Addr} (h : ∀ i, ¬ OwnAt S σ i b) : cut S σ H b = H b := by
  unfold cut; rw [if_neg (fun ⟨i, q⟩ => h i q)]
theorem Cont.notup {k : Kn} {G : Hp} {d : D} {o : HO} (c : Cont k G d o) : (∀ vs, o ≠ .tup vs) ∧ (∀ q vs, o ≠ .frz q vs) := by
  cases c <;> exact ⟨fun _ z => (by cases z), fun _ _ z => (by cases z)⟩
mutual
theorem RD.cut {c : Cf} {G H H' : Hp} {S : Env} {σ : St} (rel : Rel c G S σ H) (e : Ex H H') : ∀ {d : D} {v : V}, RD c.k H' d v → d.noMut = true → RD c.k (M.cut S σ H') d v
  | _, _, .non, _ => .non
  | _, _, .bl b, _ => .bl b
  | _, _, .int b, _ => .int b
  | _, _, .str b, _ => .str b
  | _, _, .ty b, _ => .ty b
  | _, _, .cls b, _ => .cls b
  | _, _, .tup h r, q => by
    simp only [D.noMut] at q
    refine .tup ?_ (RDs.cut rel e r q)
    rcases h with h | h
    · refine .inl ?_
      rw [cut_get]; exact h
      intro i ow
      obtain ⟨_, _, o, d, ho, _, ct⟩ := rel.own ow
      have := e _ _ ho
      rw [h] at this; cases this
      exact ct.notup.1 _ rfl
    · exact .inr h
  | _, _, .scr _, q => by simp [D.noMut] at q
  | _, _, .lst _ _, q => by simp [D.noMut] at q
  | _, _, .dic _ _ _, q => by simp [D.noMut] at q
  | _, _, .dit _ _ _, q => by simp [D.noMut] at q
  | _, _, .dkf _ _ _, q => by simp [D.noMut] at q
  | _, _, .obj _ _ _, q => by simp [D.noMut] at q
theorem RDs.cut {c : Cf} {G H H' : Hp} {S : Env} {σ : St} (rel : Rel c G S σ H) (e : Ex H H') : ∀ {ds : List D} {vs : List V}, RDs c.k H' ds vs → D.noMuts ds = true → RDs c.k (M.cut S σ H') ds vs
  | _, _, .nil, _ => .nil
  | _, _, .cons a b, q => by
    simp only [D.noMuts, Bool.and_eq_true] at q
    exact .cons (RD.cut rel e a q.1) (RDs.cut rel e b q.2)
end
end
end M
set_option Elab.async false
set_option linter.all false
set_option maxRecDepth 100000
set_option maxHeartbeats 4000000
namespace M
open PySem L2
section
variable {X : Cx} {k : Kn}
theorem CallR.or {f : Value} {r r' : List V → Hp → VK → Prop} (h : CallR X f r) (h' : CallR X f r') : CallR X f (fun xs H Q => r xs H Q ∨ r' xs H Q) := fun pins s σ H xs us Q I rx q => by
  rcases q with q | q
  · exact h pins s σ H xs us Q I rx q
  · exact h' pins s σ H xs us Q I rx q
theorem cl1 {f : Value} {kd : Kd} {g : D → R D} {r : List V → Hp → VK → Prop} (h : CallR X f r) (q : ∀ G H x v d, Ex G H → Now k G H x v → g x = .ok d → ∀ Q : VK, (∀ w G' H', Step G H G' H' → Res k H G' H' d w kd → Q w H') → r [v] H Q) :
    ClR X k f kd (fun xs => match xs with | [x] => g x | _ => .fail) := by
  refine ⟨r, h, ?_⟩
  intro G H ds vs d e ns hg Q p
  cases ns with
  | nil => cases hg
  | cons n1 n2 =>
    cases n2 with
    | nil => exact q G H _ _ d e n1 hg Q p
    | cons _ _ => cases hg
theorem cl2 {f : Value} {kd : Kd} {g : D → D → R D} {r : List V → Hp → VK → Prop} (h : CallR X f r) (q : ∀ G H x v y u d, Ex G H → Now k G H x v → Now k G H y u → g x y = .ok d → ∀ Q : VK, (∀ w G' H', Step G H G' H' → Res k H G' H' d w kd → Q w H') → r [v, u] H Q) :
    ClR X k f kd (fun xs => match xs with | [x, y] => g x y | _ => .fail) := by
  refine ⟨r, h, ?_⟩
  intro G H ds vs d e ns hg Q p
  cases ns with
  | nil => cases hg
  | cons n1 n2 =>
    cases n2 with
    | nil => cases hg
    | cons n2 n3 =>
      cases n3 with
      | nil => exact q G H _ _ _ _ d e n1 n2 hg Q p
      | cons _ _ => cases hg
def f1 (g : D → R D) : List D → R D := fun xs => match xs with | [x] => g x | _ => .fail
def f2 (g : D → D → R D) : List D → R D := fun xs => match xs with | [x, y] => g x y | _ => .fail
def lenD : D → R D
  | .str x => if x.length ≤ sizeLine then .ok (.int x.length) else .fail
  | .lst xs => .ok (.int xs.length)
  | .tup xs => .ok (.int xs.length)
  | .scr ns => .ok (.int ns.length)
  | .dic ks _ => .ok (.int ks.length)
  | .dkf ks _ => .ok (.int ks.length)
  | _ => .fail
theorem call_lenFz : CallR X (.builtin "len") (fun xs H Q => ∃ a o kvs, xs = [V.ref a] ∧ H a = some (.frz o (.dK kvs)) ∧ Q (.int kvs.length) H) := by
  intro pins s σ H xs us Q I r h
  obtain ⟨a, o, kvs, rfl, ha, q⟩ := h
  obtain ⟨u, rfl, ru⟩ := vals1 r
  cases ru
  exact d_len I (.inr ⟨o, ha⟩) fun t s' I' => ⟨.int kvs.length, H, I', ⟨t, rfl⟩, q⟩
theorem c_len (hk : k.K = X.K) : ClR X k (.builtin "len") .st (f1 lenD) := cl1 ((call_len.or call_lenD).or call_lenFz) fun G H x v d e n hg Q p => by
  unfold lenD at hg
  split at hg
  · split at hg
    · rename_i hl
      cases hg; obtain rfl := n.str
      exact .inl (.inl ⟨_, _, rfl, ⟨hl, rfl⟩, p _ G H (Step.refl e) (.int _)⟩)
    · cases hg
  · cases hg; obtain ⟨a, vs, rfl, ha, r⟩ := n.lst e
    exact .inl (.inl ⟨_, _, rfl, .inl ⟨vs, SqL.of ha, rfl⟩, by rw [← r.length]; exact p _ G H (Step.refl e) (.int _)⟩)
  · cases hg; obtain ⟨a, vs, rfl, ha, r⟩ := n.tup
    exact .inl (.inl ⟨_, _, rfl, .inr ⟨vs, hk ▸ e.sqT ha.t, rfl⟩, by rw [← r.length]; exact p _ G H (Step.refl e) (.int _)⟩)
  · cases hg; obtain ⟨a, rfl, ha⟩ := n.scr
    exact .inl (.inl ⟨_, _, rfl, .inl ⟨_, hk ▸ e.sqL ha, rfl⟩, by rw [List.length_map]; exact p _ G H (Step.refl e) (.int _)⟩)
  · cases hg; obtain ⟨a, vs, rfl, ha, l, r⟩ := n.dic e
    refine .inl (.inr ⟨a, _, rfl, ha, ?_⟩)
    rw [List.length_zip, ← r.length, ← l, Nat.min_self]; exact p _ G H (Step.refl e) (.int _)
  · cases hg; obtain ⟨a, o, vs, rfl, ha, l, r⟩ := n.dkf e
    refine .inr ⟨a, o, _, rfl, ha, ?_⟩
    rw [List.length_zip, ← r.length, ← l, Nat.min_self]; exact p _ G H (Step.refl e) (.int _)
  · cases hg
def absD : D → R D
  | .int i => .ok (.int (if i < 0 then -i else i))
  | _ => .fail
theorem c_abs : ClR X k (.builtin "abs") .st (f1 absD) := cl1 call_abs fun G H x v d e n hg Q p => by
  cases x <;> simp only [absD] at hg <;> first | (cases hg; done) | skip
  cases hg; obtain rfl := n.int
  exact ⟨_, rfl, p _ G H (Step.refl e) (.int _)⟩
def intD : D → R D
  | .int i => .ok (.int i)
  | .bl b => .ok (.int (if b then 1 else 0))
  | _ => .fail
theorem c_int : ClR X k (.type "int") .st (f1 intD) := cl1 call_int1 fun G H x v d e n hg Q p => by
  cases x <;> simp only [intD] at hg <;> first | (cases hg; done) | skip
  · cases hg; obtain rfl := n.bl
    exact .inr ⟨_, rfl, p _ G H (Step.refl e) (.int _)⟩
  · cases hg; obtain rfl := n.int
    exact .inl ⟨_, rfl, p _ G H (Step.refl e) (.int _)⟩
def min2D : D → D → R D
  | .int i, .int j => .ok (.int (if j < i then j else i))
  | _, _ => .fail
theorem c_min2 (hc : X.calm = true) : ClR X k (.builtin "min") .st (f2 min2D) := cl2 (call_min2 hc) fun G H x v y u d e n m hg Q p => by
  unfold min2D at hg
  split at hg
  · cases hg; obtain rfl := n.int; obtain rfl := m.int
    exact ⟨_, _, rfl, p _ G H (Step.refl e) (.int _)⟩
  · cases hg
def asI : List D → Option (List Int)
  | [] => some []
  | .int i :: r => (asI r).map (i :: ·)
  | _ => none
def asB : List D → Option (List Bool)
  | [] => some []
  | .bl i :: r => (asB r).map (i :: ·)
  | _ => none
def asS : List D → Option (List Str)
  | [] => some []
  | .str i :: r => (asS r).map (i :: ·)
  | _ => none
theorem asI_of {G : Hp} : ∀ {ds : List D} {vs : List V} {ns : List Int}, RDs k G ds vs → asI ds = some ns → vs = ns.map V.int
  | _, _, ns, .nil, h => by cases h; rfl
  | _, _, ns, .cons a b, h => by
    cases a with
    | int i =>
      simp only [asI, Option.map_eq_some_iff] at h
      obtain ⟨r, h1, rfl⟩ := h
      rw [asI_of b h1]; rfl
    | _ => simp [asI] at h
theorem asS_of {G : Hp} : ∀ {ds : List D} {vs : List V} {ns : List Str}, RDs k G ds vs → asS ds = some ns → vs = ns.map V.str
  | _, _, ns, .nil, h => by cases h; rfl
  | _, _, ns, .cons a b, h => by
    cases a with
    | str i =>
      simp only [asS, Option.map_eq_some_iff] at h
      obtain ⟨r, h1, rfl⟩ := h
      rw [asS_of b h1]; rfl
    | _ => simp [asS] at h
@[simp] theorem asI_map (ns : List Int) : asI (ns.map D.int) = some ns := by
  induction ns with
  | nil => rfl
  | cons n ns ih => simp [asI, ih]
@[simp] theorem asB_map (ns : List Bool) : asB (ns.map D.bl) = some ns := by
  induction ns with
  | nil => rfl
  | cons n ns ih => simp [asB, ih]
@[simp] theorem asS_map (ns : List Str) : asS (ns.map D.str) = some ns := by
  induction ns with
  | nil => rfl
  | cons n ns ih => simp [asS, ih]
def minL : List Int → Int
  | [] => 0
  | x :: r => r.foldl (fun a b => if b < a then b else a) x
def tupD : D → R D
  | .lst ds => .ok (.tup ds)
  | .tup ds => .ok (.tup ds)
  | _ => .fail
theorem c_tup (hk : k.K = X.K) : ClR X k (.type "tuple") .st (f1 tupD) := cl1 call_tuple_of fun G H x v d e n hg Q p => by
  cases x <;> simp only [tupD] at hg <;> first | (cases hg; done) | skip
  · cases hg; obtain ⟨a, vs, rfl, ha, r⟩ := n.tup
    exact ⟨a, vs, rfl, .inr ⟨hk ▸ e.sqT ha.t, p _ G H (Step.refl e) (.tup ha r)⟩⟩
  · cases hg; obtain ⟨a, vs, rfl, ha, r⟩ := n.lst e
    exact ⟨a, vs, rfl, .inl ⟨SqL.of ha, fun l hl => p _ _ _ (Step.new e hl) (.tup (SqU.of upd_same) (r.mono (Ex.new (e.free hl))))⟩⟩
def lstD : D → R D
  | .lst ds => .ok (.lst ds)
  | .tup ds => .ok (.lst ds)
  | _ => .fail
theorem c_lst (hk : k.K = X.K) : ClR X k (.type "list") .fr (f1 lstD) := cl1 call_list_of fun G H x v d e n hg Q p => by
  cases x <;> simp only [lstD] at hg <;> first | (cases hg; done) | skip
  · cases hg; obtain ⟨a, vs, rfl, ha, r⟩ := n.tup
    exact ⟨a, vs, rfl, .inr (hk ▸ e.sqT ha.t), fun l hl => p _ _ _ (Step.new' e hl) ⟨l, _, rfl, e.free hl, hl, upd_same, .lst r⟩⟩
  · cases hg; obtain ⟨a, vs, rfl, ha, r⟩ := n.lst e
    exact ⟨a, vs, rfl, .inl (SqL.of ha), fun l hl => p _ _ _ (Step.new' e hl) ⟨l, _, rfl, e.free hl, hl, upd_same, .lst r⟩⟩
def flatD : D → Bool
  | .non => true
  | .bl _ => true
  | .int _ => true
  | .str _ => true
  | _ => false
theorem RD.flat {G : Hp} {d : D} {v : V} (r : RD k G d v) (h : flatD d = true) : flatV v = true := by
  cases r <;> first | rfl | (simp [flatD] at h; done)
theorem RDs.flat {G : Hp} : ∀ {ds : List D} {vs : List V}, RDs k G ds vs → ds.all flatD = true → vs.all flatV = true
  | _, _, .nil, _ => rfl
  | _, _, .cons a b, h => by
    simp only [List.all_cons, Bool.and_eq_true] at h ⊢
    exact ⟨a.flat h.1, RDs.flat b h.2⟩
theorem RD.eqV {G : Hp} {d d' : D} {v v' : V} (r : RD k G d v) (r' : RD k G d' v') (h : flatD d = true) (h' : flatD d' = true) : L2.eqV v v' = deq d d' := by
  cases r <;> first | (simp [flatD] at h; done) | skip
  all_goals (cases r' <;> first | (simp [flatD] at h'; done) | (simp [L2.eqV, deq]; done))
theorem RDs.inV {G : Hp} {x : D} {u : V} (r : RD k G x u) (hx : flatD x = true) : ∀ {ds : List D} {vs : List V}, RDs k G ds vs → ds.all flatD = true → L2.inV u vs = ds.any fun z => deq z x
  | _, _, .nil, _ => rfl
  | _, _, .cons a b, h => by
    simp only [List.all_cons, Bool.and_eq_true] at h
    have ih := RDs.inV r hx b h.2
    simp only [L2.inV, List.any_cons] at ih ⊢
    rw [ih, a.eqV r h.1 hx]
theorem toPs_any (n : Nat) (x : D) (hx : dok n x = true) : ∀ {ds : List D} {m : Nat}, doks m ds = true → ((D.toPs ds).any fun z => PyData.eqv z x.toP) = ds.any fun z => deq z x
  | [], _, _ => by simp [D.toPs]
  | d :: ds, m, h => by
    simp only [doks, Bool.and_eq_true] at h
    simp only [D.toPs, List.any_cons]
    rw [toPs_any n x hx h.2, deq_eqv m n d x h.1 hx]
def signD : D → Str → Option Bool
  | .str a, z => match a.cps.toList with
    | [c] => some (decide (c ∈ z.cps.toList))
    | _ => none
  | _, _ => none
theorem signD_of {x : D} {z : Str} {b : Bool} (h : signD x z = some b) : ∃ c, x = .str ⟨#[c]⟩ ∧ b = decide (c ∈ z.cps.toList) := by
  cases x with
  | str a =>
    simp only [signD] at h
    split at h
    · rename_i c hc
      cases h
      obtain ⟨⟨l⟩⟩ := a
      cases hc
      exact ⟨c, rfl, rfl⟩
    · cases h
  | _ => simp [signD] at h
def inD' (x : D) : D → Option Bool
  | .lst ds => if flatD x && ds.all flatD then some (ds.any fun z => deq z x) else if dok 60 x && doks 59 ds then some (ds.any fun z => deq z x) else none
  | .tup ds => if flatD x && ds.all flatD then some (ds.any fun z => deq z x) else none
  | .str z => signD x z
  | _ => none
def inD (x y : D) : R D := match inD' x y with | some b => .ok (.bl b) | none => .fail
def notInD (x y : D) : R D := match inD' x y with | some b => .ok (.bl (!b)) | none => .fail
def rSign (neg : Bool) : R2 := fun x y H Q => ∃ (c : Nat) (z : Str), x = .str ⟨#[c]⟩ ∧ y = .str z ∧ Q (.bl (if neg = true then !decide (c ∈ z.cps.toList) else decide (c ∈ z.cps.toList))) H
theorem in_go {neg : Bool} (hk : k.K = X.K) {G H : Hp} {x y : D} {u v : V} {b : Bool} {Q : VK} (e : Ex G H) (nx : Now k G H x u) (ny : Now k G H y v) (hg : inD' x y = some b) (q : Q (.bl (if neg = true then !b else b)) H) :
    (rIn X.K neg u v H Q ∨ ∃ d ds, Dp X.K H u d ∧ Dp X.K H v (.list ds) ∧ SeqAt.shaped d = true ∧ SeqAt.shaped (.list ds) = true ∧ Q (.bl (if neg = true then !(ds.any fun z => PyData.eqv z d) else ds.any fun z => PyData.eqv z d)) H) ∨ rSign neg u v H Q := by
  cases y with
  | str z =>
    simp only [inD'] at hg
    obtain ⟨c, rfl, rfl⟩ := signD_of hg
    obtain rfl := nx.str
    obtain rfl := ny.str
    exact .inr ⟨c, z, rfl, rfl, q⟩
  | lst ds =>
    simp only [inD'] at hg
    obtain ⟨a, vs, rfl, ha, r⟩ := ny.lst e
    split at hg
    · rename_i hf
      simp only [Bool.and_eq_true] at hf
      cases hg
      have rx := nx.rd e
      have r' := r.mono e
      exact .inl <| .inl ⟨a, vs, rfl, .inl (SqL.of ha), rx.flat hf.1, r'.flat hf.2, by rw [RDs.inV rx hf.1 r' hf.2]; exact q⟩
    · split at hg
      · rename_i hf
        simp only [Bool.and_eq_true] at hf
        cases hg
        have hl : dok 60 (.lst ds) = true := by simp only [dok]; exact hf.2
        have ds' : SeqAt.shaped (.list (D.toPs ds)) = true := by
          have := dok_shaped hl
          simpa only [D.toP] using this
        exact .inl <| .inr ⟨x.toP, D.toPs ds, hk ▸ (nx.rd e).dp 60 hf.1, hk ▸ .lst (SqL.of ha) ((r.mono e).dp 59 hf.2), dok_shaped hf.1, ds', by rw [toPs_any 60 x hf.1 hf.2]; exact q⟩
      · cases hg
  | tup ds =>
    simp only [inD'] at hg
    obtain ⟨a, vs, rfl, ha, r⟩ := ny.tup
    split at hg
    · rename_i hf
      simp only [Bool.and_eq_true] at hf
      cases hg
      have rx := nx.rd e
      have r' := r.mono e
      exact .inl <| .inl ⟨a, vs, rfl, .inr (hk ▸ e.sqT ha.t), rx.flat hf.1, r'.flat hf.2, by rw [RDs.inV rx hf.1 r' hf.2]; exact q⟩
    · cases hg
  | _ => simp [inD'] at hg
theorem o_in (hk : k.K = X.K) (hu : X.A.units + 65 < cLine) : Op2 X k (compareOp .In) .st inD := by
  refine ⟨_, (op_in_seq.or (op_inD hu)).or op_in_sign, ?_⟩
  intro G H x y u v d e nx ny hg Q q
  unfold inD at hg
  split at hg
  · rename_i b hb
    cases hg
    exact in_go (neg := false) hk e nx ny hb (q _ G H (Step.refl e) (.bl _))
  · cases hg
theorem o_notin (hk : k.K = X.K) (hu : X.A.units + 65 < cLine) : Op2 X k (compareOp .NotIn) .st notInD := by
  refine ⟨_, (op_notIn_seq.or (op_notInD hu)).or op_notIn_sign, ?_⟩
  intro G H x y u v d e nx ny hg Q q
  unfold notInD at hg
  split at hg
  · rename_i b hb
    cases hg
    exact in_go (neg := true) hk e nx ny hb (q _ G H (Step.refl e) (.bl _))
  · cases hg
end
end M
set_option Elab.async false
set_option linter.all false
set_option maxRecDepth 100000
set_option maxHeartbeats 4000000
namespace M
open PySem L2
section
variable {X : Cx} {c : Cf} {kd k1 k2 k3 : Kd} {a b e : Expr} {f g h : FE} {pos apos cpos p' : Pos} {fr : Bool} {x : Str}
def ownL (i : Nat) (S : Env) : R (List D) := match S[i]? with
  | some (some ⟨true, .lst ds⟩) => .ok ds
  | _ => .fail
theorem ownL_of {i : Nat} {S : Env} {ds : List D} (h : ownL i S = .ok ds) : S[i]? = some (some ⟨true, .lst ds⟩) := by
  unfold ownL at h
  split at h
  · cases h; assumption
  · cases h
theorem ownL_exc {i : Nat} {S : Env} {x : Exc} : ownL i S ≠ .exc x := by unfold ownL; split <;> intro h <;> cases h
def sApp (i : Nat) (f : FE) : FS := fun S => ownL i S >>= fun ds => f S >>= fun d => if ds.length < sizeLine then .ok (.nx, S.set i (some ⟨true, .lst (ds ++ [d])⟩)) else .fail
theorem s_app (i : Nat) (he : PE' X c .st e f) (hN : X.N[i]? = some x := by rfl) (hv : Vis X.env.scope x := by first | exact Or.inl rfl | exact Or.inr (Or.inl rfl) | exact Or.inr (Or.inr rfl)) (hd : (x == ("__debug__" : Str)) = false := by decide)
    (hcd : (x == ("__classdict__" : Str)) = false := by decide) (h2 : (apos.endLine == cpos.line) = true := by rfl) (h3 : starEach [e] X.env = [(false, eval e X.env)] := by rfl) (hs : swapsWith (.Call (.Attribute (.Name x p') "append" apos) [e] [] cpos) none pos.line X.env = pure false := by rfl) :
    PS' X c fr [i + 1000] (.Expr (.Call (.Attribute (.Name x p') "append" apos) [e] [] cpos) pos) (sApp i f) :=
  psI (ps_expr (pe_bm PySem.F.plainAttrs_list PySem.F.slot_list_append PySem.F.type_list_append mt_append (pe_var hN hv hd hcd) (pa_cons he pa_nil h3) rfl (by rw [h3]; rfl) h2 h3 rfl) hs) fun Dn σ H ⟨G, S, rel, p⟩ => by
    have p : PostS c fr [i + 1000] G S σ H Dn (ownL i S >>= fun ds => f S >>= fun d => if ds.length < sizeLine then .ok (.nx, S.set i (some ⟨true, .lst (ds ++ [d])⟩)) else .fail) := p
    cases e0 : ownL i S with
    | exc x => exact absurd e0 ownL_exc
    | fail => rw [e0] at p; exact p.elim
    | ok ds =>
      rw [e0, R.ok_bind] at p
      have hS := ownL_of e0
      obtain ⟨l, o, es, hg, h0, ho, ct⟩ := rel.ow i _ hS
      cases ct with
      | @lst ds' vs r =>
        refine ⟨_, es, .inl ⟨rfl, vs, SqL.of ho⟩, ?_⟩
        refine rdE_go (g := fun d => if ds.length < sizeLine then .ok (Fl.nx, S.set i (some ⟨true, .lst (ds ++ [d])⟩)) else .fail) (Post := PostS c fr [i + 1000] G S σ H Dn) rel p (fun _ z => z _) (fun z => z) fun d v G' H' sp q p1 => ?_
        by_cases hl : ds.length < sizeLine
        · rw [if_pos hl] at p1
          have rel' := rel.grow sp
          have ow : OwnAt S σ i l := ⟨⟨_, hS⟩, es⟩
          refine ⟨l, vs, v, rfl, rfl, sp.h _ _ ho, by rw [← r.length]; exact hl, p1 G' σ _ sp.g (rel'.mut ow (.lst ((r.mono sp.g).append (.cons q .nil)))) ((Frm.step (as := []) rel sp).trans (Frm.mut rel' ow))⟩
        · rw [if_neg hl] at p1; exact p1.elim
def sExt (i : Nat) (f : FE) : FS := fun S => ownL i S >>= fun ds => f S >>= fun d => match d with
  | .lst es => if ds.length + es.length ≤ sizeLine then .ok (.nx, S.set i (some ⟨true, .lst (ds ++ es)⟩)) else .fail
  | _ => .fail
theorem s_ext (i : Nat) (he : PE' X c k1 e f) (hN : X.N[i]? = some x := by rfl) (hv : Vis X.env.scope x := by first | exact Or.inl rfl | exact Or.inr (Or.inl rfl) | exact Or.inr (Or.inr rfl)) (hd : (x == ("__debug__" : Str)) = false := by decide)
    (hcd : (x == ("__classdict__" : Str)) = false := by decide) (h2 : (apos.endLine == cpos.line) = true := by rfl) (h3 : starEach [e] X.env = [(false, eval e X.env)] := by rfl) (hs : swapsWith (.Call (.Attribute (.Name x p') "extend" apos) [e] [] cpos) none pos.line X.env = pure false := by rfl) :
    PS' X c fr [i + 1000] (.Expr (.Call (.Attribute (.Name x p') "extend" apos) [e] [] cpos) pos) (sExt i f) :=
  psI (ps_expr (pe_bm PySem.F.plainAttrs_list PySem.F.slot_list_extend PySem.F.type_list_extend mt_extend (pe_var hN hv hd hcd) (pa_cons he pa_nil h3) rfl (by rw [h3]; rfl) h2 h3 rfl) hs) fun Dn σ H ⟨G, S, rel, p⟩ => by
    have p : PostS c fr [i + 1000] G S σ H Dn (ownL i S >>= fun ds => f S >>= fun d => match d with
      | .lst es => if ds.length + es.length ≤ sizeLine then .ok (.nx, S.set i (some ⟨true, .lst (ds ++ es)⟩)) else .fail
      | _ => .fail) := p
    cases e0 : ownL i S with
    | exc x => exact absurd e0 ownL_exc
    | fail => rw [e0] at p; exact p.elim
    | ok ds =>
      rw [e0, R.ok_bind] at p
      have hS := ownL_of e0
      obtain ⟨l, o, es, hg, h0, ho, ct⟩ := rel.ow i _ hS
      cases ct with
      | @lst ds' vs r =>
        refine ⟨_, es, .inl ⟨rfl, vs, SqL.of ho⟩, ?_⟩
        refine rdE_go (Post := PostS c fr [i + 1000] G S σ H Dn) rel p (fun _ z => z _) (fun z => z) fun d v G' H' sp q p1 => ?_
        cases d with
        | lst es' =>
          have p1 : PostS c fr [i + 1000] G S σ H Dn (if ds.length + es'.length ≤ sizeLine then .ok (.nx, S.set i (some ⟨true, .lst (ds ++ es')⟩)) else .fail) := p1
          by_cases hl : ds.length + es'.length ≤ sizeLine
          · rw [if_pos hl] at p1
            have rel' := rel.grow sp
            have ow : OwnAt S σ i l := ⟨⟨_, hS⟩, es⟩
            obtain ⟨m, ws, rfl, hm, rm⟩ := q.now.lst sp.gh
            refine ⟨l, m, vs, ws, rfl, rfl, sp.h _ _ ho, hm, by rw [← r.length, ← rm.length]; exact hl, p1 G' σ _ sp.g (rel'.mut ow (.lst ((r.mono sp.g).append rm))) ((Frm.step (as := []) rel sp).trans (Frm.mut rel' ow))⟩
          · rw [if_neg hl] at p1; exact p1.elim
        | _ => exact p1.elim
theorem RDs.dropLast {k : Kn} {G : Hp} {ds : List D} {vs : List V} (r : RDs k G ds vs) : RDs k G ds.dropLast vs.dropLast := by
  rw [List.dropLast_eq_take, List.dropLast_eq_take, r.length]; exact r.take _
end
end M
set_option Elab.async false
set_option linter.all false
set_option maxRecDepth 100000
set_option maxHeartbeats 4000000
namespace M
open PySem L2
theorem zip_lookup : ∀ {nm : List Str} {vs : List V} {j : Nat} {f : Str} {v : V}, nm.Nodup → nm[j]? = some f → vs[j]? = some v → (nm.zip vs).lookup f = some v
  | [], _, j, _, _, _, h, _ => by simp at h
  | _ :: _, [], j, _, _, _, _, h => by simp at h
  | n :: nm, u :: vs, 0, f, v, _, h1, h2 => by
    simp at h1 h2; subst h1; subst h2; simp [List.lookup]
  | n :: nm, u :: vs, j + 1, f, v, hn, h1, h2 => by
    simp only [List.getElem?_cons_succ] at h1 h2
    have hne : f ≠ n := fun z => (List.nodup_cons.mp hn).1 (by rw [← z]; exact List.mem_of_getElem? h1)
    rw [List.zip_cons_cons, List.lookup_cons, beq_eq_false_iff_ne.mpr hne]
    exact zip_lookup (List.nodup_cons.mp hn).2 h1 h2
theorem zip_put : ∀ {nm : List Str} {vs : List V} {f : Str} {v : V}, nm.Nodup → nm[vs.length]? = some f → putF f v (nm.zip vs) = nm.zip (vs ++ [v])
  | [], vs, _, _, _, h => by simp at h
  | n :: nm, [], f, v, _, h => by
    simp at h; subst h
    simp [putF]
  | n :: nm, u :: vs, f, v, hn, h => by
    simp only [List.length_cons, List.getElem?_cons_succ] at h
    have hne : ¬ n = f := fun z => (List.nodup_cons.mp hn).1 (by rw [z]; exact List.mem_of_getElem? h)
    rw [List.zip_cons_cons, List.cons_append, List.zip_cons_cons, ← zip_put (List.nodup_cons.mp hn).2 h]
    simp only [putF]
    rw [if_neg hne]
structure ClsI (K : PySem.W.Frag) (k : Kn) (c : Nat) (nm : List Str) : Prop where
  ex : ∃ C, k.cl c = some (C, nm) ∧ Cls K C ∧ ∀ f, f ∈ nm → NoAttr K C f
  nd : nm.Nodup
  few : nm.length < 1000
section
variable {X : Cx} {c : Cf} {kd k1 k2 k3 : Kd} {a b e o : Expr} {f g h : FE} {pos apos cpos p' : Pos} {fr : Bool} {x : Str} {nm : List Str} {ci : Nat}
def fldD (ci j : Nat) : D → R D
  | .obj c ds => if c = ci then match ds[j]? with | some d => .ok d | none => .fail else .fail
  | _ => .fail
theorem d_fld (ci j : Nat) {fn : Str} (C : ClsI X.K c.k ci nm) (hj : nm[j]? = some fn) (he : PE' X c k1 o f) (hb : attributeBase o fn X.env (eval o X.env) = eval o X.env := by rfl) : PE' X c .st (.Attribute o fn pos) (e1 (fldD ci j) f) :=
  peI (pe_fld he hb) fun σ H Q q => e1_go (r := fun x H1 Q => ∃ a C dx fs v, x = .ref a ∧ H1 a = some (.ins C dx fs) ∧ Cls X.K C ∧ NoAttr X.K C fn ∧ fs.lookup fn = some v ∧ Q v H1) (fun G H d u r ex n hg Q p => by
    cases d with
    | obj c' ds =>
      simp only [fldD] at hg
      split at hg
      · rename_i hc
        subst hc
        split at hg
        · rename_i d' hd
          cases hg
          obtain ⟨ad, CA, dx, nm', vs, rfl, hcl, ha, hr⟩ := n.obj ex
          obtain ⟨CA', hcl', cl, na⟩ := C.ex
          rw [hcl] at hcl'; cases hcl'
          obtain ⟨v, hv, rv⟩ := hr.get hd
          exact ⟨ad, CA, dx, _, v, rfl, ha, cl, na _ (List.mem_of_getElem? hj), zip_lookup C.nd hj hv, p v G H (Step.refl ex) rv⟩
        · cases hg
      · cases hg
    | _ => simp [fldD] at hg) q
def ownO (ci i : Nat) (S : Env) : R (List D) := match S[i]? with
  | some (some ⟨true, .obj c ds⟩) => if c = ci then .ok ds else .fail
  | _ => .fail
theorem ownO_of {ci i : Nat} {S : Env} {ds : List D} (h : ownO ci i S = .ok ds) : S[i]? = some (some ⟨true, .obj ci ds⟩) := by
  unfold ownO at h
  split at h
  · split at h
    · rename_i hc; subst hc; cases h; assumption
    · cases h
  · cases h
theorem ownO_exc {ci i : Nat} {S : Env} {x : Exc} : ownO ci i S ≠ .exc x := by unfold ownO; split; split <;> intro h <;> cases h; intro h; cases h
def sFldN (ci i j : Nat) (f : FE) : FS := fun S => ownO ci i S >>= fun ds => f S >>= fun d => if ds.length = j then .ok (.nx, S.set i (some ⟨true, .obj ci (ds ++ [d])⟩)) else .fail
theorem s_fld (ci i j : Nat) {fn : Str} {px : Pos} (C : ClsI X.K c.k ci nm) (hj : nm[j]? = some fn) (he : PE' X c .st e f) (hN : X.N[i]? = some x := by rfl) (hv : Vis X.env.scope x := by first | exact Or.inl rfl | exact Or.inr (Or.inl rfl) | exact Or.inr (Or.inr rfl)) (hd : (x == ("__debug__" : Str)) = false := by decide)
    (hcd : (x == ("__classdict__" : Str)) = false := by decide) (hs : swapsWith e (some (.Attribute (.Name x px) fn p')) pos.line X.env = pure false := by rfl) : PS' X c fr [i + 1000] (.Assign [.Attribute (.Name x px) fn p'] e pos) (sFldN ci i j f) :=
  psI (ps_fld (pe_var hN hv hd hcd) he hs) fun Dn σ H ⟨G, S, rel, p⟩ => by
    have p : PostS c fr [i + 1000] G S σ H Dn (ownO ci i S >>= fun ds => f S >>= fun d => if ds.length = j then .ok (.nx, S.set i (some ⟨true, .obj ci (ds ++ [d])⟩)) else .fail) := p
    cases e0 : ownO ci i S with
    | exc x => exact absurd e0 ownO_exc
    | fail => rw [e0] at p; exact p.elim
    | ok ds =>
      rw [e0, R.ok_bind] at p
      have hS := ownO_of e0
      obtain ⟨l, ob, es, hg, h0, ho, ct⟩ := rel.ow i _ hS
      have ow : OwnAt S σ i l := ⟨⟨_, hS⟩, es⟩
      cases ct with
      | @obj _ _ CA dx nm' vs hcl hr =>
        obtain ⟨CA', hcl', cl, na⟩ := C.ex
        rw [hcl] at hcl'; cases hcl'
        refine rdE_go (g := fun d => if ds.length = j then .ok (Fl.nx, S.set i (some ⟨true, .obj ci (ds ++ [d])⟩)) else .fail) (Post := PostS c fr [i + 1000] G S σ H Dn) rel p (fun _ z => z _) (fun z => z) fun d v G1 H1 s1 q1 p1 => ?_
        by_cases hl : ds.length = j
        · rw [if_pos hl] at p1
          have rel' := rel.grow s1
          have hl2 : vs.length = j := by rw [← hr.length]; exact hl
          refine ⟨_, es, l, CA, dx, _, rfl, s1.h _ _ ho, cl, na _ (List.mem_of_getElem? hj), ?_, ?_⟩
          · rw [List.length_zip]; exact Nat.lt_of_le_of_lt (Nat.min_le_left _ _) C.few
          · rw [zip_put C.nd (by rw [hl2]; exact hj)]
            exact p1 G1 σ _ s1.g (rel'.mut ow (.obj hcl ((hr.mono s1.g).append (.cons q1 .nil)))) ((Frm.step (as := []) rel s1).trans (Frm.mut rel' ow))
        · rw [if_neg hl] at p1; exact p1.elim
end
noncomputable def less (H : Hp) (x : Addr) : Hp := fun b => open Classical in if b = x then none else H b
def PostN (k : Kn) (x : Addr) (G0 H : Hp) (Q : VK) (E : XK) : R D → Prop
  | .ok d => ∀ G' H' o, Ex G0 G' → (∀ b u, b ≠ x → H b = some u → H' b = some u) → Ex G' H' → G' x = none → (∀ b u, G' b = some u → G0 b = some u ∨ H b = none) → H' x = some o → Cont k G' d o → Q .non H'
  | .exc e => PXs ⟨k, less H x, G0, liftX E⟩ e
  | .fail => False
def SpN (k : Kn) (ci n : Nat) (den : List D → R D) : Sp := fun vs H Q E => vs.length = n ∧ ∃ x rest G0 ds C dx nm, vs = .ref x :: rest ∧ k.cl ci = some (C, nm) ∧ H x = some (.ins C dx []) ∧ G0 x = none ∧ Ex G0 H ∧ RDs k G0 ds rest ∧ PostN k x G0 H Q E (den ds)
def startN (n ci : Nat) (ds : List D) : Env := some ⟨true, .obj ci []⟩ :: (ds.map (fun d => some ⟨false, d⟩) ++ List.replicate (n - (ds.length + 1)) none)
def endN : R (Fl × Env) → R D
  | .ok (.nx, S) => match (S[(0 : Nat)]? : Option (Option Sl)) with
    | some (some ⟨true, d⟩) => .ok d
    | _ => .fail
  | .ok _ => .fail
  | .exc x => .exc x
  | .fail => .fail
def runN (n ci : Nat) (s : FS) (ds : List D) : R D := endN (s (startN n ci ds))
theorem less_self {H : Hp} {x : Addr} : less H x x = none := by unfold less; rw [if_pos rfl]
theorem less_ne {H : Hp} {x b : Addr} (h : b ≠ x) : less H x b = H b := by unfold less; rw [if_neg h]
theorem less_ex {H : Hp} {x : Addr} : Ex (less H x) H := fun b o h => by
  by_cases hb : b = x
  · subst hb; rw [less_self] at h; cases h
  · rw [less_ne hb] at h; exact h
theorem rel_startN {k : Kn} {E : XK} {H G0 : Hp} {N : List Str} {x C dx : Addr} {nm : List Str} {ci : Nat} {ds : List D} {rest : List V} (hcl : k.cl ci = some (C, nm)) (hx : H x = some (.ins C dx [])) (hg : G0 x = none) (e : Ex G0 H) (r : RDs k G0 ds rest) :
    Rel ⟨k, less H x, G0, liftX E⟩ G0 (startN N.length ci ds) (L2.start N (.ref x :: rest)) H := by
  have own : ∀ (i : Nat) (d : D), (startN N.length ci ds)[i]? = some (some ⟨true, d⟩) → i = 0 ∧ d = .obj ci [] := fun i d q => by
    unfold startN at q
    cases i with
    | zero => simp at q; exact ⟨rfl, q.symm⟩
    | succ i =>
      rw [List.getElem?_cons_succ, List.getElem?_append] at q
      split at q
      · rw [List.getElem?_map] at q
        cases h : ds[i]? <;> rw [h] at q <;> cases q
      · rw [List.getElem?_replicate] at q
        split at q <;> cases q
  have e0 : Ex G0 (less H x) := fun b o h => by rw [less_ne (ne_of_none h hg)]; exact e b o h
  refine ⟨⟨Ex.refl _, less_ex, e, fun _ _ h => .inl h⟩, by simp [startN, L2.start, r.length], fun i d q => ?_, fun i d q => ?_, fun i j a o1 o2 => ?_⟩
  · unfold startN at q
    cases i with
    | zero => simp at q
    | succ i =>
      rw [List.getElem?_cons_succ, List.getElem?_append] at q
      split at q
      · rw [List.getElem?_map] at q
        cases h : ds[i]? with
        | none => rw [h] at q; cases q
        | some d' =>
          rw [h] at q; cases q
          obtain ⟨v, h1, h2⟩ := r.get h
          refine ⟨v, ?_, h2⟩
          unfold L2.start
          rw [List.map_cons, List.cons_append, List.getElem?_cons_succ, List.getElem?_append_left (by rw [List.length_map]; exact (List.getElem?_eq_some_iff.mp h1).1), List.getElem?_map, h1]; rfl
      · rw [List.getElem?_replicate] at q
        split at q <;> cases q
  · obtain ⟨rfl, rfl⟩ := own i d q
    refine ⟨x, _, by simp [L2.start], hg, less_self, hx, ?_⟩
    have z : Cont k G0 (.obj ci []) (.ins C dx (nm.zip [])) := .obj hcl .nil
    rw [List.zip_nil_right] at z; exact z
  · obtain ⟨⟨d1, q1⟩, _⟩ := o1
    obtain ⟨⟨d2, q2⟩, _⟩ := o2
    rw [(own i d1 q1).1, (own j d2 q2).1]
theorem body_init {k : Kn} {as : List Nat} {N : List Str} {X : Cx} {body : List Stmt} {s : FS} {H : Hp} {vs : List V} {Q : VK} {E : XK} {n ci : Nat} (h0 : 0 ∉ as) (hb : ∀ H0 G0, PB' X ⟨k, H0, G0, liftX E⟩ false as body s) (q : SpN k ci n (runN N.length ci s) vs H Q E) :
    ∃ t, PSs X body t ∧ t { nx := fun _ H' => Q .non H', rt := Q } (L2.start N vs) H := by
  obtain ⟨hl, x, rest, G0, ds, C, dx, nm, rfl, hcl, hx, hg, e, r, p⟩ := q
  refine ⟨_, hb (less H x) G0, G0, _, rel_startN hcl hx hg e r, ?_⟩
  unfold runN at p
  cases e1 : s (startN N.length ci ds) with
  | exc y =>
    rw [e1] at p
    exact p
  | fail => rw [e1] at p; exact p.elim
  | ok z =>
    rw [e1] at p
    obtain ⟨fl, S1⟩ := z
    cases fl with
    | nx =>
      intro G' σ' H' ex rel fm
      have p : PostN k x G0 H Q E (match (S1[(0 : Nat)]? : Option (Option Sl)) with
        | some (some ⟨true, d⟩) => .ok d
        | _ => .fail) := p
      split at p
      · rename_i d hd
        obtain ⟨a, o, es, hg', h0', ho, ct⟩ := rel.ow 0 d hd
        have : σ'[0]? = some (some (.ref x)) := by rw [fm.sg 0 h0]; simp [L2.start]
        rw [this] at es; cases es
        refine p G' H' o ex (fun b u hb q => rel.st.h b u (by show less H x b = some u; rw [less_ne hb]; exact q)) rel.st.gh hg' (fun b u q => ?_) ho ct
        rcases rel.st.gr b u q with z | z
        · exact .inl z
        · by_cases hb : b = x
          · subst hb; rw [hg'] at q; cases q
          · exact .inr (by rw [← less_ne (H := H) hb]; exact z)
      · exact p.elim
    | bk => exact p.elim
    | ct => exact p.elim
    | rt d => exact p.elim
section
variable {P : Program} {w : World} {K : PySem.W.Frag} {mg : Str → Option Value} {base : Heap}
theorem init_ok {k : Kn} {as : List Nat} {x qual : Str} {params : Arguments} {body : List Stmt} {scope : Scope} {dvs : List V} {kws : List (Str × V)} {f : Addr} {fd : FuncData} {N ps : List Str} {lv ci : Nat} {s : FS} (F : FunD K x qual params body scope dvs kws f fd) (S : FnScope N ps scope) (h0 : 0 ∉ as)
    (hb : ∀ (cdv : Value) (A : Around) (outer : List PySem.Env) (sh : Shared) (H H0 G0 : Hp), Room lv (A.deeper (PyProof.Rows.envOfC qual scope sh.heap.objs.size f cdv)) → PB' (cxOf CX0 P w K mg base N qual scope f cdv A outer sh H E0).nox ⟨k, H0, G0, liftX E0⟩ false as body s) :
    FnOk P w K mg base CX0 (lv + 1) f fd ps (SpN k ci ps.length (fun ds => (runN N.length ci s ds).nox)) := by
  refine F.ok S (fun vs H Q E q => q.1) fun cdv A outer sh H vs Q E hr q => ?_
  have q' : SpN k ci ps.length (runN N.length ci s) vs H Q E0 := by
    obtain ⟨hl, x, rest, G0, ds, C, dx, nm, e1, hcl, hx, hg, e, r, p⟩ := q
    refine ⟨hl, x, rest, G0, ds, C, dx, nm, e1, hcl, hx, hg, e, r, ?_⟩
    dsimp only at p
    cases e1 : runN N.length ci s ds with
    | ok d => rw [e1] at p; exact p
    | exc x => rw [e1] at p; exact p.elim
    | fail => rw [e1] at p; exact p.elim
  obtain ⟨t, h1, h2⟩ := body_init (X := (cxOf CX0 P w K mg base N qual scope f cdv A outer sh H E0).nox) h0 (fun H0 G0 => hb cdv A outer sh H H0 G0 hr) q'
  exact ⟨t, h1.nox, h2⟩
end
structure Mk0 (X : Cx) (k : Kn) (x : Str) (ci n : Nat) (den : List D → R D) : Prop where
  ex : ∃ (C f : Addr) (fd : FuncData) (lv : Nat) (ps : List Str) (nm : List Str), ps.length = n ∧ k.cl ci = some (C, nm) ∧ Mk X.K C f ∧ FnOk X.prog X.w X.K X.mg X.base CX0 lv f fd ps (SpN k ci n den) ∧ Room (lv + 1) X.A ∧ X.mg x = some (.ref C) ∧ Binds X.K fd ps []
section
variable {X : Cx} {c : Cf} {kd k1 k2 k3 : Kd} {a b e : Expr} {pos : Pos} {den : List D → R D} {ci : Nat}
theorem make_go {C : Addr} {nm : List Str} {n : Nat} {fa : FA} {σ : St} {H : Hp} {Q : VK} (hcl : c.k.cl ci = some (C, nm)) (hl : Len n fa) (q : RdE c .fr (eC den fa) σ H Q) :
    RdA c false fa σ H fun vs H1 => ∀ x dx, H1 x = none → H1 dx = none → dx ≠ x → SpN c.k ci (n + 1) den (.ref x :: (vs ++ [])) (upd (upd H1 dx (.own x)) x (.ins C dx [])) (fun v H2 => v = .non ∧ Q (.ref x) H2) E0 := by
  obtain ⟨G, S, rel, p⟩ := q
  have p : PostE c .fr G S σ H Q (fa S >>= fun ds => (den ds).nox) := p
  refine ⟨G, S, rel, ?_⟩
  cases e0 : fa S with
  | exc x => rw [e0] at p; exact p
  | fail => rw [e0] at p; exact p
  | ok ds =>
    rw [e0] at p
    intro vs G1 H1 s1 q1 x dx hx hdx hne
    have q1 : RDs c.k G1 ds vs := q1
    rw [List.append_nil]
    have hgx : G1 x = none := s1.gh.free hx
    have ex1 : Ex H1 (upd (upd H1 dx (.own x)) x (.ins C dx [])) := (Ex.new hdx).upd hx
    refine ⟨by simp [← q1.length, hl S ds e0], x, vs, G1, ds, C, dx, nm, rfl, hcl, upd_same, hgx, s1.gh.trans ex1, q1, ?_⟩
    have p : PostE c .fr G S σ H Q (den ds).nox := p
    cases e1 : den ds with
    | ok d =>
      rw [e1] at p
      intro G' H' o ex hk gh hgx' gr ho ct
      refine ⟨rfl, p _ G' H' (s1.trans ⟨ex, fun b u q => hk b u (ne_of_none q hx) (ex1 b u q), gh, fun b u q => ?_⟩) ⟨x, o, rfl, hgx', s1.h.free hx, ho, ct⟩⟩
      rcases gr b u q with z | z
      · exact .inl z
      · exact .inr (ex1.free z)
    | exc x => rw [e1] at p; exact p.elim
    | fail => rw [e1] at p; exact p.elim
theorem d_make {x : Str} {n : Nat} {p : Pos} {es : List Expr} {fa : FA} (F : Mk0 X c.k x ci (n + 1) den) (ha : PA' X c false (e :: es) fa) (hl : Len n fa) (hg : Gl X x := by rfl) (hdb : (x == ("__debug__" : Str)) = false := by decide)
    (hs : starEach (e :: es) X.env = (false, eval e X.env) :: starEach es X.env := by rfl) (hs2 : ((backTo pos (starEach es X.env)).any fun x => x.1) = false := by rfl) : PE' X c .fr (.Call (.Name x p) (e :: es) [] pos) (eC den fa) := by
  obtain ⟨C, f, fd, lv, ps, nm, hn, hcl, M, ok, hr, hm, hb⟩ := F.ex
  exact peI (pe_make M ok hr hg hm hb .nil pass0 ha hdb hs hs2) fun σ H Q q => make_go hcl hl q
end
end M
set_option Elab.async false
set_option linter.all false
set_option maxRecDepth 100000
set_option maxHeartbeats 4000000
namespace M
open PySem L2
section
variable {X : Cx} {k : Kn} {c : Cf} {kd k1 k2 k3 : Kd} {a b e o : Expr} {f g h : FE} {pos apos cpos p' : Pos} {fr : Bool}
theorem DpAll.zip {K : PySem.W.Frag} {H : Hp} : ∀ {xs : List V} {ds : List PyData}, DpAll K H xs ds → ∀ {us : List Value}, Vals xs us → PySem.W.EachIs (fun (u : Value) (b : V × PyData) => RelV b.1 u ∧ Dp K H b.1 b.2) us (xs.zip ds)
  | _, _, .nil, _, .nil => .nil
  | _, _, .cons a b, _, .cons r t => .cons ⟨r, a⟩ (DpAll.zip b t)
theorem EachIs.imp {α β : Type} {R R' : α → β → Prop} (h : ∀ a b, R a b → R' a b) : ∀ {as : List α} {bs : List β}, PySem.W.EachIs R as bs → PySem.W.EachIs R' as bs
  | _, _, .nil => .nil
  | _, _, .cons a b => .cons (h _ _ a) (EachIs.imp h b)
theorem each_vals : ∀ {us : List Value} {bs : List (V × PyData)}, PySem.W.EachIs (fun u b => RelV b.1 u) us bs → Vals (bs.map (·.1)) us
  | _, _, .nil => .nil
  | _, _, .cons a b => .cons a (each_vals b)
theorem DpAll.length {K : PySem.W.Frag} {H : Hp} : ∀ {xs : List V} {ds : List PyData}, DpAll K H xs ds → xs.length = ds.length
  | _, _, .nil => rfl
  | _, _, .cons _ b => by simp [DpAll.length b]
def rSrt (X : Cx) : List V → Hp → VK → Prop := fun vs H Q => ∃ a xs ds, vs = [V.ref a] ∧ SqL X.K H a xs ∧ DpAll X.K H xs ds ∧ PySem.W.AllAlike ds ∧ PySem.W.Sortable ds ∧ (∀ d, d ∈ ds → d.depth ≤ 60) ∧
  ∀ p, H p = none → Q (.ref p) (upd H p (.lst (((xs.zip ds).mergeSort (PySem.W.dataLe false (·.2))).map (·.1))))
theorem cr_srt (hu : X.A.units + 64 < cLine) : CallR X (.builtin "sorted") (rSrt X) := by
  intro pins s σ H vs us Q I r h
  obtain ⟨a, xs, ds, rfl, hs, hd, hal, hso, hdp, q⟩ := h
  obtain ⟨u, rfl, ru⟩ := vals1 r
  cases ru
  obtain ⟨its, rv, pl, hz⟩ := I.list hs
  have hlen := DpAll.length hd
  have hm : (xs.zip ds).map (·.2) = ds := by rw [List.map_snd_zip]; omega
  have ea := DpAll.zip hd rv
  refine PySem.W.sorted_data (enc := fun (b : V × PyData) => b.2) (R := fun u (b : V × PyData) => RelV b.1 u) (bs := xs.zip ds) pl.isList (EachIs.imp (fun _ _ z => z.1) ea) (EachIs.imp (fun u b z => Dp.reads I b.2 b.1 u z.2 z.1) ea) (by rw [hm]; exact hal) (by rw [hm]; exact hso) (by rw [List.length_zip]; omega) ?_ ?_
  · intro b hb
    have : b.2 ∈ ds := by rw [← hm]; exact List.mem_map.mpr ⟨b, hb, rfl⟩
    have := hdp _ this
    omega
  · intro out ho eo
    obtain ⟨m, F⟩ := I.fr
    obtain ⟨cn, _, N, _, kp⟩ := PySem.W.sorted_news (news := []) F (fun p hp => nomatch hp) its out
    have hobj := (N _ List.mem_cons_self).1
    have hv := each_vals eo
    refine ⟨.ref (s.heap.objs.size + 1), _, I.laid (a := s.heap.objs.size + 1) (t' := s.toks) (o := .lst _) kp (Nat.le_succ _) ⟨?_, out, cn, hv, hobj⟩, rfl, q _ (I.hok.fresh (Nat.le_succ _))⟩
    rw [List.length_map, List.length_mergeSort, List.length_zip]; omega
end
def dlt (x y : D) : Bool := PySem.W.dataLt x.toP y.toP
def dle (x y : D) : Bool := !dlt y x
mutual
def alikeD : D → D → Bool
  | .non, .non => true
  | .bl _, .bl _ => true
  | .int _, .int _ => true
  | .str _, .str _ => true
  | .lst xs, .lst ys => alikeDs xs ys
  | .tup xs, .tup ys => alikeDs xs ys
  | _, _ => false
def alikeDs : List D → List D → Bool
  | x :: xs, y :: ys => alikeD x y && alikeDs xs ys
  | [], _ => true
  | _ :: _, [] => true
end
mutual
theorem alikeD_of : ∀ (x y : D), alikeD x y = true → PySem.W.alike x.toP y.toP = true
  | .non, y, h => by cases y <;> first | (simp [D.toP, PySem.W.alike]; done) | (simp [alikeD] at h; done)
  | .bl _, y, h => by cases y <;> first | (simp [D.toP, PySem.W.alike]; done) | (simp [alikeD] at h; done)
  | .int _, y, h => by cases y <;> first | (simp [D.toP, PySem.W.alike]; done) | (simp [alikeD] at h; done)
  | .str _, y, h => by cases y <;> first | (simp [D.toP, PySem.W.alike]; done) | (simp [alikeD] at h; done)
  | .lst xs, y, h => by
    cases y with
    | lst ys => simp only [alikeD] at h; simp only [D.toP, PySem.W.alike]; exact alikeDs_of xs ys h
    | _ => simp [alikeD] at h
  | .tup xs, y, h => by
    cases y with
    | tup ys => simp only [alikeD] at h; simp only [D.toP, PySem.W.alike]; exact alikeDs_of xs ys h
    | _ => simp [alikeD] at h
  | .ty _, _, h => by simp [alikeD] at h
  | .dic _ _, _, h => by simp [alikeD] at h
  | .dit _ _, _, h => by simp [alikeD] at h
  | .dkf _ _, _, h => by simp [alikeD] at h
  | .obj _ _, _, h => by simp [alikeD] at h
  | .scr _, _, h => by simp [alikeD] at h
  | .cls _, _, h => by simp [alikeD] at h
theorem alikeDs_of : ∀ (xs ys : List D), alikeDs xs ys = true → PySem.W.alikeAll (D.toPs xs) (D.toPs ys) = true
  | [], _, _ => by simp [D.toPs, PySem.W.alikeAll]
  | _ :: _, [], _ => by simp [D.toPs, PySem.W.alikeAll]
  | x :: xs, y :: ys, h => by
    simp only [alikeDs, Bool.and_eq_true] at h
    simp only [D.toPs, PySem.W.alikeAll, Bool.and_eq_true]
    exact ⟨alikeD_of x y h.1, alikeDs_of xs ys h.2⟩
end
def srtItem : D → Bool
  | .non => false
  | .tup [] => false
  | _ => true
def srtOk (ds : List D) : Bool := doks 59 ds && ds.all (fun x => ds.all fun y => alikeD x y) && ds.all srtItem
def srt (ds : List D) : List D := ds.mergeSort dle
theorem toPs_mem : ∀ {ds : List D} {p : PyData}, p ∈ D.toPs ds → ∃ d, d ∈ ds ∧ d.toP = p
  | [], _, h => by simp [D.toPs] at h
  | d :: ds, p, h => by
    simp only [D.toPs, List.mem_cons] at h
    rcases h with h | h
    · exact ⟨d, by simp, h.symm⟩
    · obtain ⟨d', h1, h2⟩ := toPs_mem h; exact ⟨d', by simp [h1], h2⟩
theorem doks_mem {n : Nat} : ∀ {ds : List D} {d : D}, doks n ds = true → d ∈ ds → dok n d = true
  | [], _, _, h => by simp at h
  | x :: ds, d, h, hm => by
    simp only [doks, Bool.and_eq_true] at h
    rcases List.mem_cons.mp hm with rfl | hm
    · exact h.1
    · exact doks_mem h.2 hm
theorem srt_sortable {ds : List D} (h : srtOk ds = true) : PySem.W.Sortable (D.toPs ds) := by
  unfold srtOk at h
  simp only [Bool.and_eq_true, List.all_eq_true] at h
  obtain ⟨⟨h1, h2⟩, h3⟩ := h
  cases ds with
  | nil => exact .inl fun d hd => by simp [D.toPs] at hd
  | cons d0 ds =>
    cases d0 with
    | tup xs =>
      refine .inl fun p hp => ?_
      obtain ⟨d, hd, rfl⟩ := toPs_mem hp
      have ha := h2 _ (List.mem_cons_self) d hd
      cases d with
      | tup ys =>
        have := h3 _ hd
        cases ys with
        | nil => simp [srtItem] at this
        | cons y ys => exact ⟨y.toP, D.toPs ys, by simp [D.toP, D.toPs]⟩
      | _ => simp [alikeD] at ha
    | _ =>
      refine .inr fun p hp => ?_
      obtain ⟨d, hd, rfl⟩ := toPs_mem hp
      have ha := h2 _ (List.mem_cons_self) d hd
      have hi := h3 _ hd
      cases d <;> first | (simp [alikeD] at ha; done) | (simp [srtItem] at hi; done) | (simp [D.toP]; done)
section
variable {X : Cx} {k : Kn}
theorem RDs.srt {G : Hp} {ds : List D} {vs : List V} (r : RDs k G ds vs) : RDs k G (M.srt ds) (((vs.zip (D.toPs ds)).mergeSort (PySem.W.dataLe false (·.2))).map (·.1)) := by
  have key : ∀ (bs : List (D × V)), (∀ b, b ∈ bs → RD k G b.1 b.2) → RDs k G (bs.map (·.1)) (bs.map (·.2)) := fun bs => by
    induction bs with
    | nil => intro _; exact .nil
    | cons b bs ih => intro h; exact .cons (h b (by simp)) (ih fun x hx => h x (by simp [hx]))
  have hl := r.length
  have z1 : (ds.zip vs).map (·.1) = ds := by rw [List.map_fst_zip]; omega
  have z2 : vs.zip (D.toPs ds) = (ds.zip vs).map fun b => (b.2, b.1.toP) := by
    clear r z1
    induction ds generalizing vs with
    | nil => cases vs <;> simp [D.toPs]
    | cons d ds ih =>
      cases vs with
      | nil => simp at hl
      | cons v vs => simp only [D.toPs, List.zip_cons_cons, List.map_cons]; rw [ih (by simpa using hl)]
  have e1 : M.srt ds = ((ds.zip vs).mergeSort fun a b => dle a.1 b.1).map (·.1) := by
    unfold M.srt
    rw [List.map_mergeSort (s := dle) (fun _ _ _ _ => rfl), z1]
  have e2 : ((vs.zip (D.toPs ds)).mergeSort (PySem.W.dataLe false (·.2))).map (·.1) = ((ds.zip vs).mergeSort fun a b => dle a.1 b.1).map (·.2) := by
    rw [z2, ← List.map_mergeSort (r := fun a b => dle a.1 b.1) (f := fun (b : D × V) => (b.2, b.1.toP)) (fun a _ b _ => by rw [PySem.W.dataLe_eq]; rfl), List.map_map]
    rfl
  rw [e1, e2]
  refine key _ fun b hb => ?_
  have hb : b ∈ ds.zip vs := List.mem_mergeSort.mp hb
  have : ∀ {ds : List D} {vs : List V}, RDs k G ds vs → ∀ b, b ∈ ds.zip vs → RD k G b.1 b.2 := fun {ds vs} r => by
    intro b hb
    obtain ⟨i, hi, rfl⟩ := List.mem_iff_getElem.mp hb
    rw [List.getElem_zip]
    have h1 : i < ds.length := by rw [List.length_zip] at hi; omega
    obtain ⟨v, hv, rv⟩ := r.get (List.getElem?_eq_getElem h1)
    have h2 : i < vs.length := by rw [List.length_zip] at hi; omega
    rw [List.getElem?_eq_getElem h2] at hv; cases hv
    exact rv
  exact this r b hb
end
end M
set_option Elab.async false
set_option linter.all false
set_option maxRecDepth 100000
set_option maxHeartbeats 4000000
namespace M
open PySem L2
theorem _root_.L2.Room.units5 {k : Nat} {A : Around} (r : Room k A) : A.units + 65 < cLine := by have := r.un; omega
structure Callee (P : Program) (w : World) (K : PySem.W.Frag) (mg : Str → Option Value) (base : Heap) (k : Kn) (lv : Nat) (x : Str) (n : Nat) (fr : Bool) (den : List D → R D) : Prop where
  ex : ∃ (f : Addr) (fd : FuncData) (ps : List Str), ps.length = n ∧ FnOk P w K mg base CX0 lv f fd ps (SpF k fr n den) ∧ mg x = some (.ref f) ∧ PySem.W.keepIn K (.ref f) = true ∧ Binds K fd ps []
theorem Callee.at {X : Cx} {k : Kn} {lv m : Nat} {x : Str} {n : Nat} {fr : Bool} {den : List D → R D} (h : Callee X.prog X.w X.K X.mg X.base k lv x n fr den) (hr : Room m X.A) (hle : lv ≤ m) : Fn0 X k x n fr den := by
  obtain ⟨f, fd, ps, hn, h1, h2, h3, h4⟩ := h.ex
  exact ⟨f, fd, lv, ps, hn, h1, hr.mono hle, h2, h3, h4⟩
structure Gc (mg : Str → Option Value) (k : Kn) (x : Str) (d : D) : Prop where
  ex : ∃ v u, mg x = some u ∧ RelV v u ∧ ∀ G, RD k G d v
section
variable {X : Cx} {c : Cf} {k : Kn} {kd k1 k2 k3 : Kd} {a b e o : Expr} {f g h : FE} {pos apos cpos p' : Pos} {fr : Bool} {x y : Str}
def eG (d : D) : FE := fun _ => .ok d
theorem d_g {d : D} (h : Gc X.mg c.k x d) (hg : Gl X x := by rfl) (hd : (x == ("__debug__" : Str)) = false := by decide) : PE' X c .st (.Name x pos) (eG d) := by
  obtain ⟨v, u, hm, r, rd⟩ := h.ex
  exact cst_of (pe_glob hg hm r hd) rd
def eY (n : String) : FE := fun _ => .ok (.ty n)
theorem d_ty (n : String) (hm : X.mg x = none) (hv : bootBuiltins x = some (.type n) := by decide +kernel) (hg : Gl X x := by rfl) (hn : x ≠ "__name__" := by decide) (hd : (x == ("__debug__" : Str)) = false := by decide) : PE' X c .st (.Name x pos) (eY n) :=
  cst_of (pe_bltn (v := .ty n) hg hm hv rfl hn hd) fun _ => .ty n
def tyN : D → Option String
  | .non => some "NoneType"
  | .bl _ => some "bool"
  | .int _ => some "int"
  | .str _ => some "str"
  | .tup _ => some "tuple"
  | .lst _ => some "list"
  | .dic _ _ => some "dict"
  | .dit _ _ => some "dict"
  | .dkf _ _ => some "dict"
  | _ => none
theorem Now.tyX (hk : k.K = X.K) {G H : Hp} {d : D} {v : V} {n : String} (e : Ex G H) (w : Now k G H d v) (h : tyN d = some n) : TyX X.K H v (.type n) := by
  cases d <;> simp only [tyN] at h <;> first | (cases h; done) | skip
  · cases h; obtain rfl := w.non; exact .base .non
  · cases h; obtain rfl := w.bl; exact .base (.bl _)
  · cases h; obtain rfl := w.int; exact .base (.int _)
  · cases h; obtain rfl := w.str; exact .base (.str _)
  · cases h; obtain ⟨a, vs, rfl, ha, r⟩ := w.tup
    rcases e.sqU ha with q | ⟨o, its, m, q1, q2, q3⟩
    · exact .base (.tup q)
    · exact .kTuple (hk ▸ q1) q2
  · cases h; obtain ⟨a, vs, rfl, ha, r⟩ := w.lst e; exact .base (.lst ha)
  · cases h; obtain ⟨a, vs, rfl, ha, r⟩ := w.dic e; exact .base (.dK ha)
  · cases h; obtain ⟨a, vs, rfl, ha, r⟩ := w.dit e; exact .base (.dT ha)
  · cases h; obtain ⟨a, o, vs, rfl, ha, l, r⟩ := w.dkf e; exact .fDict ha
def isiD : D → D → R D
  | x, .ty b => (match tyN x with
    | some a => (match kitB a b with
      | some r => .ok (.bl r)
      | none => .fail)
    | none => .fail)
  | _, _ => .fail
theorem c_isi (hk : k.K = X.K) : ClR X k (.builtin "isinstance") .st (f2 isiD) := cl2 call_isi fun G H x v y u d e n m hg Q p => by
  unfold isiD at hg
  split at hg
  · split at hg
    · rename_i ha
      split at hg
      · rename_i hb
        cases hg; obtain rfl := m.ty
        exact ⟨v, _, _, _, _, rfl, .ty _, n.tyX hk e ha, kit_ty hb, p _ G H (Step.refl e) (.bl _)⟩
      · cases hg
    · cases hg
  · cases hg
theorem SlR.or {r r' : V → Option Int → Option Int → Hp → VK → Prop} (h : SlR X r) (h' : SlR X r') : SlR X (fun x l u H Q => r x l u H Q ∨ r' x l u H Q) := fun pins s σ H x v vl vu lo hi sl Q I rx hs h1 h2 q => by
  rcases q with q | q
  · exact h pins s σ H x v vl vu lo hi sl Q I rx hs h1 h2 q
  · exact h' pins s σ H x v vl vu lo hi sl Q I rx hs h1 h2 q
abbrev FO := Env → R (Option Int)
def PostO (c : Cf) (G : Hp) (S : Env) (σ : St) (H : Hp) (Q : Option Int → Hp → Prop) : R (Option Int) → Prop
  | .ok b => ∀ G' H', Step G H G' H' → Q b H'
  | .exc x => PX c σ x
  | .fail => False
def RdO (c : Cf) (f : FO) : TO := fun σ H Q => ∃ G S, Rel c G S σ H ∧ PostO c G S σ H Q (f S)
abbrev PO' (X : Cx) (c : Cf) (e : Option Expr) (f : FO) : Prop := PO X e (RdO c f)
def oN : FO := fun _ => .ok none
def toI : D → R (Option Int)
  | .int i => .ok (some i)
  | _ => .fail
def oS (f : FE) : FO := fun S => f S >>= toI
theorem d_on : PO' X c none oN := poI po_none fun σ H Q ⟨G, S, rel, p⟩ => p G H (Step.refl rel.st.gh)
theorem d_os (he : PE' X c k1 e f) : PO' X c (some e) (oS f) := poI (po_some he) fun σ H Q ⟨G, S, rel, p⟩ => by
  refine rdE_go (g := toI) (Post := PostO c G S σ H Q) rel p (fun _ z => z) (fun z => z) fun d v G' H' s q p1 => ?_
  cases d with
  | int i => exact ⟨i, q.now.int, p1 G' H' s⟩
  | _ => exact p1.elim
def cutL {α : Type} (xs : List α) (lo hi : Option Int) : List α := List.take (HT.sIx xs.length xs.length hi - HT.sIx xs.length 0 lo) (List.drop (HT.sIx xs.length 0 lo) xs)
def slD (x : D) (lo hi : Option Int) : R D := match x with
  | .lst xs => .ok (.lst (cutL xs lo hi))
  | .tup xs => .ok (.tup (cutL xs lo hi))
  | .str z => if z.length ≤ sizeLine then .ok (.str (cutS z lo hi)) else .fail
  | _ => .fail
def eSl (f : FE) (l h : FO) : FE := fun S => f S >>= fun x => l S >>= fun lo => h S >>= fun hi => (slD x lo hi).nox
theorem RDs.cutL {G : Hp} {ds : List D} {vs : List V} (r : RDs k G ds vs) (lo hi : Option Int) : RDs k G (M.cutL ds lo hi) (cutV vs lo hi) := by
  unfold M.cutL cutV
  rw [← r.length]
  exact (r.drop _).take _
theorem rdO_go {f : FO} {G H : Hp} {S : Env} {σ : St} {Q : Option Int → Hp → Prop} {β : Type} {g : Option Int → R β} {Post : R β → Prop} (r : Rel c G S σ H) (p : Post (f S >>= g))
    (hx : ∀ x, Post (.exc x) → PX c σ x) (hf : Post .fail → False) (k : ∀ d G' H', Step G H G' H' → Post (g d) → Q d H') : RdO c f σ H Q := by
  refine ⟨G, S, r, ?_⟩
  cases e : f S with
  | ok d => rw [e] at p; exact fun G' H' s => k d G' H' s p
  | exc x => rw [e] at p; exact hx x p
  | fail => rw [e] at p; exact hf p
theorem d_sl {lo hi : Option Expr} {fl fh : FO} {p2 : Pos} (hk : c.k.K = X.K) (he : PE' X c k1 e f) (hl : PO' X c lo fl) (hh : PO' X c hi fh) : PE' X c .st (.Subscript e (.Slice lo hi none p2) pos) (eSl f fl fh) :=
  peI (pe_slice (SlR.or sl_list (SlR.or sl_tupA sl_str)) he hl hh) fun σ H Q ⟨G, S, rel, p⟩ => by
    refine rdE_go (g := fun x => fl S >>= fun lo => fh S >>= fun hi => (slD x lo hi).nox) (Post := PostE c .st G S σ H Q) rel p (fun _ z => z) (fun z => z) fun d v G1 H1 s1 q1 p1 => ?_
    refine rdO_go (g := fun lo => fh S >>= fun hi => (slD d lo hi).nox) (Post := PostE c .st G S σ H Q) (rel.grow s1) p1 (fun _ z => z) (fun z => z) fun lo G2 H2 s2 p2 => ?_
    refine rdO_go (g := fun hi => (slD d lo hi).nox) (Post := PostE c .st G S σ H Q) ((rel.grow s1).grow s2) p2 (fun _ z => z) (fun z => z) fun hi G3 H3 s3 p3 => ?_
    have n := (q1.now.grow s2).grow s3
    have sp := (s1.trans s2).trans s3
    cases d with
    | lst xs =>
      obtain ⟨a, vs, rfl, ha, r⟩ := n.lst s3.gh
      exact .inl ⟨a, vs, rfl, SqL.of ha, fun p hp => p3 _ _ _ (sp.trans (Step.new s3.gh hp)) (.lst upd_same ((r.cutL lo hi).mono (Ex.new (s3.gh.free hp))))⟩
    | tup xs =>
      obtain ⟨a, vs, rfl, ha, r⟩ := n.tup
      refine .inr (.inl ⟨a, vs, rfl, hk ▸ s3.gh.sqT ha.t, fun z => ?_, fun _ p hp => p3 _ _ _ (sp.trans (Step.new s3.gh hp)) (.tup (SqU.of upd_same) ((r.cutL lo hi).mono (Ex.new (s3.gh.free hp))))⟩)
      have e1 : cutL xs lo hi = xs := by
        unfold cutL
        rw [r.length, z.1, z.2, List.drop_zero, Nat.sub_zero, ← r.length, List.take_length]
      have p3 : PostE c .st G S σ H Q (.ok (.tup (cutL xs lo hi))) := p3
      rw [e1] at p3
      exact p3 _ _ _ sp (.tup ha r)
    | str z =>
      obtain rfl := n.str
      have p3 : PostE c .st G S σ H Q (if z.length ≤ sizeLine then .ok (.str (cutS z lo hi)) else .fail : R D).nox := p3
      by_cases hz : z.length ≤ sizeLine
      · rw [if_pos hz] at p3
        exact .inr (.inr ⟨z, rfl, hz, p3 _ _ _ sp (.str _)⟩)
      · rw [if_neg hz] at p3; exact p3.elim
    | _ => exact p3.elim
def revD : D → R D
  | .lst xs => .ok (.lst xs.reverse)
  | _ => .fail
theorem d_rev {kk : Nat} {p1 p2 p3 : Pos} (he : PE' X c k1 e f) : PE' X c .fr (.Subscript e (.Slice none none (some (.UnaryOp .USub (.Constant (.int 1) kk p1) p2)) p3) pos) (e1 revD f) :=
  peI (pe_revL he) fun σ H Q q => e1_go (r := fun x H1 Q => ∃ a xs, x = V.ref a ∧ SqL X.K H1 a xs ∧ ∀ p, H1 p = none → Q (V.ref p) (upd H1 p (.lst xs.reverse))) (fun G H d u r ex n hg Q p => by
    cases d <;> simp only [revD] at hg <;> first | (cases hg; done) | skip
    cases hg; obtain ⟨a, vs, rfl, ha, r⟩ := n.lst ex
    exact ⟨a, vs, rfl, SqL.of ha, fun pp hp => p _ _ _ (Step.new' ex hp) ⟨pp, _, rfl, ex.free hp, hp, upd_same, .lst r.reverse⟩⟩) q
theorem setF_go {i : Nat} {Dn : Ends} {σ : St} {H : Hp} (q : RdS c fr [i] (sSet i f) Dn σ H) : RdE c .fr f σ H fun x H1 => gName i x σ H1 Dn.nx := by
  obtain ⟨G, S, rel, p⟩ := q
  refine rdE_go (g := fun d => .ok (Fl.nx, S.set i (some ⟨false, d⟩))) (Post := PostS c fr [i] G S σ H Dn) rel p (fun _ z => z _) (fun z => z) fun d v G' H' sp q p1 => ?_
  obtain ⟨a, o, rfl, hg, hn, ha, ct⟩ := q
  have sp2 : Step G H (upd G' a o) H' := sp.frz ha hn hg
  exact p1 _ _ H' sp2.g ((rel.grow sp2).setS i ((ct.mono (Ex.new hg)).rd upd_same)) ((Frm.step (as := []) rel sp2).trans (Frm.set i _ _))
theorem s_lcZ (i : Nat) {py spos : Pos} {tg elt iter : Expr} {t : FT} {ifs : List Expr} {scope : Scope} (own : List (Str × Nat)) {ki gs : List Nat} {fi : FI} {ga : FG} {fe : FE} (hc : X.calm = true) (hN : X.N.Nodup) (hi : PI' X c ki tg iter fi) (ok : BlkOk X.N X.env.scope scope own)
    (hg : ∀ (s : Shared) (H : Hp) (C : Addr) (cl : List (Str × Addr)) (fp : List Addr), PG' (X.blk s H scope (compEnvC scope cl C X.env) fp) c.nx gs tg ga) (ht : ∀ (s : Shared) (H : Hp) (C : Addr) (cl : List (Str × Addr)) (fp : List Addr), PTs' (X.blk s H scope (compEnvC scope cl C X.env) fp) c.nx ifs t)
    (he : ∀ (s : Shared) (H : Hp) (C : Addr) (cl : List (Str × Addr)) (fp : List Addr), PE' (X.blk s H scope (compEnvC scope cl C X.env) fp) c.nx .st elt fe) (hy : X.N[i]? = some y := by rfl) (hyl : X.env.scope.names.lookup y = some .local := by rfl)
    (hsw : swapsWith (.ListComp elt [⟨tg, iter, ifs, 0⟩] scope pos) (some (.Name y py)) spos.line X.env = pure true := by exact sw_true rfl rfl rfl (by decide +kernel)) (hgs : ∀ i, i ∈ gs → i ∈ own.map (·.2) := by decide) (hs : ∀ x, foldedSetIterable iter X.env x = pure x := by intro _; rfl) :
    PS' X c fr [i] (.Assign [.Name y py] (.ListComp elt [⟨tg, iter, ifs, 0⟩] scope pos) spos) (sSet i (lcE fi ga t fe (own.map (·.2)))) :=
  psI (ps_setLc hc hN hy hyl hsw hi ok hg ht he hs) fun Dn σ H q => lc_go (fun _ _ _ _ z => z) (fun _ _ _ z => z) (fun _ _ _ z => z) hgs (setF_go q)
theorem eV_exc {i : Nat} {S : Env} {x : Exc} : eV i S ≠ .exc x := by unfold eV; split <;> intro h <;> cases h
theorem eV_of {i : Nat} {S : Env} {d : D} (h : eV i S = .ok d) : S[i]? = some (some ⟨false, d⟩) := by
  unfold eV at h
  split at h
  · cases h; assumption
  · cases h
def IpI (X : Cx) (op : Operator) (o : D → D → R D) : Prop := ∃ gf : Int → Int → Int, PIp X op (ipI gf) ∧ ∀ x y d, o x y = .ok d → (∀ i j, x = .int i → y = .int j → d = .int (gf i j))
theorem i_add : IpI X .Add addD := ⟨_, ip_add, fun x y d h i j e1 e2 => by subst e1; subst e2; simp only [addD] at h; cases h; rfl⟩
def bothI : D → D → Bool
  | .int _, .int _ => true
  | _, _ => false
def sAugI (i : Nat) (o : D → D → R D) (f : FE) : FS := fun S => eV i S >>= fun x => f S >>= fun y => if bothI x y then (o x y).nox >>= fun z => .ok (.nx, S.set i (some ⟨false, z⟩)) else .fail
theorem s_aug (i : Nat) {op : Operator} {oo : D → D → R D} (ho : IpI X op oo) (hN : X.N.Nodup) (he : PE' X c k1 e f) (hi : X.N[i]? = some x := by rfl) (hx : Loc X.env.scope x := by first | exact Or.inl rfl | exact Or.inr rfl) (hf : X.fn x = true ∨ X.env.scope.names.lookup x = some .local := by first | exact .inl rfl | exact .inr rfl) :
    PS' X c fr [i] (.AugAssign (.Name x p') op e pos) (sAugI i oo f) := by
  obtain ⟨gf, h1, h2⟩ := ho
  refine psI (ps_aug hN hi hx he h1 hf) fun Dn σ H ⟨G, S, rel, p⟩ => ?_
  have p : PostS c fr [i] G S σ H Dn (eV i S >>= fun x => f S >>= fun y => if bothI x y then (oo x y).nox >>= fun z => .ok (.nx, S.set i (some ⟨false, z⟩)) else .fail) := p
  cases e0 : eV i S with
  | exc x => exact absurd e0 eV_exc
  | fail => rw [e0] at p; exact p.elim
  | ok d =>
    rw [e0, R.ok_bind] at p
    obtain ⟨v, es, rv⟩ := rel.fz i d (eV_of e0)
    refine ⟨v, es, ?_⟩
    refine rdE_go (Post := PostS c fr [i] G S σ H Dn) rel p (fun _ z => z _) (fun z => z) fun d2 v2 G' H' sp q p1 => ?_
    by_cases hb : bothI d d2 = true
    · rw [if_pos hb] at p1
      cases d <;> first | (simp [bothI] at hb; done) | skip
      cases d2 <;> first | (simp [bothI] at hb; done) | skip
      rename_i a1 a2
      cases rv
      obtain rfl := q.now.int
      cases e1 : oo (.int a1) (.int a2) with
      | exc x => rw [e1] at p1; exact p1.elim
      | fail => rw [e1] at p1; exact p1.elim
      | ok z =>
        rw [e1] at p1
        have := h2 _ _ _ e1 a1 a2 rfl rfl
        subst this
        exact ⟨a1, a2, rfl, rfl, p1 G' _ H' sp.g ((rel.grow sp).setS i (.int _)) ((Frm.step (as := []) rel sp).trans (Frm.set i _ _))⟩
    · rw [if_neg hb] at p1; exact p1.elim
def putS (S : Env) : List Nat → List D → Env
  | i :: is, d :: ds => putS (S.set i (some ⟨false, d⟩)) is ds
  | _, _ => S
def sPar (is : List Nat) (fa : FA) : FS := fun S => fa S >>= fun ds => if ds.length = is.length then .ok (.nx, putS S is ds) else .fail
theorem s_par2 (i j : Nat) {fa : FA} {px py pt pt2 : Pos} {kt kk : Nat} (hN : X.N.Nodup) (ha : PA' X c false [a, b] fa) (hi : X.N[i]? = some x := by rfl) (hj : X.N[j]? = some y := by rfl) (hij : i ≠ j := by decide) (hx : X.env.scope.names.lookup x = some .local := by rfl) (hy : X.env.scope.names.lookup y = some .local := by rfl)
    (hc : X.calm = true := by rfl) (hsw : swappedStores [.Tuple [.Name x px, .Name y py] kt pt] (.Tuple [a, b] kk pt2) X.env = pure (some [x, y]) := by rfl) (hs : swapsWithSole [.Tuple [.Name x px, .Name y py] kt pt] (.Tuple [a, b] kk pt2) pos.line X.env = pure false := by rfl) :
    PS' X c fr [i, j] (.Assign [.Tuple [.Name x px, .Name y py] kt pt] (.Tuple [a, b] kk pt2) pos) (sPar [i, j] fa) :=
  psI (ps_par hc hN hi hj hij hx hy ha hsw hs) fun Dn σ H ⟨G, S, rel, p⟩ => by
    refine rdA_go (g := fun ds => if ds.length = [i, j].length then .ok (Fl.nx, putS S [i, j] ds) else .fail) (Post := PostS c fr [i, j] G S σ H Dn) rel p (fun _ z => z _) (fun z => z) fun ds vs G' H' sp q p1 => ?_
    have q : RDs c.k G' ds vs := q
    rcases q with _ | ⟨r1, _ | ⟨r2, _ | ⟨r3, r4⟩⟩⟩
    · exact p1.elim
    · exact p1.elim
    · exact ⟨_, _, rfl, p1 G' _ H' sp.g (((rel.grow sp).setS i r1).setS j r2) ((Frm.step (as := []) rel sp).trans ((Frm.set i _ _).trans (Frm.set j _ _)))⟩
    · simp only [List.length_cons, List.length_nil] at p1; rw [if_neg (by omega)] at p1; exact p1.elim
theorem s_par3 (i j l : Nat) {z : Str} {cc : Expr} {fa : FA} {px py pz pt pt2 : Pos} {kt kk : Nat} (hN : X.N.Nodup) (ha : PA' X c false [a, b, cc] fa) (hi : X.N[i]? = some x := by rfl) (hj : X.N[j]? = some y := by rfl) (hl : X.N[l]? = some z := by rfl) (hij : i ≠ j := by decide) (hil : i ≠ l := by decide) (hjl : j ≠ l := by decide)
    (hx : X.env.scope.names.lookup x = some .local := by rfl) (hy : X.env.scope.names.lookup y = some .local := by rfl) (hz : X.env.scope.names.lookup z = some .local := by rfl)
    (hc : X.calm = true := by rfl) (hsw : swappedStores [.Tuple [.Name x px, .Name y py, .Name z pz] kt pt] (.Tuple [a, b, cc] kk pt2) X.env = pure (some [x, y, z]) := by rfl) (hs : swapsWithSole [.Tuple [.Name x px, .Name y py, .Name z pz] kt pt] (.Tuple [a, b, cc] kk pt2) pos.line X.env = pure false := by rfl) :
    PS' X c fr [i, j, l] (.Assign [.Tuple [.Name x px, .Name y py, .Name z pz] kt pt] (.Tuple [a, b, cc] kk pt2) pos) (sPar [i, j, l] fa) :=
  psI (ps_par3 hc hN hi hj hl hij hil hjl hx hy hz ha hsw hs) fun Dn σ H ⟨G, S, rel, p⟩ => by
    refine rdA_go (g := fun ds => if ds.length = [i, j, l].length then .ok (Fl.nx, putS S [i, j, l] ds) else .fail) (Post := PostS c fr [i, j, l] G S σ H Dn) rel p (fun _ z => z _) (fun z => z) fun ds vs G' H' sp q p1 => ?_
    have q : RDs c.k G' ds vs := q
    rcases q with _ | ⟨r1, _ | ⟨r2, _ | ⟨r3, _ | ⟨r4, r5⟩⟩⟩⟩
    · exact p1.elim
    · exact p1.elim
    · exact p1.elim
    · exact ⟨_, _, _, rfl, p1 G' _ H' sp.g ((((rel.grow sp).setS i r1).setS j r2).setS l r3) ((Frm.step (as := []) rel sp).trans ((Frm.set i _ _).trans ((Frm.set j _ _).trans (Frm.set l _ _))))⟩
    · simp only [List.length_cons, List.length_nil] at p1; rw [if_neg (by omega)] at p1; exact p1.elim
end
end M
set_option Elab.async false
set_option linter.all false
set_option maxRecDepth 100000
set_option maxHeartbeats 4000000
namespace M
open PySem L2
section
variable {τ κ : Type}
def freshSet (w : World) : Obj := { cls := .type "set", dict := none, data := .set #[] 0 (.fresh 0 0 (!w.params.followText "set-order")) }
structure Fam (P : Program) (w : World) (K : PySem.W.Frag) (τ κ : Type) where
  ob : τ → Addr → HO
  t0 : τ
  pre : τ → V → κ → Hp → Prop
  post : τ → V → κ → τ → Prop
  new : ∀ (H : Hp) (h : Heap) (a : Addr), h.get? a = some (freshSet w) → ObjOk P w H h a (ob t0 a)
  add : ∀ (X : Cx), X.prog = P → X.w = w → X.K = K → X.A.units + 64 < cLine → ∀ (pins : List (Addr × Obj)) (s : Shared) (σ : L2.St) (H : Hp) (S : Addr) (t : τ) (y : V) (kk : κ) (u : Value) (Q : Value → Shared → Prop) (E : Value → Shared → Prop), Inv X pins σ H s → H S = some (ob t S) → RelV y u → pre t y kk H →
    (∀ t' s', post t y kk t' → Inv X pins σ (upd H S (ob t' S)) s' → Q .none s') → wpAny (model P w) X.A (call (.builtin "set.add") [.ref S, u]) Q E s
def tScG {P : Program} {w : World} {K : PySem.W.Frag} (F : Fam P w K τ κ) (wi : TI) (g : TG) (tt : TT) (te : TE) (vs : List Nat) : TE := fun σ H Q => wi σ H fun J H1 => ∀ S, H1 S = none → ∃ W : Nat → Nat → Hp → Prop, (∃ m, W 0 m (upd H1 S (F.ob F.t0 S))) ∧ ∀ i m H, W i m H →
  (J.stop i H ∧ Q (.ref S) H) ∨ (J.go i H ∧ ∃ Nx : Hp → Prop, (∀ H', Nx H' → ∃ m', m' < m ∧ W (i + 1) m' H') ∧ ∀ x H', J.yld i H x H' → g x (L2.wipe σ vs) H' fun σ2 H2 => L2.wipe σ2 vs = L2.wipe σ vs ∧ tt σ2 H2 fun b H3 =>
    if b = true then te σ2 H3 fun y H4 => ∃ t kk, H4 S = some (F.ob t S) ∧ F.pre t y kk H4 ∧ ∀ t', F.post t y kk t' → Nx (upd H4 S (F.ob t' S)) else Nx H3)
variable {X : Cx}
theorem pe_scG (F : Fam X.prog X.w X.K τ κ) {elt tg iter : Expr} {ifs : List Expr} {scope : Scope} {own : List (Str × Nat)} {pos : Pos} {wi : TI} {g : TG} {tt : TT} {te : TE} (hu : X.A.units + 64 < cLine) (hc : X.calm = true) (hN : X.N.Nodup) (hi : PI X tg iter wi) (ok : BlkOk X.N X.env.scope scope own)
    (hg : ∀ (s : Shared) (H : Hp) (C : Addr) (cl : List (Str × Addr)) (fp : List Addr), PG (X.blk s H scope (compEnvC scope cl C X.env) fp) tg g) (ht : ∀ (s : Shared) (H : Hp) (C : Addr) (cl : List (Str × Addr)) (fp : List Addr), PTs (X.blk s H scope (compEnvC scope cl C X.env) fp) ifs tt)
    (he : ∀ (s : Shared) (H : Hp) (C : Addr) (cl : List (Str × Addr)) (fp : List Addr), PE (X.blk s H scope (compEnvC scope cl C X.env) fp) elt te) (hs : ∀ x, foldedSetIterable iter X.env x = pure x := by intro _; rfl) :
    PE X (.SetComp elt [⟨tg, iter, ifs, 0⟩] scope pos) (tScG F wi g tt te (own.map (·.2))) := by
  constructor
  intro pins s σ H Q I rd
  rw [PpSet.eval_SetComp]
  have cells : ∀ y ∈ scope.names, y.2 = .free → ∃ c, X.env.cells.lookup y.1 = some c := fun y hy e => (ok.free y hy e).elim (fun k => I.ok.has _ (.inl k)) fun k => I.ok.has _ (.inr k)
  refine wpAny_comprehension_free (use := none) rfl hs (closure_ok cells) ok.kind (fun y hy e => by rw [ok.uniq y hy, e]) (thn (hi.run pins s σ H _ I rd) fun xv s1 hx => thn hx fun itv s2 h2 => ?_)
  obtain ⟨it, fp, tn, J, H2, rfl, I2, T, st2, f2, q⟩ := h2
  refine PpSet.newSet_ok (newEnv_comp ?_)
  have hfr : H2 s2.heap.objs.size = none := I2.hok.fresh (Nat.le_refl _)
  generalize hA : s2.heap.objs.size = A0 at hfr
  obtain ⟨W, ⟨m0, w0⟩, turn⟩ := q A0 hfr
  obtain ⟨s3, hs3⟩ : ∃ s3 : Shared, s3 = { s2 with heap := s2.heap.push (freshSet X.w) } := ⟨_, rfl⟩
  obtain ⟨H3, hH3⟩ : ∃ H3 : Hp, H3 = upd H2 A0 (F.ob F.t0 A0) := ⟨_, rfl⟩
  have old : ∀ b o, s2.heap.get? b = some o → s3.heap.get? b = some o := fun b o e => by rw [hs3]; exact Heap.get?_push_of_some _ e
  have I3 : Inv X pins σ H3 s3 := by
    rw [hs3, hH3]
    exact I2.laid (t' := s2.toks) (fun b o e => Heap.get?_push_of_some _ e) (Nat.le_of_eq hA) (F.new _ _ _ (by rw [← hA]; exact Heap.get?_push_size _ rfl))
  have there : ∀ b ∈ fp, b < s2.heap.objs.size := fun b hb => by
    obtain ⟨o, e, _⟩ := T.obj _ _ st2 b hb
    exact Heap.lt_size e
  have f3 : ∀ b ∈ fp, FpOk X pins H3 b ∧ b < s3.heap.objs.size := fun b hb => by
    have lt := there b hb
    refine ⟨⟨?_, (f2 b hb).2⟩, by rw [hs3]; exact (Heap.size_push ..).symm ▸ Nat.lt_succ_of_lt lt⟩
    rw [hH3, upd_ne (by rw [← hA]; exact Nat.ne_of_lt lt)]
    exact (f2 b hb).1
  have st3 : tn 0 s3.heap := T.keep _ _ _ st2 fun b _ o e => old b o e
  have I4 := block_start I3 ok hN f3
  have pg := hg s3 H3 s3.heap.objs.size (cellsFrom (s3.heap.objs.size + 1) scope.names (cloFrom X.env.cells scope.names [])) fp
  have pt := ht s3 H3 s3.heap.objs.size (cellsFrom (s3.heap.objs.size + 1) scope.names (cloFrom X.env.cells scope.names [])) fp
  have pe := he s3 H3 s3.heap.objs.size (cellsFrom (s3.heap.objs.size + 1) scope.names (cloFrom X.env.cells scope.names [])) fp
  have goal : codeAny (model X.prog X.w) X.A (.compStart (.SetComp elt [⟨tg, iter, ifs, 0⟩] scope pos) 0 (.ref it) (.ref A0) (compEnvC scope (cellsFrom (s3.heap.objs.size + 1) scope.names (cloFrom X.env.cells scope.names [])) s3.heap.objs.size X.env))
      (compPost (model X.prog X.w) X.A X.xe none (EP X pins σ Q) (.ref A0) s3.heap.objs.size) { s3 with heap := pushCells (s3.heap.push { cls := .type "dict", data := .dict #[] }) scope.names } := by
    generalize hce : compEnvC scope (cellsFrom (s3.heap.objs.size + 1) scope.names (cloFrom X.env.cells scope.names [])) s3.heap.objs.size X.env = ce at I4 pg pt pe ⊢
    have cL : ce.locals = s3.heap.objs.size := by subst hce; rfl
    generalize hs4 : ({ s3 with heap := pushCells (s3.heap.push { cls := .type "dict", data := .dict #[] }) scope.names } : Shared) = s4 at I4 ⊢
    have st4 : tn 0 s4.heap := T.keep _ _ _ st3 fun b _ o e => by rw [← hs4]; exact pushCells_keeps _ _ _ _ (Heap.get?_push_of_some _ e)
    have fpo : ∀ {σ' : L2.St} {H' : Hp} {s' : Shared}, Inv (X.blk s3 H3 scope ce fp) [] σ' H' s' → (∀ b ∈ fp, H' b = none) → ∀ b ∈ fp, FpOk (X.blk s3 H3 scope ce fp) [] H' b := fun {σ' H' s'} J' hn b hb =>
      ⟨hn b hb, (J'.ok.exf b hb).1, J'.ok.exfs b hb, .inl hb, (J'.ok.exf b hb).2, fun p hp => by cases (show p ∈ ([] : List (Addr × Obj)) from hp)⟩
    have loop : codeAny (model X.prog X.w) X.A (.compLoop (.SetComp elt [⟨tg, iter, ifs, 0⟩] scope pos) 0 (.ref it) (.ref A0) ce) (compPost (model X.prog X.w) X.A X.xe none (EP X pins σ Q) (.ref A0) s3.heap.objs.size) s4 := by
      refine PpSet.compLoopS_any (fun n s' => ∃ i H', Inv (X.blk s3 H3 scope ce fp) [] (L2.wipe σ (own.map (·.2))) H' s' ∧ tn i s'.heap ∧ (∀ b ∈ fp, H' b = none) ∧ W i n H') ?_ m0 ⟨0, H3, I4, st4, fun b hb => (f3 b hb).1.1, by rw [hH3]; exact w0⟩
      rintro n s5 ⟨i, H5, I5, st5, n5, w5⟩
      rcases turn i n H5 w5 with ⟨stop, qq⟩ | ⟨go, Nx, hNx, step⟩
      · refine thnF (T.done (X.blk s3 H3 scope ce fp) rfl rfl rfl hc i [] s5 _ H5 (fun _ _ => False) I5 (fpo I5 n5) st5 stop) fun r s6 ⟨hr, I6⟩ => ?_
        subst hr
        have I7 : Inv X pins σ H5 s6 := I3.call' (ch := fp) I6.os I6.base I6.hok I6.bare fun b hb => ⟨(f3 b hb).1.2.2.2.1, (f3 b hb).1.2.1, (f3 b hb).1.2.2.2.2.1, (f3 b hb).1.2.2.2.2.2⟩
        have nC : H5 s3.heap.objs.size = none := by rw [← cL]; exact I6.free
        obtain ⟨m, hn, _⟩ := I6.loc
        have hn : s6.heap.Ns ce.locals m := hn
        rw [cL] at hn
        have fC := I3.fpOk (Nat.le_refl _) nC
        exact ⟨m, hn, fun h'' sb => ⟨.ref A0, H5, I7.turned (t' := s6.toks) (fun b o hb e => (sb.2 b hb).trans e) fC.1 fC.2.1 fC.2.2.2.1 fC.2.2.2.2.1 fC.2.2.2.2.2, rfl, qq⟩⟩
      · refine thnF (T.item (X.blk s3 H3 scope ce fp) rfl rfl rfl hc i [] s5 _ H5 (fun _ _ => False) I5 (fpo I5 n5) st5 go) fun r s6 ⟨u, hr, h6⟩ => ?_
        subst hr
        refine thnF h6 fun _ s7 ⟨x, H7, I7, r7, y7, st7, n7⟩ => ?_
        have I7' := I7.pinned (fpo I7 n7) (T.obj _ _ st7)
        refine thnF (pg.run _ s7 _ H7 x u _ I7' r7 (step x H7 y7)) fun _ s8 ⟨σ8, H8, I8, hw8, q8⟩ => ?_
        refine thnF (pt.run _ s8 σ8 H8 _ I8 q8) fun b s9 ⟨H9, I9, q9⟩ => ?_
        have fin : ∀ {s' : Shared} {H' : Hp}, Inv (X.blk s3 H3 scope ce fp) ([] ++ pinsAt fp s7.heap) σ8 H' s' → Nx H' → ∃ m, m < n ∧ ∃ i H', Inv (X.blk s3 H3 scope ce fp) [] (L2.wipe σ (own.map (·.2))) H' s' ∧ tn i s'.heap ∧ (∀ b ∈ fp, H' b = none) ∧ W i m H' := fun {s' H'} I' nx => by
          obtain ⟨m', hm, w'⟩ := hNx H' nx
          have pinned : ∀ b ∈ fp, ∀ o, s7.heap.get? b = some o → s'.heap.get? b = some o ∧ H' b = none := fun b hb o e =>
            let z := I'.pin (b, o) (List.mem_append_right _ (List.mem_append_right _ (mem_pinsAt hb e)))
            ⟨z.1, z.2.1⟩
          refine ⟨m', hm, i + 1, H', (I'.unpinned (pins := [])).weak (by rw [← hw8, wipe_length]) (fun j v e => ?_), T.keep _ _ _ st7 fun b hb o e => (pinned b hb o e).1, fun b hb => ?_, w'⟩
          · rw [← hw8] at e
            exact (wipe_some e).1
          · obtain ⟨o, e, _⟩ := T.obj _ _ st7 b hb
            exact (pinned b hb o e).2
        cases b with
        | false =>
          rw [if_neg Bool.false_ne_true] at q9 ⊢
          exact fin I9 q9
        | true =>
          rw [if_pos rfl] at q9 ⊢
          refine thnF (pe.run _ s9 σ8 H9 _ I9 q9) fun z s10 ⟨yv, H10, I10, r10, t, kk, ht10, hp10, nx⟩ => ?_
          exact F.add (X.blk s3 H3 scope ce fp) rfl rfl rfl hu _ s10 σ8 H10 A0 t yv kk z _ _ I10 ht10 r10 hp10 fun t' s11 hpost I11 => fin I11 (nx t' hpost)
    exact PpSet.codeAny_compStart_set loop (T.self X.A 0 _ _ _ st4 loop)
  rw [hs3] at goal
  exact goal
end
section
def asT : D → Option (List Int)
  | .tup ds => asI ds
  | _ => none
def asTs : List D → Option (List (List Int))
  | [] => some []
  | d :: ds => match asT d, asTs ds with
    | some k, some ks => some (k :: ks)
    | _, _ => none
theorem RD.asT {k : Kn} {G : Hp} {d : D} {v : V} {ns : List Int} (r : RD k G d v) (h : M.asT d = some ns) : ∃ a, v = .ref a ∧ SqU k.K G a (ns.map V.int) := by
  cases d <;> simp only [M.asT] at h <;> first | (cases h; done) | skip
  cases r with
  | tup hs hr =>
    have := asI_of hr h
    subst this
    exact ⟨_, rfl, hs⟩
end
end M
set_option Elab.async false
set_option linter.all false
set_option maxRecDepth 100000
set_option maxHeartbeats 4000000
namespace M
open PySem L2
open AutoSeq1 (wpAny_loadPart')
end M
set_option Elab.async false
set_option linter.all false
set_option maxRecDepth 100000
set_option maxHeartbeats 4000000
namespace M
open PySem L2
theorem zip_none : ∀ {nm : List Str} {vs : List V} {f : Str}, f ∉ nm → (nm.zip vs).lookup f = none
  | [], _, _, _ => by simp
  | _ :: _, [], _, _ => by simp
  | n :: nm, v :: vs, f, h => by
    simp only [List.mem_cons, not_or] at h
    rw [List.zip_cons_cons, List.lookup_cons, beq_eq_false_iff_ne.mpr h.1]
    exact zip_none h.2
def D.isObj (ci : Nat) : D → Bool
  | .obj c _ => c == ci
  | _ => false
structure Method (P : Program) (w : World) (K : PySem.W.Frag) (mg : Str → Option Value) (base : Heap) (k : Kn) (lv : Nat) (ci : Nat) (m : Str) (n : Nat) (fr : Bool) (den : List D → R D) : Prop where
  ex : ∃ (C f : Addr) (fd : FuncData) (ps nm : List Str), ps.length = n ∧ k.cl ci = some (C, nm) ∧ m ∉ nm ∧ Cls K C ∧ Meth K C m f ∧ FnOk P w K mg base CX0 lv f fd ps (SpF k fr n den) ∧ Binds K fd ps []
structure MakeK (P : Program) (w : World) (K : PySem.W.Frag) (mg : Str → Option Value) (base : Heap) (k : Kn) (lv : Nat) (x : Str) (ci n : Nat) (ks : List Str) (den : List D → R D) : Prop where
  ex : ∃ (C f : Addr) (fd : FuncData) (ps nm : List Str) (g : List Value → List Value → List Value), k.cl ci = some (C, nm) ∧ Mk K C f ∧ FnOk P w K mg base CX0 lv f fd ps (SpN k ci (n + ks.length + 1) den) ∧ mg x = some (.ref C) ∧ KBn K fd ps (n + 1) ks g (fun vs zs => vs ++ zs)
structure Maker (P : Program) (w : World) (K : PySem.W.Frag) (mg : Str → Option Value) (base : Heap) (k : Kn) (lv : Nat) (x : Str) (ci n : Nat) (den : List D → R D) : Prop where
  ex : ∃ (C f : Addr) (fd : FuncData) (ps : List Str) (nm : List Str), ps.length = n + 1 ∧ k.cl ci = some (C, nm) ∧ Mk K C f ∧ FnOk P w K mg base CX0 lv f fd ps (SpN k ci (n + 1) den) ∧ mg x = some (.ref C) ∧ Binds K fd ps []
structure Prope (P : Program) (w : World) (K : PySem.W.Frag) (mg : Str → Option Value) (base : Heap) (k : Kn) (lv : Nat) (ci : Nat) (m : Str) (fr : Bool) (den : List D → R D) : Prop where
  ex : ∃ (C p f : Addr) (fd : FuncData) (ps nm : List Str), ps.length = 1 ∧ k.cl ci = some (C, nm) ∧ Cls K C ∧ PropOf K C m p f ∧ FnOk P w K mg base CX0 lv f fd ps (SpF k fr 1 den) ∧ Binds K fd ps []
section
variable {X : Cx} {c : Cf} {k : Kn} {kd k1 k2 k3 : Kd} {a b e o : Expr} {f g h : FE} {pos apos cpos p' : Pos} {fr : Bool} {x y : Str} {den : List D → R D}
theorem rdE_mono {σ : L2.St} {H : Hp} {Q Q' : VK} (q : RdE c kd f σ H Q) (h : ∀ v H, Q v H → Q' v H) : RdE c kd f σ H Q' := by
  obtain ⟨G, S, rel, p⟩ := q
  refine ⟨G, S, rel, ?_⟩
  cases e : f S with
  | ok d => rw [e] at p; exact fun v G' H' s r => h _ _ (p v G' H' s r)
  | exc x => rw [e] at p; exact p
  | fail => rw [e] at p; exact p
def eM (ci : Nat) (den : List D → R D) (f : FE) (fa : FA) : FE := fun S => f S >>= fun o => if o.isObj ci then fa S >>= fun ds => (den (o :: ds)).nox else .fail
theorem meth_go {ci n : Nat} {C : Addr} {nm : List Str} {m : Str} {fa : FA} {σ : L2.St} {H : Hp} {Q : VK} (hcl : c.k.cl ci = some (C, nm)) (hmn : m ∉ nm) (hl : Len n fa) (q : RdE c (kdOf fr) (eM ci den f fa) σ H Q) :
    RdE c .st f σ H fun x H1 => ∃ a dx fs, x = .ref a ∧ H1 a = some (.ins C dx fs) ∧ fs.lookup m = none ∧ RdA c false fa σ H1 fun vs H2 => SpF c.k fr (n + 1) den (x :: (vs ++ [])) H2 Q E0 := by
  obtain ⟨G, S, rel, p⟩ := q
  refine rdE_go (g := fun o => if o.isObj ci then fa S >>= fun ds => (den (o :: ds)).nox else .fail) (Post := PostE c (kdOf fr) G S σ H Q) rel p (fun _ z => z) (fun z => z) fun d v G1 H1 s1 q1 p1 => ?_
  by_cases ho : d.isObj ci = true
  · rw [if_pos ho] at p1
    cases d with
    | obj c' ds =>
      have hc : c' = ci := by simpa [D.isObj] using ho
      subst hc
      have q1 : RD c.k G1 (.obj c' ds) v := q1
      cases q1 with
      | @obj _ _ ad CA dx nm' vs' hcl' hG hr =>
        rw [hcl] at hcl'; cases hcl'
        refine ⟨ad, dx, _, rfl, s1.gh _ _ hG, zip_none hmn, G1, S, rel.grow s1, ?_⟩
        cases e0 : fa S with
        | exc x => rw [e0] at p1; exact p1
        | fail => rw [e0] at p1; exact p1
        | ok as =>
          rw [e0] at p1
          intro vs G2 H2 s2 q2
          have q2 : RDs c.k G2 as vs := q2
          rw [List.append_nil]
          refine ⟨by simp [← q2.length, hl S as e0], G2, .obj c' ds :: as, s2.gh, .cons (.obj hcl (s2.g _ _ hG) (hr.mono s2.g)) q2, ?_⟩
          have p1 : PostE c (kdOf fr) G S σ H Q (den (.obj c' ds :: as)).nox := p1
          cases e1 : den (.obj c' ds :: as) with
          | ok d => rw [e1] at p1; exact fun v G' H' s3 r3 => p1 v G' H' ((s1.trans s2).trans s3) (r3.mono (s1.h.trans s2.h))
          | exc x => rw [e1] at p1; exact p1.elim
          | fail => rw [e1] at p1; exact p1.elim
    | _ => simp [D.isObj] at ho
  · rw [if_neg ho] at p1; exact p1.elim
theorem d_meth0 {lv m' : Nat} (ci : Nat) {m : Str} {pl : Sem Bool} (F : Method X.prog X.w X.K X.mg X.base c.k lv ci m 1 fr den) (hr : Room m' X.A) (hle : lv ≤ m') (ho : PE' X c .st o f)
    (ht : eval (.Call (.Attribute o m apos) [] [] pos) X.env = (do
      let ov ← eval o X.env
      standAt apos.atName
      let (f, first) ← holding [ov] (getMethod ov m pl)
      callWith pos f first (backTo pos (starEach [] X.env)) (backToKw pos (keywordEach [] X.env))) := by rfl) :
    PE' X c (kdOf fr) (.Call (.Attribute o m apos) [] [] pos) (eM ci den f fun _ => .ok []) := by
  obtain ⟨C, fa', fd, ps, nm, hn, hcl, hmn, cl, mt, ok, bd⟩ := F.ex
  refine peI (pe_meth0 ho cl mt ok (hr.mono hle) bd .nil pass0 ht) fun σ H Q q => ?_
  have z := meth_go (n := 0) (fa := fun _ => .ok []) hcl hmn (fun S ds h => by cases h; rfl) q
  refine rdE_mono z fun x H1 q1 => ?_
  obtain ⟨a, dx, fs, e1, e2, e3, q2⟩ := q1
  refine ⟨a, dx, fs, e1, e2, e3, ?_⟩
  obtain ⟨G, S, rel, p⟩ := q2
  exact p [] G H1 (Step.refl rel.st.gh) .nil
def eP (ci : Nat) (den : List D → R D) (f : FE) : FE := eM ci den f fun _ => .ok []
theorem d_maker {lv m' : Nat} {ci n : Nat} {p : Pos} {es : List Expr} {fa : FA} (F : Maker X.prog X.w X.K X.mg X.base c.k lv x ci n den) (hr : Room m' X.A) (hle : lv + 1 ≤ m') (ha : PA' X c false (e :: es) fa) (hl : Len n fa) (hg : Gl X x := by rfl) (hdb : (x == ("__debug__" : Str)) = false := by decide)
    (hs : starEach (e :: es) X.env = (false, eval e X.env) :: starEach es X.env := by rfl) (hs2 : ((backTo pos (starEach es X.env)).any fun x => x.1) = false := by rfl) : PE' X c .fr (.Call (.Name x p) (e :: es) [] pos) (eC den fa) := by
  obtain ⟨C, f, fd, ps, nm, hn, hcl, mk, ok, hm, hb⟩ := F.ex
  exact d_make ⟨C, f, fd, lv, ps, nm, hn, hcl, mk, ok, hr.mono hle, hm, hb⟩ ha hl hg hdb hs hs2
def fApp (fa fk : FA) : FA := fun S => fa S >>= fun as => fk S >>= fun bs => .ok (as ++ bs)
abbrev PK' (X : Cx) (c : Cf) (ks : List Keyword) (f : FA) : Prop := PK X ks (RdA c false f)
theorem pkI {ks : List Keyword} {t t' : TA} (h : PK X ks t) (i : ∀ σ H Q, t' σ H Q → t σ H Q) : PK X ks t' := ⟨fun pos pins s σ H Q I q => h.run pos pins s σ H Q I (i σ H Q q)⟩
theorem d_kn : PK' X c [] aN := pkI pk_nil fun σ H Q ⟨G, S, rel, p⟩ => p [] G H (Step.refl rel.st.gh) .nil
theorem d_kc {nm : Option Str} {kp : Pos} {ks : List Keyword} {ga : FA} (ha : PE' X c .st e f) (hr : PK' X c ks ga) : PK' X c (⟨nm, e, kp⟩ :: ks) (aC f ga) :=
  pkI (pk_cons ha hr) fun σ H Q ⟨G, S, rel, p⟩ => by
    refine rdE_go (g := fun x => do let xs ← ga S; .ok (x :: xs)) (Post := PostA c false G S σ H Q) rel p (fun _ z => z) (fun z => z) fun d1 v1 G1 H1 s1 q1 p1 => ?_
    refine rdA_go (g := fun xs => .ok (d1 :: xs)) (Post := PostA c false G S σ H Q) (rel.grow s1) p1 (fun _ z => z) (fun z => z) fun d2 v2 G2 H2 s2 q2 p2 => ?_
    exact p2 _ G2 H2 (s1.trans s2) (.cons (RD.mono s2.g q1) q2)
structure ClsT (K : PySem.W.Frag) (k : Kn) (ci : Nat) : Prop where
  ex : ∃ C nm, k.cl ci = some (C, nm) ∧ Cls K C ∧ PySem.W.findIn K (.ref C) "__class__" = some (some (.builtin "object.__class__")) ∧ PySem.W.specialIn K (.builtin "object.__class__") "__get__" = some (some (.builtin "getset_descriptor.__get__")) ∧
    PySem.W.takesIn K (.builtin "object.__class__") = some true ∧ PySem.W.mroIn K C (.type "object") = some true
theorem d_callS {n : Nat} {p : Pos} {es : List Expr} {fa : FA} (F : Fn0 X c.k x n false den) (ha : PA' X c false (e :: es) fa) (hl : Len n fa) (hg : Gl X x := by rfl) (hdb : (x == ("__debug__" : Str)) = false := by decide)
    (hs : starEach (e :: es) X.env = (false, eval e X.env) :: starEach es X.env := by rfl) (hs2 : ((backTo pos (starEach es X.env)).any fun x => x.1) = false := by rfl) : PE' X c .st (.Call (.Name x p) (e :: es) [] pos) (eC den fa) := d_call F ha hl hg hdb hs hs2
theorem d_meth0S {lv m' : Nat} (ci : Nat) {m : Str} {pl : Sem Bool} (F : Method X.prog X.w X.K X.mg X.base c.k lv ci m 1 false den) (hr : Room m' X.A) (hle : lv ≤ m') (ho : PE' X c .st o f)
    (ht : eval (.Call (.Attribute o m apos) [] [] pos) X.env = (do
      let ov ← eval o X.env
      standAt apos.atName
      let (f, first) ← holding [ov] (getMethod ov m pl)
      callWith pos f first (backTo pos (starEach [] X.env)) (backToKw pos (keywordEach [] X.env))) := by rfl) :
    PE' X c .st (.Call (.Attribute o m apos) [] [] pos) (eM ci den f fun _ => .ok []) := d_meth0 ci F hr hle ho ht
theorem d_callF {n : Nat} {p : Pos} {es : List Expr} {fa : FA} (F : Fn0 X c.k x n true den) (ha : PA' X c false (e :: es) fa) (hl : Len n fa) (hg : Gl X x := by rfl) (hdb : (x == ("__debug__" : Str)) = false := by decide)
    (hs : starEach (e :: es) X.env = (false, eval e X.env) :: starEach es X.env := by rfl) (hs2 : ((backTo pos (starEach es X.env)).any fun x => x.1) = false := by rfl) : PE' X c .fr (.Call (.Name x p) (e :: es) [] pos) (eC den fa) := d_call F ha hl hg hdb hs hs2
end
end M
set_option Elab.async false
set_option linter.all false
set_option maxRecDepth 100000
set_option maxHeartbeats 4000000
namespace M
open PySem L2
def Ok {α : Type} (r : R α) (Q : α → Prop) : Prop := ∃ a, r = .ok a ∧ Q a
section
variable {α β : Type} {Q : α → Prop} {S : Env}
theorem Ok.mono {r : R α} {P : α → Prop} (h : Ok r P) (k : ∀ a, P a → Q a) : Ok r Q := by obtain ⟨a, e, p⟩ := h; exact ⟨a, e, k a p⟩
theorem ok_ok {a : α} : Ok (.ok a) Q ↔ Q a := ⟨fun ⟨_, e, q⟩ => (by cases e; exact q), fun q => ⟨a, rfl, q⟩⟩
theorem ok_bind {r : R β} {f : β → R α} : Ok (r >>= f) Q ↔ Ok r fun b => Ok (f b) Q := by
  cases r with
  | ok b => rw [ok_ok]; exact Iff.rfl
  | exc x => exact ⟨fun ⟨_, e, _⟩ => (nomatch e), fun ⟨_, e, _⟩ => (nomatch e)⟩
  | fail => exact ⟨fun ⟨_, e, _⟩ => (nomatch e), fun ⟨_, e, _⟩ => (nomatch e)⟩
theorem ok_nox {r : R α} : Ok r.nox Q ↔ Ok r Q := by
  cases r with
  | ok b => exact Iff.rfl
  | exc x => exact ⟨fun ⟨_, e, _⟩ => (nomatch e), fun ⟨_, e, _⟩ => (nomatch e)⟩
  | fail => exact Iff.rfl
theorem ok_if {c : Prop} [Decidable c] {a : R α} : Ok (if c then a else .fail) Q ↔ c ∧ Ok a Q := by
  by_cases h : c
  · rw [if_pos h]; exact ⟨fun z => ⟨h, z⟩, fun z => z.2⟩
  · rw [if_neg h]; exact ⟨fun ⟨_, e, _⟩ => (nomatch e), fun z => absurd z.1 h⟩
theorem Ok.eq {r : R α} {a : α} (h : Ok r fun x => x = a) : r = .ok a := by obtain ⟨x, e, rfl⟩ := h; exact e
end
section
variable {Q : D → Prop} {QB : Bool → Prop} {QL : List D → Prop} {QE : Env → Prop} {QS : Fl × Env → Prop} {QO : Option Int → Prop} {S : Env} {f g h : FE} {t u : FT} {fa : FA} {s r : FS} {i j : Nat} {d x y : D}
theorem k_I {i : Int} : Ok (eI i S) Q ↔ Q (.int i) := ok_ok
theorem k_S {i : Str} : Ok (eS i S) Q ↔ Q (.str i) := ok_ok
theorem k_B {i : Bool} : Ok (eB i S) Q ↔ Q (.bl i) := ok_ok
theorem k_N : Ok (eN S) Q ↔ Q .non := ok_ok
theorem k_G : Ok (eG d S) Q ↔ Q d := ok_ok
theorem k_Y {n : String} : Ok (eY n S) Q ↔ Q (.ty n) := ok_ok
def get0 (i : Nat) (S : Env) (Q : D → Prop) : Prop := match S[i]? with | some (some ⟨false, d⟩) => Q d | _ => False
def getA (i : Nat) (S : Env) (Q : D → Prop) : Prop := match S[i]? with | some (some ⟨_, d⟩) => Q d | _ => False
def get1 (i : Nat) (S : Env) (Q : D → Prop) : Prop := match S[i]? with | some (some ⟨true, d⟩) => Q d | _ => False
theorem ok_fail {α : Type} {Q : α → Prop} : Ok (.fail : R α) Q ↔ False := ⟨fun ⟨_, e, _⟩ => (nomatch e), False.elim⟩
theorem k_V : Ok (eV i S) Q ↔ get0 i S Q := by
  unfold eV get0
  cases S[i]? with
  | none => exact ok_fail
  | some o =>
    cases o with
    | none => exact ok_fail
    | some sl => obtain ⟨b, d⟩ := sl; cases b <;> first | exact ok_ok | exact ok_fail
theorem k_W : Ok (eW i S) Q ↔ getA i S Q := by
  unfold eW getA
  cases S[i]? with
  | none => exact ok_fail
  | some o =>
    cases o with
    | none => exact ok_fail
    | some sl => obtain ⟨b, d⟩ := sl; cases b <;> first | exact ok_ok | exact ok_fail
theorem k_O : Ok (eO i S) Q ↔ get1 i S Q := by
  unfold eO get1
  cases S[i]? with
  | none => exact ok_fail
  | some o =>
    cases o with
    | none => exact ok_fail
    | some sl => obtain ⟨b, d⟩ := sl; cases b <;> first | exact ok_ok | exact ok_fail
theorem g0_z {b : List (Option Sl)} {Q : D → Prop} : get0 0 (some ⟨false, d⟩ :: b) Q ↔ Q d := Iff.rfl
theorem g0_s {a : Option Sl} {b : List (Option Sl)} {Q : D → Prop} : get0 (i + 1) (a :: b) Q ↔ get0 i b Q := Iff.rfl
theorem gA_z {o : Bool} {b : List (Option Sl)} {Q : D → Prop} : getA 0 (some ⟨o, d⟩ :: b) Q ↔ Q d := Iff.rfl
theorem gA_s {a : Option Sl} {b : List (Option Sl)} {Q : D → Prop} : getA (i + 1) (a :: b) Q ↔ getA i b Q := Iff.rfl
theorem g1_z {b : List (Option Sl)} {Q : D → Prop} : get1 0 (some ⟨true, d⟩ :: b) Q ↔ Q d := Iff.rfl
theorem g1_s {a : Option Sl} {b : List (Option Sl)} {Q : D → Prop} : get1 (i + 1) (a :: b) Q ↔ get1 i b Q := Iff.rfl
theorem k_1 {o : D → R D} : Ok (e1 o f S) Q ↔ Ok (f S) fun x => Ok (o x) Q := by unfold e1; simp only [ok_bind, ok_nox]
theorem k_2 {o : D → D → R D} : Ok (e2 o f g S) Q ↔ Ok (f S) fun x => Ok (g S) fun y => Ok (o x y) Q := by unfold e2; simp only [ok_bind, ok_nox]
theorem k_n : Ok (aN S) QL ↔ QL [] := ok_ok
theorem k_c : Ok (aC f fa S) QL ↔ Ok (f S) fun x => Ok (fa S) fun xs => QL (x :: xs) := by unfold aC; simp only [ok_bind, ok_ok]
theorem k_T : Ok (eT fa S) Q ↔ Ok (fa S) fun xs => xs.length ≤ sizeLine ∧ Q (.tup xs) := by unfold eT mkT; simp only [ok_bind, ok_if, ok_ok]
theorem k_L : Ok (eL fa S) Q ↔ Ok (fa S) fun xs => xs.length ≤ sizeLine ∧ Q (.lst xs) := by unfold eL mkL; simp only [ok_bind, ok_if, ok_ok]
theorem k_C {o : List D → R D} : Ok (eC o fa S) Q ↔ Ok (fa S) fun xs => Ok (o xs) Q := by unfold eC; simp only [ok_bind, ok_nox]
theorem k_f1 {o : D → R D} : Ok (f1 o [x]) Q ↔ Ok (o x) Q := Iff.rfl
theorem k_f2 {o : D → D → R D} : Ok (f2 o [x, y]) Q ↔ Ok (o x y) Q := Iff.rfl
theorem k_App {fk : FA} : Ok (fApp fa fk S) QL ↔ Ok (fa S) fun xs => Ok (fk S) fun ys => QL (xs ++ ys) := by unfold fApp; simp only [ok_bind, ok_ok]
theorem k_M {ci : Nat} {den : List D → R D} : Ok (eM ci den f fa S) Q ↔ Ok (f S) fun o => o.isObj ci = true ∧ Ok (fa S) fun ds => Ok (den (o :: ds)) Q := by unfold eM; simp only [ok_bind, ok_if, ok_nox]
theorem k_P {ci : Nat} {den : List D → R D} : Ok (eP ci den f S) Q ↔ Ok (f S) fun o => o.isObj ci = true ∧ Ok (den [o]) Q := by unfold eP; rw [k_M]; simp only [ok_ok]
theorem ok_b {α : Type} {Q : α → Prop} {b : Bool} {a c : R α} : Ok (if b = true then a else c) Q ↔ (b = true → Ok a Q) ∧ (b = false → Ok c Q) := by cases b <;> simp
theorem k_3 {o o' : D → D → R D} : Ok (e3 o o' f g h S) Q ↔ Ok (f S) fun x => Ok (g S) fun y => Ok (o x y) fun b => Ok (toB b) fun b => (b = true → Ok (h S) fun z => Ok (o' y z) Q) ∧ (b = false → Q (.bl false)) := by
  unfold e3
  simp only [ok_bind, ok_nox, ok_b, ok_ok]
theorem k_tB : Ok (tB' f S) QB ↔ Ok (f S) fun x => Ok (toB x) QB := by unfold tB'; simp only [ok_bind]
theorem k_tT : Ok (tT' f S) QB ↔ Ok (f S) fun x => Ok (truD x) QB := by unfold tT'; simp only [ok_bind]
theorem k_toB {b : Bool} : Ok (toB (.bl b)) QB ↔ QB b := ok_ok
theorem k_tNo : Ok (tNo t S) QB ↔ Ok (t S) fun b => QB (!b) := by unfold tNo; simp only [ok_bind, ok_ok]
theorem k_tA : Ok (tA t u S) QB ↔ Ok (t S) fun b => (b = true → Ok (u S) QB) ∧ (b = false → QB false) := by unfold tA; simp only [ok_bind, ok_b, ok_ok]
theorem k_tO : Ok (tO t u S) QB ↔ Ok (t S) fun b => (b = true → QB true) ∧ (b = false → Ok (u S) QB) := by unfold tO; simp only [ok_bind, ok_b, ok_ok]
theorem k_tY : Ok (tY S) QB ↔ QB true := ok_ok
theorem k_And : Ok (eAnd f g S) Q ↔ Ok (f S) fun x => Ok (toB x) fun b => (b = true → Ok (g S) Q) ∧ (b = false → Q (.bl false)) := by unfold eAnd; simp only [ok_bind, ok_b, ok_ok]
theorem k_Or : Ok (eOr f g S) Q ↔ Ok (f S) fun x => Ok (toB x) fun b => (b = true → Q (.bl true)) ∧ (b = false → Ok (g S) Q) := by unfold eOr; simp only [ok_bind, ok_b, ok_ok]
theorem k_Not : Ok (eNot f S) Q ↔ Ok (f S) fun x => Ok (toB x) fun b => Q (.bl (!b)) := by unfold eNot; simp only [ok_bind, ok_ok]
theorem k_eIf : Ok (eIf t f g S) Q ↔ Ok (t S) fun b => (b = true → Ok (f S) Q) ∧ (b = false → Ok (g S) Q) := by unfold eIf; simp only [ok_bind, ok_b]
theorem k_nil : Ok (sNil S) QS ↔ QS (.nx, S) := ok_ok
theorem k_seq : Ok (sSeq s r S) QS ↔ Ok (s S) fun z => match z.1 with | .nx => Ok (r z.2) QS | _ => QS z := by
  unfold sSeq
  rw [ok_bind]
  apply iff_of_eq
  congr 1
  funext z
  obtain ⟨fl, S'⟩ := z
  cases fl <;> simp [ok_ok]
theorem k_set : Ok (sSet i f S) QS ↔ Ok (f S) fun d => QS (.nx, S.set i (some ⟨false, d⟩)) := by unfold sSet; simp only [ok_bind, ok_ok]
theorem k_own : Ok (sOwn i f S) QS ↔ Ok (f S) fun d => QS (.nx, S.set i (some ⟨true, d⟩)) := by unfold sOwn; simp only [ok_bind, ok_ok]
theorem k_drop : Ok (sDrop f S) QS ↔ Ok (f S) fun d => QS (.nx, S) := by unfold sDrop; simp only [ok_bind, ok_ok]
theorem k_ret : Ok (sRet f S) QS ↔ Ok (f S) fun d => QS (.rt d, S) := by unfold sRet; simp only [ok_bind, ok_ok]
theorem k_retN : Ok (sRetN S) QS ↔ QS (.rt .non, S) := ok_ok
theorem k_retO : Ok (sRetO i S) QS ↔ get1 i S fun d => QS (.rt d, S) := by unfold sRetO; simp only [ok_bind, ok_ok, k_O]
theorem k_if : Ok (sIf t s r S) QS ↔ Ok (t S) fun b => (b = true → Ok (s S) QS) ∧ (b = false → Ok (r S) QS) := by unfold sIf; simp only [ok_bind, ok_b]
theorem k_fz : Ok (sFz i s S) QS ↔ Ok (s (fzS S i)) QS := Iff.rfl
theorem fz_z {b : Bool} {l : List (Option Sl)} : fzS (some ⟨b, d⟩ :: l) 0 = some ⟨false, d⟩ :: l := by cases b <;> rfl
theorem fz_s {a : Option Sl} {l : List (Option Sl)} : fzS (a :: l) (i + 1) = a :: fzS l i := by
  unfold fzS
  rw [List.getElem?_cons_succ]
  split <;> simp [*]
theorem k_gN : Ok (gN i d S) QE ↔ QE (S.set i (some ⟨false, d⟩)) := ok_ok
theorem k_gsN : Ok (gsN [] S) QE ↔ QE S := ok_ok
theorem k_gsC {ga : FG} {gr : FGs} {ds : List D} : Ok (gsC ga gr (d :: ds) S) QE ↔ Ok (ga d S) fun S1 => Ok (gr ds S1) QE := ok_bind
theorem k_gT {n : Nat} {gr : FGs} {ds : List D} : Ok (gT n gr (.tup ds) S) QE ↔ ds.length = n ∧ Ok (gr ds S) QE := ok_if
theorem k_asg {ga : FG} : Ok (sAsg ga f S) QS ↔ Ok (f S) fun d => Ok (ga d S) fun S1 => QS (.nx, S1) := by unfold sAsg; simp only [ok_bind, ok_nox, ok_ok]
theorem k_for {fi : FI} {ga : FG} : Ok (sFor fi ga s S) QS ↔ Ok (fi S) fun ds => Ok (forF ga s ds S) QS := ok_bind
theorem k_fnil {ga : FG} : Ok (forF ga s [] S) QS ↔ QS (.nx, S) := ok_ok
theorem k_fcons {ga : FG} {ds : List D} : Ok (forF ga s (d :: ds) S) QS ↔ Ok (ga d S) fun S1 => Ok (s S1) fun z => match z.1 with
    | .nx => Ok (forF ga s ds z.2) QS
    | .ct => Ok (forF ga s ds z.2) QS
    | .bk => QS (.nx, z.2)
    | .rt d => QS (.rt d, z.2) := by
  show Ok ((ga d S).nox >>= _) QS ↔ _
  rw [ok_bind, ok_nox]
  apply iff_of_eq
  congr 1
  funext S1
  refine propext ?_
  rw [ok_bind]
  apply iff_of_eq
  congr 1
  funext z
  obtain ⟨fl, S'⟩ := z
  cases fl <;> simp [ok_ok]
theorem for_inv {ga : FG} (P : Nat → Env → Prop) : ∀ (ds : List D) (n : Nat) (S : Env), P n S → (∀ i d S, ds[i]? = some d → P (n + i) S → Ok (ga d S) fun S1 => Ok (s S1) fun z => match z.1 with
    | .nx => P (n + i + 1) z.2
    | .ct => P (n + i + 1) z.2
    | .bk => QS (.nx, z.2)
    | .rt d => QS (.rt d, z.2)) → (∀ S, P (n + ds.length) S → QS (.nx, S)) → Ok (forF ga s ds S) QS
  | [], n, S, h, _, q => ok_ok.mpr (q S h)
  | d :: ds, n, S, h, k, q => by
    rw [k_fcons]
    refine (k 0 d S rfl h).mono fun S1 h1 => h1.mono fun z hz => ?_
    have next : ∀ S', P (n + 0 + 1) S' → Ok (forF ga s ds S') QS := fun S' hp => for_inv P ds (n + 1) S' hp (fun i d' S'' hi hp => by
      have := k (i + 1) d' S'' (by simpa using hi) (by rwa [show n + (i + 1) = n + 1 + i by omega])
      rwa [show n + (i + 1) + 1 = n + 1 + i + 1 by omega] at this) fun S'' h => q S'' (by rwa [List.length_cons, show n + (ds.length + 1) = n + 1 + ds.length by omega])
    obtain ⟨fl, S'⟩ := z
    cases fl with
    | nx => exact next S' hz
    | ct => exact next S' hz
    | bk => exact hz
    | rt d => exact hz
theorem k_app : Ok (sApp i f S) QS ↔ Ok (ownL i S) fun ds => Ok (f S) fun d => ds.length < sizeLine ∧ QS (.nx, S.set i (some ⟨true, .lst (ds ++ [d])⟩)) := by unfold sApp; simp only [ok_bind, ok_if, ok_ok]
theorem oL_z {l : List (Option Sl)} {ds : List D} : Ok (ownL 0 (some ⟨true, .lst ds⟩ :: l)) QL ↔ QL ds := ok_ok
theorem oL_s {a : Option Sl} {l : List (Option Sl)} : Ok (ownL (i + 1) (a :: l)) QL ↔ Ok (ownL i l) QL := Iff.rfl
theorem k_par {is : List Nat} : Ok (sPar is fa S) QS ↔ Ok (fa S) fun ds => ds.length = is.length ∧ QS (.nx, putS S is ds) := by unfold sPar; simp only [ok_bind, ok_if, ok_ok]
theorem k_run {n : Nat} {ds : List D} : Ok (runF false n s ds) Q ↔ Ok (s (startS n ds)) fun z => match z.1 with | .rt d => Q d | .nx => Q .non | _ => False := by
  unfold runF
  cases e : s (startS n ds) with
  | ok z =>
    rw [ok_ok]
    obtain ⟨fl, S'⟩ := z
    cases fl <;> simp [endF, ok_ok, ok_fail]
  | exc x => exact ⟨fun ⟨_, e, _⟩ => (nomatch e), fun ⟨_, e, _⟩ => (nomatch e)⟩
  | fail => exact ⟨fun ⟨_, e, _⟩ => (nomatch e), fun ⟨_, e, _⟩ => (nomatch e)⟩
theorem k_runN {n ci : Nat} {ds : List D} : Ok (runN n ci s ds) Q ↔ Ok (s (startN n ci ds)) fun z => match z.1 with | .nx => get1 0 z.2 Q | _ => False := by
  unfold runN
  cases e : s (startN n ci ds) with
  | ok z =>
    rw [ok_ok]
    obtain ⟨fl, S'⟩ := z
    cases fl with
    | nx =>
      show Ok (endN (.ok (.nx, S'))) Q ↔ get1 0 S' Q
      unfold endN get1
      dsimp only
      cases S'[0]? with
      | none => exact ok_fail
      | some o =>
        cases o with
        | none => exact ok_fail
        | some sl => obtain ⟨b, d⟩ := sl; cases b <;> first | exact ok_ok | exact ok_fail
    | _ => exact ok_fail
  | exc x => exact ⟨fun ⟨_, e, _⟩ => (nomatch e), fun ⟨_, e, _⟩ => (nomatch e)⟩
  | fail => exact ⟨fun ⟨_, e, _⟩ => (nomatch e), fun ⟨_, e, _⟩ => (nomatch e)⟩
theorem k_fld {ci : Nat} : Ok (sFldN ci i j f S) QS ↔ Ok (ownO ci i S) fun ds => Ok (f S) fun d => ds.length = j ∧ QS (.nx, S.set i (some ⟨true, .obj ci (ds ++ [d])⟩)) := by unfold sFldN; simp only [ok_bind, ok_if, ok_ok]
theorem oO_z {ci : Nat} {l : List (Option Sl)} {ds : List D} : Ok (ownO ci 0 (some ⟨true, .obj ci ds⟩ :: l)) QL ↔ QL ds := by
  show Ok (if ci = ci then _ else _) QL ↔ _
  rw [if_pos rfl]; exact ok_ok
theorem k_add {a b : Int} : Ok (addD (.int a) (.int b)) Q ↔ Q (.int (a + b)) := ok_ok
theorem k_addL {a b : List D} : Ok (addD (.lst a) (.lst b)) Q ↔ a.length + b.length ≤ sizeLine ∧ Q (.lst (a ++ b)) := by show Ok (if _ then _ else _) Q ↔ _; rw [ok_if, ok_ok]
theorem k_sub {a b : Int} : Ok (subD (.int a) (.int b)) Q ↔ Q (.int (a - b)) := ok_ok
theorem k_mul {a b : Int} : Ok (mulD (.int a) (.int b)) Q ↔ (CMul a b ∨ CMulX a b) ∧ Q (.int (a * b)) := by show Ok (if _ then _ else _) Q ↔ _; rw [ok_if, ok_ok]
theorem k_div {a b : Int} : Ok (fdivD (.int a) (.int b)) Q ↔ CDiv a b ∧ Q (.int (a / b)) := by show Ok (if _ then _ else _) Q ↔ _; rw [ok_if, ok_ok]
theorem k_mod {a b : Int} : Ok (modD (.int a) (.int b)) Q ↔ 0 < b ∧ Q (.int (a % b)) := by show Ok (if _ then _ else _) Q ↔ _; rw [ok_if, ok_ok]
theorem k_pow {a b : Int} : Ok (powD (.int a) (.int b)) Q ↔ CPow a b ∧ Q (.int (a ^ b.toNat)) := by show Ok (if _ then _ else _) Q ↔ _; rw [ok_if, ok_ok]
theorem k_neg {a : Int} : Ok (negD (.int a)) Q ↔ Q (.int (-a)) := ok_ok
theorem k_lt {a b : Int} : Ok (ltD (.int a) (.int b)) Q ↔ Q (.bl (decide (a < b))) := ok_ok
theorem k_le {a b : Int} : Ok (leD (.int a) (.int b)) Q ↔ Q (.bl (decide (a ≤ b))) := ok_ok
theorem k_gt {a b : Int} : Ok (gtD (.int a) (.int b)) Q ↔ Q (.bl (decide (b < a))) := ok_ok
theorem k_ge {a b : Int} : Ok (geD (.int a) (.int b)) Q ↔ Q (.bl (decide (b ≤ a))) := ok_ok
theorem k_eqI {a b : Int} : Ok (eqD (.int a) (.int b)) Q ↔ Q (.bl (decide (a = b))) := by
  have e : eqD (.int a) (.int b) = .ok (.bl (decide (a = b))) := by
    unfold eqD; simp only [dok, deq, Bool.and_self, if_true]; rfl
  rw [e, ok_ok]
theorem k_neI {a b : Int} : Ok (neD (.int a) (.int b)) Q ↔ Q (.bl (!decide (a = b))) := by
  have e : neD (.int a) (.int b) = .ok (.bl (!decide (a = b))) := by
    unfold neD; simp only [dok, deq, Bool.and_self, if_true]; rfl
  rw [e, ok_ok]
theorem k_int {a : Int} : Ok (intD (.int a)) Q ↔ Q (.int a) := ok_ok
theorem k_intB {b : Bool} : Ok (intD (.bl b)) Q ↔ Q (.int (if b then 1 else 0)) := ok_ok
theorem k_abs {a : Int} : Ok (absD (.int a)) Q ↔ Q (.int (if a < 0 then -a else a)) := ok_ok
theorem k_lenL {a : List D} : Ok (lenD (.lst a)) Q ↔ Q (.int a.length) := ok_ok
theorem k_lenT {a : List D} : Ok (lenD (.tup a)) Q ↔ Q (.int a.length) := ok_ok
theorem k_lenC {a : List Int} : Ok (lenD (.scr a)) Q ↔ Q (.int a.length) := ok_ok
theorem k_tru {b : Bool} : Ok (truD (.bl b)) QB ↔ QB b := ok_ok
theorem k_tupL {a : List D} : Ok (tupD (.lst a)) Q ↔ Q (.tup a) := ok_ok
theorem k_tupT {a : List D} : Ok (tupD (.tup a)) Q ↔ Q (.tup a) := ok_ok
theorem k_fldD {ci j : Nat} {ds : List D} : Ok (fldD ci j (.obj ci ds)) Q ↔ ∃ d, ds[j]? = some d ∧ Q d := by
  show Ok (if ci = ci then _ else _) Q ↔ _
  rw [if_pos rfl]
  cases h : ds[j]? with
  | none => exact ⟨fun ⟨_, e, _⟩ => (nomatch e), fun ⟨_, e, _⟩ => (nomatch e)⟩
  | some d => exact ⟨fun q => ⟨d, rfl, ok_ok.mp q⟩, fun ⟨_, e, q⟩ => by cases e; exact ok_ok.mpr q⟩
theorem k_items_l {ds : List D} : Ok (itemsD (.lst ds)) QL ↔ QL ds := ok_ok
theorem k_items_t {ds : List D} : Ok (itemsD (.tup ds)) QL ↔ QL ds := ok_ok
theorem k_rng1 {j : Int} : Ok (rng1 [.int j]) QL ↔ (-(2 ^ 62) ≤ j ∧ j < 2 ^ 62) ∧ QL (rngL 0 j.toNat) := by show Ok (if _ then _ else _) QL ↔ _; rw [ok_if, ok_ok]
theorem k_ixL {xs : List D} {i : Int} : Ok (ixD (.lst xs) (.int i)) Q ↔ ∃ d, L2.atI xs i = some d ∧ Q d := by
  show Ok (match L2.atI xs i with | some d => .ok d | none => .fail) Q ↔ _
  cases L2.atI xs i with
  | none => exact ⟨fun ⟨_, e, _⟩ => (nomatch e), fun ⟨_, e, _⟩ => (nomatch e)⟩
  | some d => exact ⟨fun q => ⟨d, rfl, ok_ok.mp q⟩, fun ⟨_, e, q⟩ => by cases e; exact ok_ok.mpr q⟩
theorem k_ixT {xs : List D} {i : Int} : Ok (ixD (.tup xs) (.int i)) Q ↔ ∃ d, L2.atI xs i = some d ∧ Q d := by
  show Ok (match L2.atI xs i with | some d => .ok d | none => .fail) Q ↔ _
  cases L2.atI xs i with
  | none => exact ⟨fun ⟨_, e, _⟩ => (nomatch e), fun ⟨_, e, _⟩ => (nomatch e)⟩
  | some d => exact ⟨fun q => ⟨d, rfl, ok_ok.mp q⟩, fun ⟨_, e, q⟩ => by cases e; exact ok_ok.mpr q⟩
theorem k_ixC {xs : List Int} {i : Int} : Ok (ixD (.scr xs) (.int i)) Q ↔ ∃ d, L2.atI xs i = some d ∧ Q (.int d) := by
  show Ok (match L2.atI xs i with | some d => .ok (.int d) | none => .fail) Q ↔ _
  cases L2.atI xs i with
  | none => exact ⟨fun ⟨_, e, _⟩ => (nomatch e), fun ⟨_, e, _⟩ => (nomatch e)⟩
  | some d => exact ⟨fun q => ⟨d, rfl, ok_ok.mp q⟩, fun ⟨_, e, q⟩ => by cases e; exact ok_ok.mpr q⟩
end
theorem k_no {QS : Fl × Env → Prop} {S : Env} : Ok (sNo S) QS ↔ False := ok_fail
theorem k_guard {QS : Fl × Env → Prop} {S : Env} {t : FT} : Ok (sIf t sNo sNil S) QS ↔ Ok (t S) fun b => b = false ∧ QS (.nx, S) := by
  rw [k_if]
  apply iff_of_eq
  congr 1
  funext b
  cases b <;> simp [k_no, k_nil]
theorem seq_cut {QS : Fl × Env → Prop} {S : Env} {s r : FS} (P : Env → Prop) (h : Ok (s S) fun z => z.1 = .nx ∧ P z.2) (k : ∀ S', P S' → Ok (r S') QS) : Ok (sSeq s r S) QS := by
  rw [k_seq]
  refine h.mono fun z hz => ?_
  obtain ⟨fl, S'⟩ := z
  obtain ⟨rfl, hp⟩ := hz
  exact k S' hp
theorem mul_r {i j : Int} (h1 : -(2 ^ 64) < j) (h2 : j < 2 ^ 64) : CMul i j ∨ CMulX i j := .inl (.inr ⟨h1, h2⟩)
theorem mul_l {i j : Int} (h1 : -(2 ^ 64) < i) (h2 : i < 2 ^ 64) : CMul i j ∨ CMulX i j := .inl (.inl ⟨h1, h2⟩)
theorem div_c {i j : Int} (h1 : 0 < j) (h2 : j < 1073741824) : CDiv i j := ⟨h1, h2⟩
theorem atI_mem {α : Type} {xs : List α} {i : Int} {a : α} (h : L2.atI xs i = some a) : a ∈ xs := by
  unfold L2.atI at h
  cases e : ixN xs.length i with
  | none => rw [e] at h; cases h
  | some n => rw [e] at h; exact List.mem_of_getElem? h
theorem atI_lt {α : Type} {xs : List α} {i : Int} (h0 : 0 ≤ i) (h : i < xs.length) : ∃ a, L2.atI xs i = some a := by
  have hi : i.toNat < xs.length := by omega
  refine ⟨xs[i.toNat], ?_⟩
  unfold L2.atI ixN
  rw [if_pos h0, if_pos h]
  exact List.getElem?_eq_getElem hi
theorem rngL_get {lo : Int} {n i : Nat} {d : D} (h : (rngL lo n)[i]? = some d) : i < n ∧ d = .int (lo + i) := by
  unfold rngL at h
  rw [List.getElem?_map] at h
  by_cases hi : i < n
  · rw [List.getElem?_range hi] at h
    cases h
    exact ⟨hi, rfl⟩
  · rw [List.getElem?_eq_none (by simp; omega)] at h
    cases h
theorem rngL_len {lo : Int} {n : Nat} : (rngL lo n).length = n := by unfold rngL; simp
theorem size_ge : (1048576 : Nat) ≤ sizeLine := by decide
end M
namespace M
open PySem L2
theorem lc_typed {α : Type} {ga : FG} {t : FT} {fe : FE} {S : Env} (f : α → D) (p : α → Bool) (g : α → D) : ∀ (xs : List α), (∀ x ∈ xs, Ok (ga (f x) S) fun S1 => Ok (t S1) fun b => b = p x ∧ (p x = true → Ok (fe S1) fun y => y = g x)) → lcF ga t fe S (xs.map f) = .ok ((xs.filter p).map g)
  | [], _ => rfl
  | x :: xs, h => by
    have ih := lc_typed f p g xs fun y hy => h y (List.mem_cons_of_mem _ hy)
    obtain ⟨S1, e1, b, e2, rfl, k⟩ := h x (List.mem_cons_self ..)
    show ((ga (f x) S).nox >>= fun S1 => (t S1).nox >>= fun b => if b then (fe S1).nox >>= fun y => lcF ga t fe S (xs.map f) >>= fun ys => .ok (y :: ys) else lcF ga t fe S (xs.map f)) = _
    rw [e1, R.nox_ok, R.ok_bind, e2, R.nox_ok, R.ok_bind, ih]
    by_cases hp : p x = true
    · obtain ⟨y, e3, rfl⟩ := k hp
      rw [if_pos hp, e3, R.nox_ok, R.ok_bind, R.ok_bind, List.filter_cons_of_pos hp, List.map_cons]
    · rw [if_neg hp, List.filter_cons_of_neg hp]
theorem k_lc {fi : FI} {ga : FG} {t : FT} {fe : FE} {vs : List Nat} {S : Env} {Q : D → Prop} : Ok (lcE fi ga t fe vs S) Q ↔ Ok (fi S) fun ds => ds.length ≤ sizeLine ∧ Ok (lcF ga t fe (wipeS S vs) ds) fun ys => Q (.lst ys) := by
  unfold lcE; simp only [ok_bind, ok_if, ok_ok]
theorem k_lcT {α : Type} {fi : FI} {ga : FG} {t : FT} {fe : FE} {vs : List Nat} {S : Env} {Q : D → Prop} (f : α → D) (p : α → Bool) (g : α → D) (xs : List α) (hi : Ok (fi S) fun ds => ds = xs.map f) (hl : xs.length ≤ sizeLine)
    (h : ∀ x ∈ xs, Ok (ga (f x) (wipeS S vs)) fun S1 => Ok (t S1) fun b => b = p x ∧ (p x = true → Ok (fe S1) fun y => y = g x)) (q : Q (.lst ((xs.filter p).map g))) : Ok (lcE fi ga t fe vs S) Q := by
  rw [k_lc]
  obtain ⟨ds, e, rfl⟩ := hi
  refine ⟨_, e, by rwa [List.length_map], ?_⟩
  rw [lc_typed f p g xs h, ok_ok]
  exact q
theorem filter_true {α : Type} {p : α → Bool} : ∀ {xs : List α}, (∀ x ∈ xs, p x = true) → xs.filter p = xs
  | [], _ => rfl
  | x :: xs, h => by rw [List.filter_cons_of_pos (h x (List.mem_cons_self ..)), filter_true fun y hy => h y (List.mem_cons_of_mem _ hy)]
theorem k_lcM {α : Type} {fi : FI} {ga : FG} {fe : FE} {vs : List Nat} {S : Env} {Q : D → Prop} (f : α → D) (g : α → D) (xs : List α) (hi : Ok (fi S) fun ds => ds = xs.map f) (hl : xs.length ≤ sizeLine)
    (h : ∀ x ∈ xs, Ok (ga (f x) (wipeS S vs)) fun S1 => Ok (fe S1) fun y => y = g x) (q : Q (.lst (xs.map g))) : Ok (lcE fi ga tY fe vs S) Q := by
  refine k_lcT f (fun _ => true) g xs hi hl (fun x hx => (h x hx).mono fun S1 h1 => ok_ok.mpr ⟨rfl, fun _ => h1⟩) ?_
  rw [filter_true fun _ _ => rfl]
  exact q
theorem asI_mapf {α : Type} (f : α → Int) : ∀ xs : List α, asI (xs.map fun x => .int (f x)) = some (xs.map f)
  | [] => rfl
  | x :: xs => by simp only [List.map_cons, asI, asI_mapf f xs, Option.map_some]
theorem for_typed {α : Type} {ga : FG} {s : FS} {QS : Fl × Env → Prop} (f : α → D) (P : List α → Env → Prop) (xs : List α) (S : Env) (h0 : P [] S)
    (h : ∀ (done : List α) (x : α) (rest : List α) (S : Env), xs = done ++ x :: rest → P done S → Ok (ga (f x) S) fun S1 => Ok (s S1) fun z => match z.1 with
      | .nx => P (done ++ [x]) z.2
      | .ct => P (done ++ [x]) z.2
      | .bk => QS (.nx, z.2)
      | .rt d => QS (.rt d, z.2)) (q : ∀ S, P xs S → QS (.nx, S)) : Ok (forF ga s (xs.map f) S) QS := by
  suffices H : ∀ (rest done : List α) (S : Env), xs = done ++ rest → P done S → Ok (forF ga s (rest.map f) S) QS from H xs [] S rfl h0
  intro rest
  induction rest with
  | nil => intro done S e hp; rw [List.append_nil] at e; subst e; exact ok_ok.mpr (q S hp)
  | cons x rest ih =>
    intro done S e hp
    rw [List.map_cons, k_fcons]
    refine (h done x rest S e hp).mono fun S1 h1 => h1.mono fun z hz => ?_
    obtain ⟨fl, S'⟩ := z
    have e' : xs = (done ++ [x]) ++ rest := by rw [e]; simp
    cases fl with
    | nx => exact ih (done ++ [x]) S' e' hz
    | ct => exact ih (done ++ [x]) S' e' hz
    | bk => exact hz
    | rt d => exact hz
end M
set_option Elab.async false
set_option linter.all false
set_option maxRecDepth 100000
set_option maxHeartbeats 4000000
namespace M
open PySem L2
def isStrD : D → Bool
  | .str _ => true
  | _ => false
def okCD (ds : List D) : Bool := decide (ds.length < 2) || (decide (3 < ds.length) || ds.all isStrD)
mutual
def dB (K : PySem.W.Frag) : D → Value → Bool
  | .non, .none => true
  | .bl b, .bool c => b == c
  | .int i, .int j _ => decide (i = j)
  | .str x, .str y _ => decide (x = y)
  | .tup ds, .ref a => (match K.lookup a with
    | some ⟨.type c, _, .seq its _, _⟩ => decide (c = "tuple") && (decide (its.size ≤ sizeLine) && (okCD ds && dsB K ds its.toList))
    | _ => false)
  | _, _ => false
termination_by structural d => d
def dsB (K : PySem.W.Frag) : List D → List Value → Bool
  | [], [] => true
  | d :: ds, u :: us => dB K d u && dsB K ds us
  | _, _ => false
termination_by structural ds => ds
end
theorem okCD_ok {k : Kn} {G : Hp} {ds : List D} {vs : List V} (r : RDs k G ds vs) (h : okCD ds = true) : okC vs = true := by
  have e : ∀ {ds : List D} {vs : List V}, RDs k G ds vs → ds.all isStrD = true → (vs.all fun x => match x with | .str _ => true | _ => false) = true := by
    intro ds vs r h
    induction ds generalizing vs with
    | nil => cases r; rfl
    | cons d ds ih =>
      cases r with
      | cons a b =>
        rw [List.all_cons, Bool.and_eq_true] at h
        rw [List.all_cons, ih b h.2, Bool.and_true]
        have h1 := h.1
        unfold isStrD at h1
        split at h1
        · cases a; rfl
        · cases h1
  unfold okCD at h
  unfold okC
  rw [← r.length]
  simp only [Bool.or_eq_true, decide_eq_true_eq] at h ⊢
  rcases h with h | h | h
  · exact .inl h
  · exact .inr (.inl h)
  · exact .inr (.inr (e r h))
section
variable {K : PySem.W.Frag} {cl : Nat → Option (Addr × List Str)}
mutual
theorem dB_ok : ∀ {d : D} {u : Value}, dB K d u = true → ∃ v, RelV v u ∧ ∀ G, RD ⟨K, cl⟩ G d v
  | .non, .none, _ => ⟨.non, rfl, fun _ => .non⟩
  | .bl b, .bool c, h => by simp only [dB, beq_iff_eq] at h; subst h; exact ⟨.bl b, rfl, fun _ => .bl _⟩
  | .int i, .int j t, h => by simp only [dB, decide_eq_true_eq] at h; subst h; exact ⟨.int i, ⟨t, rfl⟩, fun _ => .int _⟩
  | .str x, .str y t, h => by simp only [dB, decide_eq_true_eq] at h; subst h; exact ⟨.str x, ⟨t, rfl⟩, fun _ => .str _⟩
  | .tup ds, .ref a, h => by
    simp only [dB] at h
    split at h
    · rename_i c od its n sl e
      simp only [Bool.and_eq_true, decide_eq_true_eq] at h
      obtain ⟨h1, h2, h4, h3⟩ := h
      obtain ⟨vs, r1, r2⟩ := dsB_ok h3
      exact ⟨.ref a, rfl, fun G => .tup (.inr ⟨_, its, n, e, congrArg Value.type h1, rfl, h2, r1, okCD_ok (r2 G) h4⟩) (r2 G)⟩
    · cases h
theorem dsB_ok : ∀ {ds : List D} {us : List Value}, dsB K ds us = true → ∃ vs, Vals vs us ∧ ∀ G, RDs ⟨K, cl⟩ G ds vs
  | [], [], _ => ⟨[], .nil, fun _ => .nil⟩
  | d :: ds, u :: us, h => by
    simp only [dsB, Bool.and_eq_true] at h
    obtain ⟨v, r1, r2⟩ := dB_ok h.1
    obtain ⟨vs, q1, q2⟩ := dsB_ok h.2
    exact ⟨v :: vs, .cons r1 q1, fun G => .cons (r2 G) (q2 G)⟩
end
end
def gB (K : PySem.W.Frag) (q : Str × D) : Bool := match PySem.W.nsIn K mainGlobals q.1 with
  | some (some u) => dB K q.2 u
  | _ => false
theorem gB_ok {K : PySem.W.Frag} {h : Heap} {mg : Str → Option Value} {cl : Nat → Option (Addr × List Str)} {x : Str} {d : D} (X : K.In h) (G : h.Ns mainGlobals mg) (c : gB K (x, d) = true) : Gc mg ⟨K, cl⟩ x d := by
  unfold gB at c
  split at c
  · rename_i u e
    obtain ⟨v, r1, r2⟩ := dB_ok (cl := cl) c
    exact ⟨v, u, PySem.W.mg_of X G e, r1, r2⟩
  · cases c
theorem gcls_ok {K : PySem.W.Frag} {mg : Str → Option Value} {cl : Nat → Option (Addr × List Str)} {x : Str} {ci : Nat} {C : Addr} {nm : List Str} (h : mg x = some (.ref C)) (hc : cl ci = some (C, nm)) : Gc mg ⟨K, cl⟩ x (.cls ci) :=
  ⟨.ref C, .ref C, h, rfl, fun _ => .cls hc⟩
def tyB (K : PySem.W.Frag) (x : Str) : Bool := He.eqO (PySem.W.findIn K (.ref (He.ga K x)) "__class__") (some (some (.builtin "object.__class__"))) && (He.eqO (PySem.W.specialIn K (.builtin "object.__class__") "__get__") (some (some (.builtin "getset_descriptor.__get__"))) &&
  (decide (PySem.W.takesIn K (.builtin "object.__class__") = some true) && decide (PySem.W.mroIn K (He.ga K x) (.type "object") = some true)))
structure Fx where
  fa : List He.Fa
  gs : List (Str × D)
  ts : List Str
def Fx.ok (x : Fx) (K : PySem.W.Frag) : Bool := (x.fa.all fun f => f.ok K) && ((x.gs.all fun g => gB K g) && x.ts.all fun t => tyB K t)
def obsX (x : Fx) (fn : List He.DefD) (K : PySem.W.Frag) : He.AlD := (x.ok K && fn.all fun d => d.ok K, fn.map fun d => He.fnW K d.at_)
def SaysX (x : Fx) (fn : List He.DefD) (K : PySem.W.Frag) : Prop := obsX x fn K = He.valD fn
section
variable {x : Fx} {fn : List He.DefD} {K : PySem.W.Frag}
theorem SaysX.ok (c : SaysX x fn K) : x.ok K = true := (He.ba (show (x.ok K && fn.all fun d => d.ok K) = true from congrArg (fun z : He.AlD => z.1) c)).1
theorem SaysX.fact (c : SaysX x fn K) (i : Nat) {f : He.Fa} (h : x.fa[i]? = some f := by rfl) : f.ok K = true := List.all_eq_true.mp (He.ba c.ok).1 f (List.mem_of_getElem? h)
theorem SaysX.gc (c : SaysX x fn K) (i : Nat) {f : Str × D} (h : x.gs[i]? = some f := by rfl) : gB K f = true := List.all_eq_true.mp (He.ba (He.ba c.ok).2).1 f (List.mem_of_getElem? h)
theorem SaysX.ty (c : SaysX x fn K) (i : Nat) {f : Str} (h : x.ts[i]? = some f := by rfl) : tyB K f = true := List.all_eq_true.mp (He.ba (He.ba c.ok).2).2 f (List.mem_of_getElem? h)
theorem SaysX.def_ (c : SaysX x fn K) (i : Nat) {d : He.DefD} (h : fn[i]? = some d := by rfl) : ∃ fd, FunD K d.name d.qual d.params d.body d.scope (d.dvs K) (d.kws K) (He.fAd K d.at_) fd := by
  have c2 := (He.ba (show (x.ok K && fn.all fun d => d.ok K) = true from congrArg (fun z : He.AlD => z.1) c)).2
  have e : fn.map (fun d => He.fnW K d.at_) = fn.map He.DefD.val := congrArg (fun z : He.AlD => z.2) c
  have e2 : (fn.map fun d => He.fnW K d.at_)[i]? = (fn.map He.DefD.val)[i]? := by rw [e]
  rw [List.getElem?_map, List.getElem?_map, h] at e2
  exact He.DefD.funD (Option.some.inj e2) (List.all_eq_true.mp c2 d (List.mem_of_getElem? h))
end
theorem walk_ofX {l : PySem.W.OpenLaw} {n k : Nat} {q : Program} {loose : List Str} {XP : (Str → Option Value) → Heap → Prop} {YP : World → Heap → Prop} {d : DefRec} {x : Str} {den : List D → R D}
    (hn : l.most = some n) (hn2 : n ≤ sizeLine) (hdf : d.params.defaults = []) (hr : Room k callerA)
    (F : ∀ (w : World) (mg : Str → Option Value) (fa : Addr) (h : Heap), YP w h → h.Ns mainGlobals mg → mg d.name = some (.ref fa) →
      ∃ (K : PySem.W.Frag) (fd : FuncData) (cl : Nat → Option (Addr × List Str)), K.In h ∧ (∀ (s : Shared) (u : Value), BindsTo s fd ⟨[u], []⟩ [(x, u)]) ∧
        ∀ base : Heap, K.In base → base.Ns mainGlobals mg → FnOk l.prog w K mg base CX0 k fa fd [x] (SpF ⟨K, cl⟩ false 1 den))
    (pure_ : ∀ ns : List Int, ns.length ≤ n → (∀ z ∈ ns, Builtin.Int.intBits z ≤ 1048576) → den [.scr ns] = .ok (.bl true)) :
    PySem.W.WalkO q loose XP YP l.row.toRowW d [] (fun f vs => PySem.call f vs) := by
  refine Att.attach_callB hn hdf fun w s₀ s₁ mg mb fa o pm cd doc a vs ns G Y ho hd hcd hmg hobj hints hlen hbits hg => ?_
  obtain ⟨K, fd, cl, KX, hb, hF⟩ := F w mg fa _ Y G.T.g hmg
  refine law_call KX G.T.g G.T.b G.T.builtins G.T.nolimit hg hobj hints (Nat.le_trans hlen hn2) hr hF hb (fun H hO hS => ?_) fun H e s' z => z
  refine ⟨rfl, H, [.scr ns], Ex.refl H, .cons (.scr hS) .nil, ?_⟩
  rw [pure_ ns hlen hbits]
  intro v G' H' s r
  have r : RD ⟨K, cl⟩ G' (.bl true) v := r
  cases r
  rfl
end M
set_option Elab.async false
set_option linter.all false
set_option maxRecDepth 100000
set_option maxHeartbeats 4000000
namespace M
open PySem L2
inductive Wh where
  | glo (x : Str) | met (C m : Str) | pro (C m : Str) | cme (C m : Str)
def innA (K : PySem.W.Frag) (T : String) (p : Addr) : Addr := match PySem.W.recIn K p T with
  | some (.ref g :: _) => g
  | _ => 0
def Wh.ad (K : PySem.W.Frag) : Wh → Addr
  | .glo x => He.ga K x
  | .met C m => He.ma K (He.ga K C) m
  | .pro C m => innA K "property" (He.ma K (He.ga K C) m)
  | .cme C m => He5.wf K (He.ga K C) "classmethod" m
structure Dx where
  w : Wh
  d : He.DefD
def seenF : FuncData → He.FnW := fun z => some (z.name, z.qualname, z.params, z.body, z.scope, z.globals, z.closure, z.builtins)
def Dx.look (K : PySem.W.Frag) (x : Dx) : Option FuncData := (K.lookup (x.w.ad K)).bind fun o => match o.data with
  | .func z => some z
  | _ => none
def Dx.seen (K : PySem.W.Frag) (x : Dx) : He.FnW := (x.look K).bind seenF
def Dx.good (K : PySem.W.Frag) (x : Dx) : Bool := PySem.W.keepIn K (.ref (x.w.ad K)) && ((x.look K).map fun z => PySem.W.codeIn K z.code x.d.qual && (He.dflB K z.defaults (x.d.dvs K) && He.kwdB K z.kwdefaults (x.d.kws K))).getD false
theorem Dx.fund {K : PySem.W.Frag} {x : Dx} (e : x.seen K = x.d.val) (c : x.good K = true) : ∃ z, FunD K x.d.name x.d.qual x.d.params x.d.body x.d.scope (x.d.dvs K) (x.d.kws K) (x.w.ad K) z := by
  obtain ⟨kp, c2⟩ := He.ba c
  cases hl : x.look K with
  | none => rw [hl] at c2; cases c2
  | some z =>
    rw [hl] at c2
    have c3 : (PySem.W.codeIn K z.code x.d.qual && (He.dflB K z.defaults (x.d.dvs K) && He.kwdB K z.kwdefaults (x.d.kws K))) = true := c2
    have e2 : seenF z = x.d.val := by
      unfold Dx.seen at e
      rw [hl] at e
      exact e
    obtain ⟨a1, a2⟩ := He.ba c3
    obtain ⟨a3, a4⟩ := He.ba a2
    have hk : ∃ oc od osl, K.lookup (x.w.ad K) = some ⟨oc, od, .func z, osl⟩ := by
      unfold Dx.look at hl
      cases q : K.lookup (x.w.ad K) with
      | none => rw [q] at hl; cases hl
      | some o =>
        rw [q] at hl
        obtain ⟨oc, od, dt, osl⟩ := o
        cases dt with
        | func y => cases hl; exact ⟨oc, od, osl, rfl⟩
        | _ => cases hl
    obtain ⟨oc, od, osl, hk⟩ := hk
    obtain ⟨y1, y2, y3, y4, y5, y6, y7, y8, y9, y10, y11, y12, y13, y14, y15⟩ := z
    simp only [seenF, He.DefD.val, Option.some.injEq, Prod.mk.injEq] at e2
    obtain ⟨b1, b2, b3, b4, b5, b6, b7, b8⟩ := e2
    subst b1 b2 b3 b4 b5 b6 b7 b8
    exact ⟨_, ⟨oc, od, y8, y9, y10, y11, y12, y13, y14, osl, rfl, hk, a1, He.dflB_ok a3, He.kwdB_ok a4⟩, kp⟩
def proB (K : PySem.W.Frag) (q : Str × Str) : Bool :=
  He.eqO (PySem.W.findIn K (.ref (He.ga K q.1)) q.2) (some (some (.ref (He.ma K (He.ga K q.1) q.2)))) && (He.eqO (PySem.W.specialIn K (.ref (He.ma K (He.ga K q.1) q.2)) "__get__") (some (some (.builtin "property.__get__"))) &&
    (decide (PySem.W.takesIn K (.ref (He.ma K (He.ga K q.1) q.2)) = some true) && (match PySem.W.recIn K (He.ma K (He.ga K q.1) q.2) "property" with | some (.ref _ :: _) => true | _ => false)))
structure Fy where
  fa : List He.Fa
  gs : List (Str × D)
  ts : List Str
  ps : List (Str × Str)
def Fy.ok (x : Fy) (K : PySem.W.Frag) : Bool := (x.fa.all fun f => f.ok K) && ((x.gs.all fun g => gB K g) && ((x.ts.all fun t => tyB K t) && x.ps.all fun p => proB K p))
def obsY (x : Fy) (fn : List Dx) (K : PySem.W.Frag) : He.AlD := (x.ok K && fn.all fun d => d.good K, fn.map fun d => d.seen K)
def valY (fn : List Dx) : He.AlD := (true, fn.map fun d => d.d.val)
def SaysY (x : Fy) (fn : List Dx) (K : PySem.W.Frag) : Prop := obsY x fn K = valY fn
section
variable {x : Fy} {fn : List Dx} {K : PySem.W.Frag}
theorem SaysY.both (c : SaysY x fn K) : (x.ok K && fn.all fun d => d.good K) = true := congrArg Prod.fst c
theorem SaysY.ok (c : SaysY x fn K) : x.ok K = true := (He.ba c.both).1
theorem SaysY.fact (c : SaysY x fn K) (i : Nat) {f : He.Fa} (h : x.fa[i]? = some f := by rfl) : f.ok K = true := List.all_eq_true.mp (He.ba c.ok).1 f (List.mem_of_getElem? h)
theorem SaysY.gc (c : SaysY x fn K) (i : Nat) {f : Str × D} (h : x.gs[i]? = some f := by rfl) : gB K f = true := List.all_eq_true.mp (He.ba (He.ba c.ok).2).1 f (List.mem_of_getElem? h)
theorem SaysY.ty (c : SaysY x fn K) (i : Nat) {f : Str} (h : x.ts[i]? = some f := by rfl) : tyB K f = true := List.all_eq_true.mp (He.ba (He.ba (He.ba c.ok).2).2).1 f (List.mem_of_getElem? h)
theorem SaysY.pro (c : SaysY x fn K) (i : Nat) {f : Str × Str} (h : x.ps[i]? = some f := by rfl) : proB K f = true := List.all_eq_true.mp (He.ba (He.ba (He.ba c.ok).2).2).2 f (List.mem_of_getElem? h)
theorem SaysY.def_ (c : SaysY x fn K) (i : Nat) {d : Dx} (h : fn[i]? = some d := by rfl) : ∃ z, FunD K d.d.name d.d.qual d.d.params d.d.body d.d.scope (d.d.dvs K) (d.d.kws K) (d.w.ad K) z := by
  have e : fn.map (fun d => d.seen K) = fn.map fun d => d.d.val := congrArg Prod.snd c
  have e2 := congrArg (fun l : List He.FnW => l[i]?) e
  simp only [List.getElem?_map, h, Option.map_some, Option.some.injEq] at e2
  exact Dx.fund e2 (List.all_eq_true.mp (He.ba c.both).2 d (List.mem_of_getElem? h))
end
end M
set_option Elab.async false
set_option linter.all false
set_option maxRecDepth 100000
set_option maxHeartbeats 4000000
namespace M
open PySem L2
section
variable {X : Cx} {c : Cf} {kd k1 k2 : Kd} {a b e o : Expr} {f g : FE} {pos apos : Pos} {k : Kn}
end
end M
namespace M
open PySem L2
section
variable {X : Cx} {c : Cf} {k1 k2 : Kd} {a b e : Expr} {f g : FE} {pos p p2 pos2 : Pos} {k : Kn}
instance (a b : Int) : Decidable (RgOk a b) := by unfold RgOk; infer_instance
end
end M
set_option Elab.async false
set_option linter.all false
set_option maxRecDepth 100000
set_option maxHeartbeats 4000000
namespace M
open PySem L2
def tabGet (tab : List (Str × Int)) (z : Str) : Option Int := (tab.find? fun p => p.1 == z).map (·.2)
structure KTab (K : PySem.W.Frag) (w : World) (mg : Str → Option Value) (x : Str) (tab : List (Str × Int)) : Prop where
  ex : ∃ d es n, mg x = some (.ref d) ∧ KDict K w d es n ∧ ∀ z, ∃ r, PySem.W.nsIn K d z = some r ∧ match tabGet tab z with
    | some i => ∃ t, r = some (.int i t)
    | none => r = none
section
variable {X : Cx} {c : Cf} {kd k1 k2 : Kd} {a b e o : Expr} {f g : FE} {pos apos cpos p : Pos} {k : Kn} {x : Str} {tab : List (Str × Int)}
structure PMc (X : Cx) (cs : List MatchCase) (t : Int → TS) : Prop where
  run : ∀ (pins : List (Addr × Obj)) (s : Shared) (σ : St) (H : Hp) (D : Ends) (n : Int) (tk : Tok) (first : Bool), L2.Inv X pins σ H s → t n D σ H → wpAny (model X.prog X.w) X.A (matchCases cs X.env (.int n tk) first) (SP X pins D) X.xe s
theorem PostS.up {fr : Bool} {as bs : List Nat} {G H : Hp} {S : Env} {σ : St} {Dn : Ends} {r : R (Fl × Env)} (h : ∀ i, i ∈ as → i ∈ bs) (p : PostS c fr bs G S σ H Dn r) : PostS c fr as G S σ H Dn r := by
  cases r with
  | ok z =>
    obtain ⟨fl, S'⟩ := z
    cases fl with
    | nx => exact fun G' σ' H' e rel fm => p G' σ' H' e rel (fm.mono h)
    | bk => exact fun G' σ' H' e rel fm => p G' σ' H' e rel (fm.mono h)
    | ct => exact fun G' σ' H' e rel fm => p G' σ' H' e rel (fm.mono h)
    | rt d => exact fun v G2 H2 st rv ow => p v G2 H2 st rv (ow.sub h)
  | exc x => exact p
  | fail => exact p
end
end M
namespace M
open PySem L2
section
variable {X : Cx} {c : Cf} {k1 : Kd} {e : Expr} {f : FE} {pos p tp q1 q2 : Pos} {k : Kn} {x y z : Str}
end
end M
namespace M
open PySem L2
end M
namespace M
open PySem L2
end M
set_option Elab.async false
set_option linter.all false
set_option maxRecDepth 100000
set_option maxHeartbeats 4000000
namespace M
open PySem L2
abbrev TabI := Str × List (Str × Int)
def valI (K : PySem.W.Frag) (t : TabI) : Bool := t.2.all fun q => match PySem.W.nsIn K (He.ga K t.1) q.1 with
  | some (some (.int i _)) => decide (i = q.2)
  | _ => false
abbrev AlZ : Type := He.AlD × List (Option (List (Option (Str × Int))))
def obsZ (x : Fy) (ts : List TabI) (fn : List Dx) (K : PySem.W.Frag) : AlZ := (((x.ok K && ts.all fun t => valI K t) && fn.all fun d => d.good K, fn.map fun d => d.seen K), ts.map fun t => He.dicW K (He.ga K t.1))
def valZ (ts : List TabI) (fn : List Dx) (w : World) : AlZ := ((true, fn.map fun d => d.d.val), ts.map fun t => some (He.keysIn w.params (t.2.map (·.1))))
def SaysZ (x : Fy) (ts : List TabI) (fn : List Dx) (w : World) (K : PySem.W.Frag) : Prop := obsZ x ts fn K = valZ ts fn w
section
variable {x : Fy} {ts : List TabI} {fn : List Dx} {K : PySem.W.Frag} {w : World}
theorem SaysZ.all (c : SaysZ x ts fn w K) : ((x.ok K && ts.all fun t => valI K t) && fn.all fun d => d.good K) = true := congrArg (fun z : AlZ => z.1.1) c
theorem SaysZ.y (c : SaysZ x ts fn w K) : SaysY x fn K := by
  have h1 := He.ba c.all
  have e : fn.map (fun d => d.seen K) = fn.map fun d => d.d.val := congrArg (fun z : AlZ => z.1.2) c
  show (x.ok K && fn.all fun d => d.good K, fn.map fun d => d.seen K) = (true, _)
  rw [e, (He.ba h1.1).1, h1.2]; rfl
theorem SaysZ.tab (c : SaysZ x ts fn w K) (i : Nat) {t : TabI} (h : ts[i]? = some t := by rfl) : He.dicW K (He.ga K t.1) = some (He.keysIn w.params (t.2.map (·.1))) ∧ valI K t = true := by
  have e : ts.map (fun t => He.dicW K (He.ga K t.1)) = ts.map fun t => some (He.keysIn w.params (t.2.map (·.1))) := congrArg (fun z : AlZ => z.2) c
  have e2 := congrArg (fun l : List (Option (List (Option (Str × Int)))) => l[i]?) e
  simp only [List.getElem?_map, h, Option.map_some, Option.some.injEq] at e2
  exact ⟨e2, List.all_eq_true.mp (He.ba (He.ba c.all).1).2 t (List.mem_of_getElem? h)⟩
end
end M
set_option Elab.async false
set_option linter.all false
set_option maxRecDepth 100000
set_option maxHeartbeats 4000000
namespace M
open PySem L2
def keyD : D → Option Key
  | .int i => some (.inl i)
  | .str x => some (.inr x)
  | _ => none
def keysD : List D → Option (List Key)
  | [] => some []
  | d :: ds => match keyD d, keysD ds with
    | some k, some ks => some (k :: ks)
    | _, _ => none
section
variable {k : Kn} {G H : Hp}
theorem keyD_now {d : D} {v : V} {q : Key} (h : keyD d = some q) (n : Now k G H d v) : v = kV q := by
  cases d <;> simp only [keyD] at h <;> first | (cases h; done) | skip
  · cases h; exact n.int
  · cases h; exact n.str
theorem keyD_rd {d : D} {v : V} {q : Key} (h : keyD d = some q) (n : RD k G d v) : v = kV q := keyD_now (H := G) h (.inl n)
theorem keysD_rd : ∀ {ds : List D} {vs : List V} {qs : List Key}, keysD ds = some qs → RDs k G ds vs → vs = qs.map kV
  | _, _, qs, h, .nil => by cases h; rfl
  | d :: ds, _, qs, h, .cons a b => by
    simp only [keysD] at h
    split at h
    · rename_i q qs' h1 h2
      cases h
      rw [keyD_rd h1 a, keysD_rd h2 b]; rfl
    · cases h
def getL {κ : Type} [DecidableEq κ] : List κ → List D → κ → Option D
  | x :: ks, d :: ds, q => if x = q then some d else getL ks ds q
  | _, _, _ => none
def putL {κ : Type} [DecidableEq κ] (ks : List κ) (ds : List D) (q : κ) (d : D) : List κ × List D := match ks.idxOf? q with
  | some i => (ks, ds.set i d)
  | none => (ks ++ [q], ds ++ [d])
theorem getL_val {κ : Type} [DecidableEq κ] {q : κ} : ∀ {ks : List κ} {ds : List D} {vs : List V}, ks.length = ds.length → RDs k G ds vs → (∀ d, getL ks ds q = some d → ∃ v, valV (ks.zip vs) q = some v ∧ RD k G d v) ∧ (getL ks ds q = none → valV (ks.zip vs) q = none)
  | [], _, _, _, _ => ⟨(fun d h => by simp [getL] at h), fun _ => by simp [valV]⟩
  | x :: ks, [], _, h, _ => by simp at h
  | x :: ks, d :: ds, _, h, .cons a b => by
    have ih := getL_val (q := q) (ks := ks) (by simpa using h) b
    simp only [getL, List.zip_cons_cons]
    by_cases e : x = q
    · rw [if_pos e]
      exact ⟨fun d' h' => ⟨_, valV_pos e, by cases h'; exact a⟩, fun h' => by cases h'⟩
    · rw [if_neg e]
      have e2 : ∀ r : List (κ × V), ∀ v, valV ((x, v) :: r) q = valV r q := fun r v => by
        unfold valV; rw [List.find?_cons]; simp [e]
      rw [e2]; exact ih
theorem any_zip {κ : Type} [DecidableEq κ] {q : κ} : ∀ {ks : List κ} {vs : List V}, ks.length = vs.length → ((ks.zip vs).any fun kv => decide (kv.1 = q)) = (ks.idxOf? q).isSome
  | [], _, _ => by simp
  | x :: ks, [], h => by simp at h
  | x :: ks, v :: vs, h => by
    rw [List.zip_cons_cons, List.any_cons, any_zip (by simpa using h), List.idxOf?_cons]
    by_cases e : x = q
    · simp [e]
    · have : (x == q) = false := by simpa using e
      simp [e]
theorem map_zip {κ : Type} [DecidableEq κ] {q : κ} {v : V} : ∀ {ks : List κ} {vs : List V} {i : Nat}, ks.Nodup → ks.length = vs.length → ks.idxOf? q = some i → ((ks.zip vs).map fun kv => if kv.1 = q then (kv.1, v) else kv) = ks.zip (vs.set i v)
  | [], _, _, _, _, h => by simp at h
  | x :: ks, [], _, _, h, _ => by simp at h
  | x :: ks, u :: vs, i, nd, hl, h => by
    rw [List.idxOf?_cons] at h
    obtain ⟨n1, n2⟩ := List.nodup_cons.mp nd
    by_cases e : x = q
    · subst e
      simp at h
      subst h
      rw [List.zip_cons_cons, List.map_cons, if_pos rfl, List.set_cons_zero, List.zip_cons_cons]
      congr 1
      have : ∀ p ∈ ks.zip vs, (if p.1 = x then (p.1, v) else p) = p := fun p hp => by
        rw [if_neg]
        intro e
        exact n1 (by rw [← e]; exact (List.of_mem_zip hp).1)
      rw [List.map_congr_left this, List.map_id']
    · have e' : (x == q) = false := by simpa using e
      rw [e'] at h
      cases h2 : ks.idxOf? q with
      | none => rw [h2] at h; simp at h
      | some j =>
        rw [h2] at h; simp at h; subst h
        rw [List.zip_cons_cons, List.map_cons, if_neg e, List.set_cons_succ, List.zip_cons_cons, map_zip n2 (by simpa using hl) h2]
theorem putL_zip {κ : Type} [DecidableEq κ] {q : κ} {ks : List κ} {ds : List D} {d : D} {vs : List V} {v : V} (nd : ks.Nodup) (hl : ks.length = ds.length) (r : RDs k G ds vs) (rd : RD k G d v) :
    ∃ vs', putK (ks.zip vs) q v = (putL ks ds q d).1.zip vs' ∧ RDs k G (putL ks ds q d).2 vs' ∧ (putL ks ds q d).1.length = (putL ks ds q d).2.length := by
  have hv := r.length
  unfold putK putL
  rw [any_zip (by omega)]
  cases h : ks.idxOf? q with
  | none =>
    refine ⟨vs ++ [v], ?_, r.append (.cons rd .nil), by simp [hl]⟩
    rw [if_neg (by simp)]
    show _ = (ks ++ [q]).zip (vs ++ [v])
    rw [List.zip_append (by omega)]; rfl
  | some i =>
    refine ⟨vs.set i v, ?_, r.set i rd, by simp [hl]⟩
    rw [if_pos (by simp)]
    exact map_zip nd (by omega) h
end
section
variable {X : Cx} {c : Cf} {kd k1 k2 k3 : Kd} {a b e o : Expr} {f g h : FE} {pos apos cpos : Pos} {fr : Bool} {x : Str}
def isDct : D → Bool
  | .dic _ _ => true
  | .dit _ _ => true
  | _ => false
theorem d_dnewK : PE' X c .fr (.Dict [] [] pos) (fun _ => .ok (.dic [] [])) :=
  peI pe_dnewK fun σ H Q ⟨G, S, rel, p⟩ => fun q hq => p _ G _ (Step.new' rel.st.gh hq) ⟨q, _, rfl, rel.st.gh.free hq, hq, upd_same, .dic (vs := []) rfl .nil⟩
theorem d_dnewT : PE' X c .fr (.Dict [] [] pos) (fun _ => .ok (.dit [] [])) :=
  peI pe_dnewT fun σ H Q ⟨G, S, rel, p⟩ => fun q hq => p _ G _ (Step.new' rel.st.gh hq) ⟨q, _, rfl, rel.st.gh.free hq, hq, upd_same, .dit (vs := []) rfl .nil⟩
end
end M
set_option Elab.async false
set_option linter.all false
set_option maxRecDepth 100000
set_option maxHeartbeats 4000000
namespace M
open PySem L2
section
variable {X : Cx} {c : Cf} {kd k1 k2 k3 : Kd} {a b e o : Expr} {f g h : FE} {pos apos cpos : Pos} {fr : Bool} {x : Str}
end
end M
set_option Elab.async false
set_option linter.all false
set_option maxRecDepth 100000
set_option maxHeartbeats 4000000
namespace M
open PySem PySem.Spec PyProof.Rows L2
def MskG (m : Nat) : Prop := m = 7 ∨ m = 31 ∨ m = 127 ∨ m = 511
def orbG (m : Nat) : Nat → Nat → Nat → Nat
  | 0, _, b => b
  | n + 1, x, b => orbG m n ((x * 5 + 1) % (m + 1)) (b ||| 2 ^ x)
theorem orbG_hit (m : Nat) : ∀ (n a b j : Nat), (orbG m n (lcgN m a) b).testBit j = true → b.testBit j = true ∨ ∃ k, k < a + n ∧ lcgN m k = j
  | 0, _, _, _, h => .inl h
  | n + 1, a, b, j, h => by
    rcases orbG_hit m n (a + 1) (b ||| 2 ^ lcgN m a) j h with c | ⟨k, hk, e⟩
    · rw [Nat.testBit_or, Nat.testBit_two_pow, Bool.or_eq_true, decide_eq_true_eq] at c
      exact c.imp id fun e => ⟨a, by omega, e⟩
    · exact .inr ⟨k, by omega, e⟩
theorem MskG.orb {m : Nat} (h : MskG m) : M.orbG m (m + 1) 0 0 = 2 ^ (m + 1) - 1 := by
  rcases h with rfl | rfl | rfl | rfl <;> decide +kernel
theorem MskG.back {m : Nat} (h : MskG m) : lcgN m (m + 1) = 0 := by
  rcases h with rfl | rfl | rfl | rfl <;> decide +kernel
theorem MskG.from0 {m : Nat} (h : MskG m) {j : Nat} (hj : j ≤ m) : ∃ k, k ≤ m ∧ lcgN m k = j := by
  have t : (M.orbG m (m + 1) (lcgN m 0) 0).testBit j = true := by
    show (M.orbG m (m + 1) 0 0).testBit j = true
    rw [h.orb, Nat.testBit_two_pow_sub_one]
    exact decide_eq_true (by omega)
  rcases orbG_hit m (m + 1) 0 0 j t with c | ⟨k, hk, e⟩
  · simp at c
  · exact ⟨k, by omega, e⟩
theorem MskG.again {m : Nat} (h : MskG m) : ∀ k, lcgN m (m + 1 + k) = lcgN m k
  | 0 => h.back
  | k + 1 => congrArg (fun x => (x * 5 + 1) % (m + 1)) (h.again k)
theorem MskG.from {m : Nat} (h : MskG m) {i j : Nat} (hi : i ≤ m) (hj : j ≤ m) : ∃ k, k ≤ m ∧ lcgI m i k = j := by
  obtain ⟨a, a1, rfl⟩ := h.from0 hi
  obtain ⟨b, b1, rfl⟩ := h.from0 hj
  by_cases c : a ≤ b
  · exact ⟨b - a, by omega, by rw [lcgN_add, Nat.add_sub_cancel' c]⟩
  · exact ⟨m + 1 + b - a, by omega, by rw [lcgN_add, show a + (m + 1 + b - a) = m + 1 + b by omega, h.again]⟩
theorem MskG.meets {m : Nat} (h : MskG m) (x : Int) {j : Nat} (hj : j ≤ m) : ∃ n, n ≤ m + 12 ∧ runI m (SetTable.bits x) n = j := by
  obtain ⟨k, hk, e⟩ := h.from (runI_le m (SetTable.bits x) 12) hj
  exact ⟨12 + k, by omega, (runI_tail (bits_lt x) k).trans e⟩
theorem MskG.odd {m : Nat} (h : MskG m) : m % 2 = 1 := by rcases h with rfl | rfl | rfl | rfl <;> rfl
theorem MskG.le {m : Nat} (h : MskG m) : m ≤ 511 := by rcases h with rfl | rfl | rfl | rfl <;> decide
theorem wayG (m : Nat) (x : Int) (k : Nat) : way m x k ≤ m := by
  have b : SetTable.bits x % (m + 1) ≤ m := Nat.le_of_lt_succ (Nat.mod_lt _ (Nat.succ_pos _))
  have r := runEnd_bd b
  have z : (runAt m (SetTable.bits x % (m + 1)) (SetTable.bits x)).j + (runAt m (SetTable.bits x % (m + 1)) (SetTable.bits x)).more ≤ m := by
    show SetTable.bits x % (m + 1) + (SetTable.runEnd m _ - SetTable.bits x % (m + 1)) ≤ m
    omega
  exact Nat.le_trans (Nat.le_add_right _ _) (nth_in k _ z)
theorem MskG.firstOf {m : Nat} (h : MskG m) (x : Int) {p : Nat → Prop} {j : Nat} (hj : j ≤ m) (hp : p j) : ∃ K n, n ≤ m + 12 ∧ K ≤ off m (SetTable.bits x % (m + 1)) (SetTable.bits x) n ∧ p (way m x K) ∧ ∀ k, k < K → ¬ p (way m x k) := by
  obtain ⟨n, hn, e⟩ := h.meets x hj
  have w : way m x (off m (SetTable.bits x % (m + 1)) (SetTable.bits x) n) = j := by
    show (nth m _ (off m _ _ n)).j = j
    rw [nth_off, itL_run]; exact e
  obtain ⟨K, k1, k2, k3⟩ := st_least (p := fun k => p (way m x k)) _ (show p (way m x _) from w ▸ hp)
  exact ⟨K, n, hn, k1, k2, k3⟩
theorem offG_le (m : Nat) : ∀ (n i b : Nat), i ≤ m → off m i b n ≤ 10 * n
  | 0, _, _, _ => Nat.le_refl _
  | n + 1, i, b, hi => by
    have r := runEnd_bd hi
    have := offG_le m n (SetTable.leap m i b).1 (SetTable.leap m i b).2 (leap_le m i b)
    show SetTable.runEnd m i - i + 1 + off m _ _ n ≤ _
    omega
structure TbG (t : SetTable) (hs : List Int) : Prop where
  gm : MskG t.mask
  up : Ris t.place.toList
  nd : t.dummies = #[]
  ln : t.place.toList.length = hs.length
  at_ : ∀ {i : Nat} {x : Int} {j : Nat}, hs[i]? = some x → t.place.toList[i]? = some j → ∃ k, way t.mask x k = j ∧ ∀ c, c < k → way t.mask x c ∈ t.place.toList
variable {t : SetTable} {hs : List Int}
theorem TbG.sz (T : TbG t hs) : t.place.size = hs.length := by rw [← Array.length_toList]; exact T.ln
theorem TbG.end_ (T : TbG t hs) (hl : hs.length ≤ t.mask) (x : Int) : ∃ K, K < 10 * SetTable.turns t.mask ∧ way t.mask x K ∉ t.place.toList ∧ ∀ c, c < K → way t.mask x c ∈ t.place.toList := by
  obtain ⟨j, hj, hn⟩ := st_missing t.place.toList (t.mask + 1) (by rw [T.ln]; omega)
  obtain ⟨K, n, a, b, c, d⟩ := T.gm.firstOf x (p := fun y => y ∉ t.place.toList) (Nat.le_of_lt_succ hj) hn
  have := offG_le t.mask n (SetTable.bits x % (t.mask + 1)) (SetTable.bits x) (Nat.le_of_lt_succ (Nat.mod_lt (SetTable.bits x) (Nat.succ_pos t.mask)))
  exact ⟨K, by unfold SetTable.turns; omega, c, fun k hk => Classical.byContradiction (d k hk)⟩
theorem TbG.met (T : TbG t hs) {x : Int} {K i j : Nat} (hK : way t.mask x K ∉ t.place.toList) (hi : hs[i]? = some x) (hj : t.place.toList[i]? = some j) : ∃ c, c < K ∧ way t.mask x c = j := by
  obtain ⟨k, e, b⟩ := T.at_ hi hj
  refine ⟨k, Classical.byContradiction fun z => ?_, e⟩
  rcases Nat.eq_or_lt_of_le (Nat.le_of_not_lt z) with q | q
  · exact hK (by rw [q, e]; exact List.mem_of_getElem? hj)
  · exact hK (b K q)
theorem TbG.add (T : TbG t hs) {x : Int} {K : Nat} (hK : way t.mask x K ∉ t.place.toList) (hb : ∀ c, c < K → way t.mask x c ∈ t.place.toList) {p : Nat} (ep : p = SetTable.below t.place (way t.mask x K)) :
    p ≤ hs.length ∧ TbG (t.put (way t.mask x K)).1 (hs.take p ++ x :: hs.drop p) ∧ (t.put (way t.mask x K)).1.fill = hs.length + 1 := by
  obtain ⟨le1, _, _⟩ := below_cut T.up (way t.mask x K)
  have pl := put_place t (way t.mask x K)
  have dm := put_dm T.nd (way t.mask x K)
  rw [← ep] at pl le1
  have lp : p ≤ t.place.toList.length := by rw [Array.length_toList]; exact le1
  have lh : p ≤ hs.length := T.ln ▸ lp
  have ris : Ris (t.put (way t.mask x K)).1.place.toList := ris_insert T.up fun e => hK (List.mem_of_getElem? (by rw [Array.getElem?_toList]; exact e))
  have mk : (t.put (way t.mask x K)).1.mask = t.mask := rfl
  generalize (t.put (way t.mask x K)).1 = t1 at pl dm ris mk ⊢
  have ln : t1.place.toList.length = hs.length + 1 := by rw [pl, len_ins _ lp, T.ln]
  refine ⟨lh, ⟨mk ▸ T.gm, ris, dm, by rw [ln, len_ins _ lh], fun {i y j} h1 h2 => ?_⟩, by unfold SetTable.fill; rw [dm, ← Array.length_toList, ln]; rfl⟩
  have inn : ∀ z, z ∈ t.place.toList → z ∈ t1.place.toList := fun z hz => by rw [pl]; exact mem_ins.2 (.inr hz)
  have old : ∀ {i' : Nat}, hs[i']? = some y → t.place.toList[i']? = some j → ∃ k, way t1.mask y k = j ∧ ∀ c, c < k → way t1.mask y c ∈ t1.place.toList := fun a b => by
    obtain ⟨k, e, q⟩ := T.at_ a b
    rw [mk]
    exact ⟨k, e, fun c hc => inn _ (q c hc)⟩
  rw [tins_get hs lh] at h1
  rw [pl, tins_get _ lp] at h2
  split at h1
  · rename_i c; rw [if_pos c] at h2; exact old h1 h2
  · rename_i c
    rw [if_neg c] at h2
    split at h1
    · rename_i d
      rw [if_pos d] at h2
      cases h1; cases h2
      exact ⟨K, by rw [mk], fun c hc => by rw [mk]; exact inn _ (hb c hc)⟩
    · rename_i d; rw [if_neg d] at h2; exact old h1 h2
theorem MskG.seat {m : Nat} (hm : MskG m) {done : List Int} {ow : Array (Option Nat)} (W : Own m done ow) (hl : done.length ≤ m) (x : Int) :
    ∃ j, SetTable.layClean.free m ow (SetTable.turns m) (SetTable.bits x % (m + 1)) (SetTable.bits x) = some j ∧ Own m (done ++ [x]) (ow.setIfInBounds j (some done.length)) := by
  obtain ⟨ps, lps, hps⟩ := W.ps
  obtain ⟨j0, a0, n0⟩ := st_missing ps (m + 1) (by omega)
  have f0 : oAt ow j0 = none := Classical.byContradiction fun z => n0 (hps j0 (Nat.le_of_lt_succ a0) z)
  obtain ⟨K, n, hn, hK, e2, e3⟩ := hm.firstOf x (p := fun j => oAt ow j = none) (Nat.le_of_lt_succ a0) f0
  have fr : SetTable.layClean.free m ow (SetTable.turns m) (SetTable.bits x % (m + 1)) (SetTable.bits x) = some (way m x K) := by
    refine free_spec m ow _ n _ _ K (by unfold SetTable.turns; omega) hK (fun k hk => ?_) (by show (oAt ow (way m x K)).isNone = true; rw [e2]; rfl)
    cases z : oAt ow (way m x k) with
    | none => exact absurd z (e3 k hk)
    | some _ => rfl
  have wl := wayG m x K
  have ws : way m x K < ow.size := by rw [W.sz]; omega
  have here := oAt_set_self (some done.length) ws
  have more : ∀ i, oAt ow i ≠ none → oAt (ow.setIfInBounds (way m x K) (some done.length)) i ≠ none := fun i hi => by
    by_cases c : i = way m x K
    · rw [c, here]; simp
    · rw [oAt_set_ne _ c]; exact hi
  refine ⟨_, fr, ⟨by rw [Array.size_setIfInBounds]; exact W.sz, fun j k hj e => ?_, fun k hk => ?_, way m x K :: ps, by simp [lps], fun j hj e => ?_⟩⟩
  · by_cases c : j = way m x K
    · rw [c, here] at e
      cases e
      exact ⟨x, K, by simp, c.symm, fun k hk => more _ (e3 k hk)⟩
    · rw [oAt_set_ne _ c] at e
      obtain ⟨y, K', a1, a2, a3⟩ := W.at_ j k hj e
      exact ⟨y, K', by rw [List.getElem?_append_left (List.getElem?_eq_some_iff.mp a1).1]; exact a1, a2, fun k hk => more _ (a3 k hk)⟩
  · rw [List.length_append] at hk
    by_cases c : k < done.length
    · obtain ⟨j, hj, e⟩ := W.all k c
      exact ⟨j, hj, by rw [oAt_set_ne _ fun z => by rw [z, e2] at e; cases e]; exact e⟩
    · obtain rfl : k = done.length := by simp at hk; omega
      exact ⟨_, wl, here⟩
  · by_cases c : j = way m x K
    · rw [c]; exact List.mem_cons_self
    · rw [oAt_set_ne _ c] at e; exact List.mem_cons_of_mem _ (hps j hj e)
theorem MskG.seats {m : Nat} (hm : MskG m) : ∀ (rest done : List Int) (ow : Array (Option Nat)), Own m done ow → done.length + rest.length ≤ m →
    ∃ ow', rest.foldl (stepF m) (some (ow, done.length)) = some (ow', (done ++ rest).length) ∧ Own m (done ++ rest) ow'
  | [], done, ow, W, _ => ⟨ow, by simp, by simpa using W⟩
  | x :: rest, done, ow, W, h => by
    simp only [List.length_cons] at h
    obtain ⟨j, e, W1⟩ := hm.seat W (by omega) x
    obtain ⟨o2, f, W2⟩ := hm.seats rest (done ++ [x]) _ W1 (by simp; omega)
    simp only [List.append_assoc, List.singleton_append, List.length_append, List.length_cons, List.length_nil, Nat.zero_add] at f W2
    refine ⟨o2, ?_, W2⟩
    rw [List.foldl_cons, stepF_some e, f, List.length_append, List.length_cons]
theorem MskG.relaid {m wanted : Nat} (hm : MskG m) (hw : SetTable.sizeAbove wanted - 1 = m) (t : SetTable) {ha : Array Int} (hn : ha.size ≤ m) :
    ∃ t' ord, t.relaid ha wanted = some (t', ord) ∧ ord.toList.Perm (List.range ha.size) ∧ TbG t' (ord.toList.map fun i => ha.getD i 0) ∧ t'.mask = m ∧ t'.led = t.led ∧ t'.plain = t.plain := by
  obtain ⟨ow, f, W⟩ := hm.seats ha.toList [] _ (Own.init m) (by simpa using hn)
  rw [List.nil_append] at f W
  have lc : SetTable.layClean m ha = some ow := by rw [layClean_eq]; exact congrArg (Option.map (·.1)) f
  have live : ∀ j k, (j, k) ∈ liveOf m ow ↔ j ≤ m ∧ oAt ow j = some k := fun j k => mem_live W.sz
  have rr := ris_live (fun j => ow.getD j none) (List.range (m + 1)) (by unfold Ris; exact List.pairwise_lt_range)
  have r1 : Ris ((liveOf m ow).map (·.1)) := rr.1
  have nd : ((liveOf m ow).map (·.1)).Nodup := List.Pairwise.imp (fun h => Nat.ne_of_lt h) r1
  have cnt : (liveOf m ow).length = ha.size := by
    obtain ⟨ps, p1, p2⟩ := W.ps
    have le1 := nat_nodup_len ((liveOf m ow).map (·.1)) ps nd fun x hx => by
      obtain ⟨⟨y, k⟩, hq, rfl⟩ := List.mem_map.mp hx
      obtain ⟨b1, b2⟩ := (live y k).1 hq
      exact p2 y b1 (by rw [b2]; simp)
    have le2 := nat_nodup_len (List.range ha.size) ((liveOf m ow).map (·.2)) List.nodup_range fun k hk => by
      obtain ⟨j, b1, b2⟩ := W.all k (by simpa using hk)
      exact List.mem_map.mpr ⟨(j, k), (live j k).2 ⟨b1, b2⟩, rfl⟩
    simp at le1 le2 p1
    omega
  refine ⟨tabOf t m ow, ((liveOf m ow).map (·.2)).toArray, by rw [relaid_eq, hw, lc]; rfl, ?_, ⟨hm, r1, rfl, by simp [tabOf], fun {i x j} h1 h2 => ?_⟩, rfl, rfl, rfl⟩
  · refine perm_range _ _ (by simpa using cnt) fun k hk => ?_
    obtain ⟨j, b1, b2⟩ := W.all k (by simpa using hk)
    exact List.mem_map.mpr ⟨(j, k), (live j k).2 ⟨b1, b2⟩, rfl⟩
  · have h1' : (((liveOf m ow).map (·.2)).map fun i => ha.getD i 0)[i]? = some x := h1
    have h2' : ((liveOf m ow).map (·.1))[i]? = some j := h2
    simp only [List.getElem?_map] at h1' h2'
    cases hq : (liveOf m ow)[i]? with
    | none => simp [hq] at h2'
    | some q =>
      obtain ⟨y, k⟩ := q
      simp only [hq, Option.map_some, Option.some.injEq] at h1' h2'
      subst h2'
      obtain ⟨b1, b2⟩ := (live y k).1 (List.mem_of_getElem? hq)
      obtain ⟨x0, K, a1, a2, a3⟩ := W.at_ y k b1 b2
      have e0 : x0 = x := by
        rw [← h1', Array.getD_eq_getD_getElem?, ← Array.getElem?_toList, a1]; rfl
      subst e0
      refine ⟨K, a2, fun c hc => ?_⟩
      show way m x0 c ∈ (liveOf m ow).map (·.1)
      cases z : oAt ow (way m x0 c) with
      | none => exact absurd z (a3 c hc)
      | some k2 => exact List.mem_map.mpr ⟨(_, k2), (live _ _).2 ⟨wayG m x0 c, z⟩, rfl⟩
section
variable {P : Program} {w : World} {A : Around} {E : Value → Shared → Prop} {s : Shared} {a : Addr} {L : List (Addr × List Int)} {es : Array (Int × Value)} {ep : Nat}
structure StG (P : Program) (w : World) (h : Heap) (a : Addr) (L : List (Addr × List Int)) (es : Array (Int × Value)) (ep : Nat) (t : SetTable) : Prop where
  ob : ∃ o, h.get? a = some o ∧ o.ExactSet ∧ o.data = .set es ep t
  rw_ : es.toList = rowsOf P w L
  tb : TbG t (L.map fun p => thash P w p.2)
  un : (L.map (·.2)).Nodup
  tu : ∀ p ∈ L, IsT P w h p.2 p.1
  pl : t.plain = true
  room : L.length * 5 < t.mask * 3
theorem rowsG_sz (h : es.toList = rowsOf P w L) : es.size = L.length := by rw [← Array.length_toList, h, rowsOf, List.length_map]
theorem rowsG_at (h : es.toList = rowsOf P w L) {i : Nat} {p : Addr × List Int} (e : L[i]? = some p) : es[i]? = some (thash P w p.2, Value.ref p.1) := by
  rw [← Array.getElem?_toList, h, rowsOf, List.getElem?_map, e]; rfl
theorem fitsG {t : SetTable} {n : Nat} (e : t.place.size = n) (d : t.dummies = #[]) (l : n ≤ t.mask) : t.fits n = true := by
  simp [SetTable.fits, SetTable.fill, d, e, l]
theorem StG.fit {t : SetTable} (R : StG P w s.heap a L es ep t) : t.fits es.size = true := by
  have := R.room
  exact fitsG (by rw [R.tb.sz, rowsG_sz R.rw_, List.length_map]) R.tb.nd (by rw [rowsG_sz R.rw_]; omega)
theorem nthG_dm (m : Nat) : ∀ (n : Nat) (p : SetTable.Probe), p.dummy = none → (nth m p n).dummy = none
  | 0, _, h => h
  | n + 1, p, h => nthG_dm m n (adv m p) (by unfold adv; split <;> exact h)
abbrev prG (m : Nat) (x : Int) (c : Nat) : SetTable.Probe := nth m (runAt m (SetTable.bits x % (m + 1)) (SetTable.bits x)) c
theorem prG_add (m : Nat) (x : Int) (c q : Nat) : nth m (prG m x c) q = prG m x (c + q) := (nth_add m c _ q).symm
theorem StG.from {t : SetTable} (R : StG P w s.heap a L es ep t) {x : Addr} {k : List Int} (hx : IsT P w s.heap k x) (hu : A.units < cLine) {N : Nat} (hNf : N < 10 * SetTable.turns t.mask)
    (hN : way t.mask (thash P w k) N ∉ t.place.toList) (hb : ∀ c, c < N → way t.mask (thash P w k) c ∈ t.place.toList) {Q : SetFound → Shared → Prop}
    (hin : k ∈ L.map (·.2) → Q (.there none) s) (hout : k ∉ L.map (·.2) → Q (.free (way t.mask (thash P w k) N) false) s) :
    ∀ (f c : Nat) (st : Option SetTable.Probe), st.getD (t.probeStart (thash P w k)) = prG t.mask (thash P w k) c → c ≤ N → N - c < f →
      (∀ (i : Nat) p c', L[i]? = some p → p.2 = k → c' < c → t.place.toList[i]? ≠ some (way t.mask (thash P w k) c')) →
      wpAny (model P w) A (setSearchFrom a (.ref x) (thash P w k) true f st) Q E s
  | 0, _, _, _, _, hf, _ => absurd hf (Nat.not_lt_zero _)
  | f + 1, c, st, hst, hc, hf, hnp => by
    obtain ⟨o, ho, _, hd⟩ := R.ob
    have lnp : ∀ {i : Nat}, i < L.length ↔ i < t.place.toList.length := by rw [R.tb.ln, List.length_map]; first | done | exact Iff.rfl
    rw [setSearchFrom_succ]
    refine wpAny_bind (wpAny_setState_of ho hd R.fit ?_)
    dsimp only
    refine wp_if_neg (by simp [SetTable.gaveWay, R.tb.gm.odd]) ?_
    try refine wpAny_bind (wpAny_pure ?_)
    have hh : ∀ {i : Nat} {p}, L[i]? = some p → ((es[i]?.map (·.1)).getD 0 : Int) = thash P w p.2 := fun e => by rw [rowsG_at R.rw_ e]; rfl
    have ahead : ∀ {i : Nat} {p}, L[i]? = some p → p.2 = k → ∃ c', c ≤ c' ∧ c' < N ∧ t.place.toList[i]? = some (way t.mask (thash P w k) c') := fun {i p} e ek => by
      have il := lnp.mp (List.getElem?_eq_some_iff.mp e).1
      obtain ⟨c', a1, a2⟩ := R.tb.met hN (i := i) (by rw [List.getElem?_map, e, ← ek]; rfl) (List.getElem?_eq_getElem il)
      have a3 : t.place.toList[i]? = some (way t.mask (thash P w k) c') := by rw [a2]; exact List.getElem?_eq_getElem il
      exact ⟨c', Nat.le_of_not_lt fun z => hnp i p c' e ek z a3, a1, a3⟩
    have spec := go_spec t R.tb.up R.tb.nd (fun i => (es[i]?.map (·.1)).getD 0) (thash P w k) (10 * SetTable.turns t.mask) (N - c) (prG t.mask (thash P w k) c) (nthG_dm _ _ _ rfl) (by omega)
      (fun q hq => by rw [prG_add]; exact hb (c + q) (by omega)) (by rw [prG_add, Nat.add_sub_cancel' hc]; exact hN)
    simp only [prG_add] at spec
    rcases spec with ⟨q, i, hq, hi, hhi, hno, hpr⟩ | ⟨hno, hpr⟩
    · have hp0 : t.probe (fun i => (es[i]?.map (·.1)).getD 0) (thash P w k) (st.getD (t.probeStart (thash P w k))) = some (.candidate (prG t.mask (thash P w k) (c + q)).j i (prG t.mask (thash P w k) (c + (q + 1)))) := by rw [hst]; exact hpr
      rw [hp0]
      dsimp only
      have il : i < L.length := lnp.mpr (List.getElem?_eq_some_iff.mp hi).1
      obtain ⟨p, hp⟩ : ∃ p, L[i]? = some p := ⟨_, List.getElem?_eq_getElem il⟩
      have pm := List.mem_of_getElem? hp
      have go : wpAny (model P w) A (searchRest a (.ref x) (thash P w k) true f es t (prG t.mask (thash P w k) (c + q)).j i (prG t.mask (thash P w k) (c + (q + 1)))) Q E s := by
        unfold searchRest
        rw [rowsG_at R.rw_ hp]
        dsimp only
        refine wpAny_bind (wpAny_holding (wpAny_eqBool_tuple hu (R.tu p pm) hx ?_))
        refine wpAny_bind (wpAny_setState_of ho hd R.fit ?_)
        dsimp only
        by_cases ek : p.2 = k
        · exact wp_if_pos (by simp [ek]) (wpAny_pure (hin (List.mem_map.mpr ⟨p, pm, ek⟩)))
        · refine wp_if_neg (by simp [ek]) ?_
          try refine wpAny_bind (wpAny_pure ?_)
          rw [sameMem]
          dsimp only
          simp only [if_true, slot_live R.tb.up hi, rowsG_at R.rw_ hp]
          refine wpAny_bind (wpAny_isSame_ref_self (wpAny_bind (wpAny_pure ?_)))
          simp only [if_true]
          refine wp_if_neg (by simp [ek]) ?_
          refine R.from hx hu hNf hN hb hin hout f (c + (q + 1)) _ rfl (by omega) (by omega) fun i0 p0 c' h0 k0 hc' h3 => ?_
          rcases Nat.lt_or_ge c' c with z | z
          · exact hnp i0 p0 c' h0 k0 z h3
          · rcases Nat.lt_or_ge c' (c + q) with y | y
            · refine hno (c' - c) i0 (by omega) (by rw [Nat.add_sub_cancel' z]; exact h3) ?_
              exact (hh h0).trans (by rw [k0])
            · obtain rfl : c' = c + q := by omega
              have s1 := slot_live R.tb.up h3
              rw [slot_live R.tb.up hi] at s1
              injection s1 with s1
              rw [← s1, hp] at h0
              exact ek (by rw [Option.some.inj h0]; exact k0)
      by_cases hl : t.led = true
      · refine wp_if_neg (by simp [hl]) ?_
        try refine wpAny_bind (wpAny_pure ?_)
        exact go
      · refine wp_if_pos (by simp [hl]) ?_
        refine wpAny_bind (seen_tup hx (fun y hy => ?_) ?_)
        · obtain ⟨e, he, rfl⟩ := List.mem_map.mp hy
          have he2 : e ∈ es.toList := by simpa using (Array.mem_filter.mp (Array.mem_toList_iff.mp he)).1
          rw [R.rw_] at he2
          obtain ⟨p2, q1, rfl⟩ := List.mem_map.mp he2
          exact ⟨p2.2, p2.1, rfl, R.tu p2 q1⟩
        · refine wp_if_neg (by decide) ?_
          try refine wpAny_bind (wpAny_pure ?_)
          exact go
    · have hp0 : t.probe (fun i => (es[i]?.map (·.1)).getD 0) (thash P w k) (st.getD (t.probeStart (thash P w k))) = some (.empty (prG t.mask (thash P w k) N).j none) := by
        rw [Nat.add_sub_cancel' hc] at hpr
        rw [hst]; exact hpr
      rw [hp0]
      dsimp only
      refine wpAny_pure (hout fun hm => ?_)
      obtain ⟨p0, h0, k0⟩ := List.mem_map.mp hm
      obtain ⟨i0, hi0, rfl⟩ := List.getElem_of_mem h0
      obtain ⟨c', b1, b2, b3⟩ := ahead (List.getElem?_eq_getElem hi0) k0
      exact hno (c' - c) i0 (by omega) (by rw [Nat.add_sub_cancel' b1]; exact b3) ((hh (List.getElem?_eq_getElem hi0)).trans (by rw [k0]))
theorem StG.look {t : SetTable} (R : StG P w s.heap a L es ep t) {x : Addr} {k : List Int} (hx : IsT P w s.heap k x) (hu : A.units < cLine) {Q : SetFound → Shared → Prop} (hin : k ∈ L.map (·.2) → Q (.there none) s)
    (hout : ∀ N, k ∉ L.map (·.2) → way t.mask (thash P w k) N ∉ t.place.toList → (∀ c, c < N → way t.mask (thash P w k) c ∈ t.place.toList) → Q (.free (way t.mask (thash P w k) N) false) s) :
    wpAny (model P w) A (setSearch a (.ref x) (thash P w k) true) Q E s := by
  have := R.room
  have m5 := R.tb.gm.le
  obtain ⟨N, n1, n2, n3⟩ := R.tb.end_ (by rw [List.length_map]; omega) (thash P w k)
  have : N < 100000 := by unfold SetTable.turns at n1; omega
  exact R.from hx hu n1 n2 n3 hin (fun z => hout N z n2 n3) 100000 0 none rfl (Nat.zero_le _) (by omega) fun _ _ _ _ _ z => absurd z (Nat.not_lt_zero _)
theorem StG.relay {t : SetTable} {o : Obj} (ho : s.heap.get? a = some o) (hex : o.ExactSet) (hd : o.data = .set es ep t) (hr : es.toList = rowsOf P w L) (hT : TbG t (L.map fun p => thash P w p.2)) (un : (L.map (·.2)).Nodup) (tu : ∀ p ∈ L, IsT P w s.heap p.2 p.1)
    (hp : t.plain = true) (hl : L.length ≤ t.mask) {wanted m : Nat} (hm : MskG m) (hw : SetTable.sizeAbove wanted - 1 = m) (hn : L.length * 5 < m * 3) {Q : Unit → Shared → Prop}
    (hQ : ∀ h' L' es' ep' t', Heap.SameBut a s.heap h' → StG P w h' a L' es' ep' t' → L'.Perm L → Q () { s with heap := h' }) : wpAny (model P w) A (setRelay a wanted) Q E s := by
  have sz := rowsG_sz hr
  have m5 := hm.le
  obtain ⟨t', ord, e, pm, T', em, _, ep2⟩ := hm.relaid (wanted := wanted) hw t (ha := es.map (·.1)) (by rw [Array.size_map, sz]; omega)
  rw [Array.size_map, sz] at pm
  obtain ⟨L2, r1, r2, r3⟩ := order_rows L es ord hr pm
  rw [← r3] at T'
  have s2 : (ord.filterMap (es[·]?)).size = es.size := by rw [rowsG_sz r1, r2.length_eq, sz]
  rw [setRelay_eq]
  refine wpAny_bind (wpAny_setState_of ho hd (fitsG (by rw [hT.sz, List.length_map, sz]) hT.nd (by rw [sz]; exact hl)) ?_)
  dsimp only
  refine wp_if_neg (by rw [sizeLine_eq]; omega) ?_
  try refine wpAny_bind (wpAny_pure ?_)
  rw [e]
  dsimp only
  refine wpAny_bind ?_
  refine wp_if_neg (by rw [s2]; simp) ?_
  try refine wpAny_bind (wpAny_pure ?_)
  refine wpAny_pure ?_
  dsimp only
  refine wpAny_storeSet_of ho hd ?_ (by rw [s2, sz, sizeLine_eq]; omega)
  have sb : Heap.SameBut a s.heap (s.heap.update a (Obj.putSet (ord.filterMap (es[·]?)) t')) := Heap.SameBut.update ..
  exact hQ _ L2 _ _ t' sb ⟨⟨_, store_at ho hd, ⟨hex.1, hex.2.1, hex.2.2⟩, rfl⟩, r1, T', (r2.map (·.2)).nodup_iff.mpr un, fun p hpm => isT_same (tu p (r2.mem_iff.mp hpm)) ho hd sb, by rw [ep2]; exact hp, by rw [r2.length_eq, em]; exact hn⟩ r2
theorem grow5 : SetTable.sizeAbove (SetTable.grown 5) = 32 := by decide +kernel
theorem grow19 : SetTable.sizeAbove (SetTable.grown 19) = 128 := by decide +kernel
theorem grow77 : SetTable.sizeAbove (SetTable.grown 77) = 512 := by decide +kernel
theorem StG.add {t : SetTable} (R : StG P w s.heap a L es ep t) {x : Addr} {k : List Int} (hx : IsT P w s.heap k x) (hu : A.units < cLine) (hfew : L.length + 1 ≤ 300) {Q : Bool → Shared → Prop}
    (hQ : ∀ b h' L' es' ep' t', Heap.SameBut a s.heap h' → StG P w h' a L' es' ep' t' → (k ∈ L.map (·.2) → L' = L) → (k ∉ L.map (·.2) → L'.Perm ((x, k) :: L)) → Q b { s with heap := h' }) :
    wpAny (model P w) A (setAddHashed a (.ref x) (thash P w k)) Q E s := by
  obtain ⟨o, ho, hex, hd⟩ := R.ob
  have sz := rowsG_sz R.rw_
  have room := R.room
  unfold setAddHashed
  refine wpAny_holding ?_
  rw [show (100000 : Nat) = 99999 + 1 from rfl, setAddHashedIn_succ]
  refine wpAny_bind (wpAny_setState_of ho hd R.fit ?_)
  dsimp only
  refine wp_if_neg (by simp [byScan, Value.scannable]) ?_
  try refine wpAny_bind (wpAny_pure ?_)
  refine wpAny_bind (R.look hx hu (fun hm => ?_) fun N hm hN hb => ?_)
  · dsimp only
    exact wpAny_pure (hQ false s.heap L es ep t (Heap.SameBut.refl a s.heap) R (fun _ => rfl) fun z => absurd hm z)
  · dsimp only
    refine wpAny_bind (wpAny_setState_of ho hd R.fit ?_)
    dsimp only
    obtain ⟨q1, q2, q3⟩ := R.tb.add hN hb rfl
    have e2 : (t.put (way t.mask (thash P w k) N)).2 = SetTable.below t.place (way t.mask (thash P w k) N) := rfl
    have mk : (t.put (way t.mask (thash P w k) N)).1.mask = t.mask := rfl
    have pl : (t.put (way t.mask (thash P w k) N)).1.plain = true := R.pl
    generalize t.put (way t.mask (thash P w k) N) = pt at q2 q3 e2 mk pl ⊢
    obtain ⟨t1, p⟩ := pt
    dsimp only at q2 q3 e2 mk pl ⊢
    rw [← e2] at q1 q2
    first
      | (refine wpAny_bind ?_; refine wp_if_pos pl ?_; refine hashBy_tup hx ?_)
      | refine wp_if_pos pl (wpAny_bind (hashBy_tup hx ?_))
    simp only [if_true]
    have hr1 : (SetTable.insertAt es p (thash P w k, Value.ref x)).toList = rowsOf P w (L.take p ++ (x, k) :: L.drop p) := by rw [SetTable.toList_insertAt, rows_put, R.rw_]
    have hp1 := put_perm L p (x, k)
    have ht1 : TbG t1 ((L.take p ++ (x, k) :: L.drop p).map fun p => thash P w p.2) := by rw [List.map_append, List.map_cons, List.map_take, List.map_drop]; exact q2
    generalize SetTable.insertAt es p (thash P w k, Value.ref x) = es1 at hr1 ⊢
    generalize L.take p ++ (x, k) :: L.drop p = L1 at hr1 hp1 ht1
    have len : L1.length = L.length + 1 := hp1.length_eq
    have un1 : (L1.map (·.2)).Nodup := (hp1.map (·.2)).nodup_iff.mpr (List.nodup_cons.mpr ⟨hm, R.un⟩)
    have sz1 := rowsG_sz hr1
    refine wpAny_bind (wpAny_storeSet_of ho hd ?_ (by rw [sz1, len, sizeLine_eq]; omega))
    have sb : Heap.SameBut a s.heap (s.heap.update a (Obj.putSet es1 t1)) := Heap.SameBut.update ..
    have ho1 := store_at (es' := es1) (t' := t1) ho hd
    generalize s.heap.update a (Obj.putSet es1 t1) = h1 at sb ho1 ⊢
    have tu1 : ∀ p ∈ L1, IsT P w h1 p.2 p.1 := fun p hp => by
      rcases List.mem_cons.mp (hp1.mem_iff.mp hp) with e | hp
      · rw [e]; exact isT_same hx ho hd sb
      · exact isT_same (R.tu p hp) ho hd sb
    have full : t1.tooFull = decide (t.mask * 3 ≤ L1.length * 5) := by
      unfold SetTable.tooFull
      rw [q3, mk, List.length_map, ← len]
    by_cases hf : t.mask * 3 ≤ L1.length * 5
    · have hf' : t1.tooFull = true := full.trans (decide_eq_true hf)
      first
        | (refine wpAny_bind ?_; refine wp_if_pos (by simp [hf']) ?_)
        | (refine wp_if_pos (by simp [hf']) ?_; refine wpAny_bind ?_)
      have go : ∀ m, MskG m → SetTable.sizeAbove (SetTable.grown (es.size + 1)) - 1 = m → L1.length * 5 < m * 3 →
          wpAny (model P w) A (setRelay a (SetTable.grown (es.size + 1))) (fun _ s' => wpAny (model P w) A (pure true) Q E s') E { s with heap := h1 } := fun m a1 a2 a3 =>
        StG.relay (s := { s with heap := h1 }) ho1 ⟨hex.1, hex.2.1, hex.2.2⟩ rfl hr1 ht1 un1 tu1 pl (by rw [mk, len]; have := R.tb.gm.odd; omega) a1 a2 a3 fun h2 L2 es2 ep2 t2 sb2 R2 pm2 =>
          wpAny_pure (hQ true h2 L2 es2 ep2 t2 (sb.trans sb2) R2 (fun z => absurd z hm) fun _ => pm2.trans hp1)
      rw [sz] at go ⊢
      rcases R.tb.gm with e | e | e | e
      · have : L.length = 4 := by omega
        exact go 31 (.inr (.inl rfl)) (by rw [this, grow5]) (by omega)
      · have : L.length = 18 := by omega
        exact go 127 (.inr (.inr (.inl rfl))) (by rw [this, grow19]) (by omega)
      · have : L.length = 76 := by omega
        exact go 511 (.inr (.inr (.inr rfl))) (by rw [this, grow77]) (by omega)
      · omega
    · have hf' : t1.tooFull = false := full.trans (decide_eq_false hf)
      first
        | refine wp_if_neg (by simp [hf']) ?_
        | (refine wpAny_bind ?_; refine wp_if_neg (by simp [hf']) ?_; refine wpAny_pure ?_)
      exact wpAny_pure (hQ true h1 L1 es1 (ep + 1) t1 sb ⟨⟨_, ho1, ⟨hex.1, hex.2.1, hex.2.2⟩, rfl⟩, hr1, ht1, un1, tu1, pl, by rw [mk]; omega⟩ (fun z => absurd z hm) fun _ => hp1)
theorem StG.stay {h h' : Heap} {t : SetTable} (R : StG P w h a L es ep t) (ha : ∀ o, h.get? a = some o → h'.get? a = some o) (ht : ∀ p ∈ L, IsT P w h' p.2 p.1) : StG P w h' a L es ep t := by
  obtain ⟨o, ho, r⟩ := R.ob
  exact ⟨⟨o, ha o ho, r⟩, R.rw_, R.tb, R.un, ht, R.pl, R.room⟩
theorem StG.none {h : Heap} {b : Bool} (ho : h.get? a = some { cls := .type "set", dict := none, data := .set #[] 0 (.fresh 0 0 b) }) : StG P w h a [] #[] 0 (.fresh 0 0 b) :=
  ⟨⟨_, ho, ⟨rfl, rfl, rfl⟩, rfl⟩, rfl, ⟨.inl rfl, List.Pairwise.nil, rfl, rfl, (fun h _ => (by simp at h))⟩, List.nodup_nil, (fun _ h => (by cases h)), rfl, by show 0 * 5 < 7 * 3; decide⟩
theorem loopTB {I : Addr} {fp wr : List Addr} {G : Array GenState → Array GenState → Prop} {n : Nat} {Pv : Nat → Value → Prop} {Sx : Nat → Shared → Prop} {R : Result → Shared → Prop}
    (W : WalksS P w A.in1 I fp wr G n Pv Sx) (S : Addr) (hSf : S ∉ fp) (ks : List (Addr × List Int)) (hn : n = ks.length) (hfew : ks.length ≤ 300) (hval : ∀ i v, Pv i v → ∃ p, ks[i]? = some p ∧ v = .ref p.1)
    (g : Heap) (hk : ∀ p ∈ ks, IsT P w g p.2 p.1) (hS0 : g.get? S = none) (hw0 : ∀ b ∈ wr, g.get? b = none) (hu : A.in1.units < cLine) :
    ∀ (k i : Nat) (s : Shared), n - i = k → i ≤ n → Sx i s → (∀ b o, g.get? b = some o → s.heap.get? b = some o) → (∃ L es ep t, StG P w s.heap S L es ep t ∧ Got ks i L) →
      (∀ z L es ep t, Moved (S :: wr) G s z → StG P w z.heap S L es ep t → Got ks n L → R (.ok (.ret .none)) z) → codeAny (model P w) A (.builtin "set.update.loop" ⟨[.ref S, .ref I], []⟩) R s := by
  have nw : S ∉ wr := fun h => hSf (W.sub _ h)
  have up : ∀ b ∈ wr, b ∈ S :: wr := fun b hb => List.mem_cons_of_mem _ hb
  have keep : ∀ {s z : Shared}, Moved wr G s z → (∀ b o, g.get? b = some o → s.heap.get? b = some o) → ∀ b o, g.get? b = some o → z.heap.get? b = some o := fun m q b o e => m.heap b o (fun hb => by rw [hw0 b hb] at e; cases e) (q b o e)
  intro k
  induction k with
  | zero =>
    intro i s hk' hi hst hkp ⟨L, es, ep, t, hS, gt⟩ hR
    obtain rfl : i = n := by omega
    refine codeAny_builtin F.entry_set_update_loop ?_
    rw [Around.under_plainId F.plain_set_update_loop _]
    refine (wpAny_bind (W.done s _ _ hst fun z hm => ?_) : wpAny _ A.in1 (pyNext (.ref I) >>= _) _ _ s)
    show wpAny _ A.in1 (ret Value.none) _ _ z
    exact wpAny_pure (hR z L es ep t (hm.mono up) (hS.stay (fun o e => hm.heap S o nw e) fun p hp => isT_keep (hk p (List.mem_of_mem_take (gt.sub p hp))) (keep hm hkp)) gt)
  | succ k ih =>
    intro i s hk' hi hst hkp ⟨L, es, ep, t, hS, gt⟩ hR
    have hlt : i < n := by omega
    refine codeAny_builtin F.entry_set_update_loop ?_
    rw [Around.under_plainId F.plain_set_update_loop _]
    refine (wpAny_bind (W.item i s _ _ hlt hst fun v z hP hst' hm => ?_) : wpAny _ A.in1 (pyNext (.ref I) >>= _) _ _ s)
    obtain ⟨p, hp, rfl⟩ := hval i v hP
    have kz := keep hm hkp
    have hS' : StG P w z.heap S L es ep t := hS.stay (fun o e => hm.heap S o nw e) fun q hq => isT_keep (hk q (List.mem_of_mem_take (gt.sub q hq))) kz
    have hx : IsT P w z.heap p.2 p.1 := isT_keep (hk p (List.mem_of_getElem? hp)) kz
    have le := gt.len
    refine (wpAny_bind (wpAny_holding ?_) : wpAny _ A.in1 (holding [Value.ref p.1] (setAdd S (.ref p.1)) >>= _) _ _ z)
    unfold setAdd
    refine wpAny_holding (wpAny_bind (wpAny_pyHash_tuple hu hx ?_))
    refine StG.add (s := { z with toks := z.toks + (p.2.length + 1) }) hS' hx hu (by omega) fun b h' L' es' ep' t' hsb hS2 c1 c2 => ?_
    have g' : Got ks (i + 1) L' := by
      by_cases c : p.2 ∈ L.map (·.2)
      · rw [c1 c]; exact gt.same hp c
      · exact gt.more hp (c2 c)
    refine wpAny_pure ⟨plainId_quiet F.plain_set_update_loop _, ih (i + 1) _ (by omega) hlt (W.frame _ z _ _ hst' (Nat.le_add_right _ _) fun b hb o e => ?_) (fun b o e => ?_) ⟨L', es', ep', t', hS2, g'⟩ fun y L2 es2 ep2 t2 hy h2 g2 => ?_⟩
    · rw [hsb.2 b (fun q : b = S => hSf (by rw [← q]; exact hb))]; exact e
    · rw [hsb.2 b (fun q : b = S => by rw [q, hS0] at e; cases e)]; exact kz b o e
    · refine hR y L2 es2 ep2 t2 (Moved.trans W.gtrans ((hm.mono up).then_heap (Nat.le_add_right _ _) fun b o hb e => ?_) hy) h2 g2
      rw [hsb.2 b (fun q : b = S => hb (by rw [q]; exact List.mem_cons_self))]; exact e
end
end M
set_option Elab.async false
set_option linter.all false
set_option maxRecDepth 100000
set_option maxHeartbeats 4000000
namespace M
open PySem PySem.Spec PyProof.Rows L2
def titer (l : Addr) : Obj := { cls := .type "tuple_iterator", data := .fields #[.ref l, .int 0 0] }
def preSet (s : Shared) (w : World) : Shared := { s with heap := s.heap.push (freshSet w) }
def midSet (s : Shared) (w : World) (l : Addr) : Shared := { s with heap := (s.heap.push (freshSet w)).push (titer l) }
section
variable {P : Program} {w : World} {A : Around} {E : Value → Shared → Prop} {s : Shared}
theorem call_setT {l : Addr} {items : Array Value} {Q : Value → Shared → Prop} {Good : Heap → Prop} (hl : s.heap.IsTuple l items)
    (loop : ∀ R : Result → Shared → Prop, (∀ h' tk, Good h' → (∀ b o, s.heap.get? b = some o → h'.get? b = some o) → R (.ok (.ret .none)) { s with heap := h', toks := tk }) →
      codeAny (model P w) A.in1.in1 (.builtin "set.update.loop" ⟨[.ref s.heap.objs.size, .ref (s.heap.push (freshSet w)).objs.size], []⟩) R (midSet s w l))
    (fin : ∀ h' tk, Good h' → (∀ b o, s.heap.get? b = some o → h'.get? b = some o) → Q (.ref s.heap.objs.size) { s with heap := h', toks := tk }) :
    wpAny (model P w) A (call (.type "set") [.ref l]) Q E s := by
  obtain ⟨cq, tq, m1⟩ := F.called_set.mro
  have m2 := F.called_set.made
  have m3 := F.called_set.sub
  refine wpAny_call (codeAny_of_tree (?_ : wpAny _ _ (callAny (.type "set") _) _ _ _))
  refine wpAny_pure ⟨Code.quiet_builtin _ (by decide +kernel), codeAny_builtin F.entry_type_call ?_⟩
  rw [Around.under_plain (weight_type_call_type "set" [.ref l] []) rfl]
  have m4 := F.called_set.notType
  have m5 := F.called_set.canCreate
  have m6 := F.typeCall_set_1 (.ref l)
  repeat (any_goals (first | assumption | wp_step))
  refine codeAny_mono (code_set_led1 (.ref l) (E := E) (Q₁ := fun ob z => ob = .ref s.heap.objs.size ∧ z = preSet s w) ⟨rfl, rfl⟩) fun r z hr => ?_
  cases r with
  | error e => exact hr
  | ok fl =>
    cases fl with
    | ret ob =>
      obtain ⟨rfl, rfl⟩ := hr
      have g1 : (preSet s w).heap.get? s.heap.objs.size = some (freshSet w) := Heap.get?_push_size _ rfl
      have g2 : Shared.TypeIs (preSet s w) (.ref s.heap.objs.size) "set" := ⟨_, g1, rfl⟩
      have g3 := F.called_set.init.lookup
      have g4 := F.called_set.init.bind (.ref s.heap.objs.size)
      repeat (any_goals (first | assumption | wp_step))
      refine codeAny_mono (codeAny_call_builtin (R := wants (fun r y => r = .none ∧ ∃ h' tk, y = { s with heap := h', toks := tk } ∧ Good h' ∧ ∀ b o, s.heap.get? b = some o → h'.get? b = some o) E) F.called_set.init.plain F.entry_set_init (check_set_init_1 g2 ?_)) fun r2 y hr2 => ?_
      · obtain ⟨ol, e1, e2, nl, e3⟩ := hl
        obtain ⟨o1, o2, o3, o4⟩ := ol
        simp only at e2 e3
        subst e2; subst e3
        have e4 : (preSet s w).heap.get? l = some { cls := .type "tuple", dict := o2, data := .seq items nl, slots := o4 } := Heap.get?_push_of_some _ e1
        have q1 := F.sub_tuple_set
        have q2 := F.sub_tuple_frozenset
        have q3 : (Value.type "tuple" == Value.type "dict") = false := by decide
        have q4 : (preSet s w).heap.IsTuple l items := ⟨_, e4, rfl, nl, rfl⟩
        unfold Builtin.«set.__init__» noKeywords Builtin.Frozenset.updateFrom
        generalize hPI : pyIter = PI
        wp_walk
        subst hPI
        refine wpAny_pyIter_tuple q4 (wpAny_bind (wpAny_runValue ?_))
        refine loop _ fun h' tk hg hk => ?_
        show wpAny _ _ _ _ _ _
        refine wpAny_pure ?_
        show wpAny _ _ (ret Value.none) _ _ _
        exact wpAny_pure ⟨rfl, h', tk, rfl, hg, hk⟩
      · cases r2 with
        | error e => exact hr2
        | ok f2 =>
          cases f2 with
          | ret r =>
            obtain ⟨rfl, h', tk, rfl, hg, hk⟩ := hr2
            repeat (any_goals (first | assumption | wp_step))
            exact fin _ _ hg hk
          | _ => exact hr2.elim
    | _ => exact hr.elim
def SetN (S : Addr) (n : Nat) (h : Heap) : Prop := ∃ o es ep t, h.get? S = some o ∧ o.ExactSet ∧ o.data = .set es ep t ∧ t.fits es.size = true ∧ es.size = n
def nubG {κ : Type} [DecidableEq κ] (ks : List κ) : List κ := ks.foldl (fun acc k => if k ∈ acc then acc else k :: acc) []
theorem nubG_fold {κ : Type} [DecidableEq κ] : ∀ (ks acc : List κ), acc.Nodup → (ks.foldl (fun acc k => if k ∈ acc then acc else k :: acc) acc).Nodup ∧ ∀ x, x ∈ ks.foldl (fun acc k => if k ∈ acc then acc else k :: acc) acc ↔ x ∈ acc ∨ x ∈ ks
  | [], acc, h => ⟨h, fun x => by simp⟩
  | k :: ks, acc, h => by
    rw [List.foldl_cons]
    by_cases hk : k ∈ acc
    · rw [if_pos hk]
      obtain ⟨h1, h2⟩ := nubG_fold ks acc h
      refine ⟨h1, fun x => ?_⟩
      rw [h2, List.mem_cons]
      constructor
      · rintro (a | a)
        · exact .inl a
        · exact .inr (.inr a)
      · rintro (a | a | a)
        · exact .inl a
        · subst a; exact .inl hk
        · exact .inr a
    · rw [if_neg hk]
      obtain ⟨h1, h2⟩ := nubG_fold ks (k :: acc) (List.nodup_cons.mpr ⟨hk, h⟩)
      refine ⟨h1, fun x => ?_⟩
      rw [h2, List.mem_cons, List.mem_cons]
      constructor
      · rintro ((a | a) | a)
        · exact .inr (.inl a)
        · exact .inl a
        · exact .inr (.inr a)
      · rintro (a | a | a)
        · exact .inl (.inr a)
        · exact .inl (.inl a)
        · exact .inr a
theorem nubG_nd {κ : Type} [DecidableEq κ] (ks : List κ) : (nubG ks).Nodup := (nubG_fold ks [] List.nodup_nil).1
theorem nubG_mem {κ : Type} [DecidableEq κ] (ks : List κ) (x : κ) : x ∈ nubG ks ↔ x ∈ ks := by
  have := (nubG_fold ks [] List.nodup_nil).2 x
  unfold nubG
  rw [this]; simp
theorem nd_len_le {κ : Type} [DecidableEq κ] : ∀ {a b : List κ}, a.Nodup → (∀ x ∈ a, x ∈ b) → a.length ≤ b.length
  | [], b, _, _ => by simp
  | x :: a, b, h, hs => by
    obtain ⟨h1, h2⟩ := List.nodup_cons.mp h
    have hx := hs x (by simp)
    have := nd_len_le (a := a) (b := b.erase x) h2 (fun y hy => (List.mem_erase_of_ne (fun e => h1 (by rw [← e]; exact hy))).mpr (hs y (by simp [hy])))
    rw [List.length_erase_of_mem hx] at this
    have hp : 0 < b.length := List.length_pos_of_mem hx
    rw [List.length_cons]; omega
theorem nub_len {κ : Type} [DecidableEq κ] {a ks : List κ} (h : a.Nodup) (hm : ∀ x, x ∈ a ↔ x ∈ ks) : a.length = (nubG ks).length :=
  Nat.le_antisymm (nd_len_le h fun x hx => (nubG_mem ks x).mpr ((hm x).mp hx)) (nd_len_le (nubG_nd ks) fun x hx => (hm x).mpr ((nubG_mem ks x).mp hx))
theorem apart {l : Addr} (hlt : l < s.heap.objs.size) : l ≠ (s.heap.push (freshSet w)).objs.size ∧ s.heap.objs.size ∉ [(s.heap.push (freshSet w)).objs.size, l] := by
  rw [Heap.size_push]
  refine ⟨Nat.ne_of_lt (Nat.lt_succ_of_lt hlt), ?_⟩
  simp only [List.mem_cons, List.not_mem_nil, or_false, not_or]
  exact ⟨Nat.ne_of_lt (Nat.lt_succ_self _), Nat.ne_of_gt hlt⟩
theorem kept_of {G : Array GenState → Array GenState → Prop} {s' : Shared} {l : Addr} (hm : Moved (s.heap.objs.size :: [(s.heap.push (freshSet w)).objs.size]) G (midSet s w l) s') : ∀ b o, s.heap.get? b = some o → s'.heap.get? b = some o := fun b o e => by
  have hb := Heap.lt_size e
  refine hm.heap b o ?_ (Heap.get?_push_of_some _ (Heap.get?_push_of_some _ e))
  rw [Heap.size_push]
  simp only [List.mem_cons, List.not_mem_nil, or_false, not_or]
  exact ⟨Nat.ne_of_lt hb, Nat.ne_of_lt (Nat.lt_succ_of_lt hb)⟩
theorem back_of {s' : Shared} {wr : List Addr} {l : Addr} (hm : Moved wr (fun a b => b = a) (midSet s w l) s') : s' = { s with heap := s'.heap, toks := s'.toks } := by
  obtain ⟨h', g', d', t', o'⟩ := s'
  have h1 : g' = s.gens := hm.gens
  have h2 : d' = s.drawn := hm.drawn
  have h3 : o' = s.os := hm.os
  subst h1; subst h2; subst h3; rfl
theorem call_setTI {l : Addr} {items : Array Value} (ns : List Int) {Q : Value → Shared → Prop} (hh : A.handled = none) (hl : s.heap.IsTuple l items) (hit : IntsAre items.toList ns) (hb : ns.length + 1 < scanBound)
    (fin : ∀ h' tk, SetN s.heap.objs.size (nubG ns).length h' → (∀ b o, s.heap.get? b = some o → h'.get? b = some o) → Q (.ref s.heap.objs.size) { s with heap := h', toks := tk }) : wpAny (model P w) A (call (.type "set") [.ref l]) Q E s := by
  have hlt : l < s.heap.objs.size := by obtain ⟨o, ho, _⟩ := hl; exact Heap.lt_size ho
  obtain ⟨n1, n2⟩ := apart (w := w) hlt
  have hz : items.size = ns.length := by have := IntsAre.length hit; rwa [Array.length_toList] at this
  have g1 : (midSet s w l).heap.get? s.heap.objs.size = some (freshSet w) := Heap.get?_push_of_some _ (Heap.get?_push_size _ rfl)
  refine call_setT (Good := SetN s.heap.objs.size (nubG ns).length) hl (fun R hR => ?_) fin
  refine set_update_ints ((Walks.tuple (by simp [hh]) _ l n1 items).toS) s.heap.objs.size n2 ns hz hb (fun i v hv => ?_) items.size 0 _ (by omega) (Nat.zero_le _) ⟨⟨_, Heap.get?_push_size _ rfl, rfl, rfl⟩, ((hl.push _).push _)⟩ ⟨0, Nat.le_refl 0, setR_new_at g1⟩ fun s' c hm hc hS => ?_
  · have hi : i < ns.length := by rw [← hz]; exact (Array.getElem?_eq_some_iff.mp hv).1
    obtain ⟨t, e⟩ := IntsAre.int_at hit i v (by rw [Array.getElem?_toList]; exact hv)
    refine ⟨ns[i], t, List.getElem?_eq_getElem hi, ?_⟩
    rw [e, List.getD_eq_getElem?_getD, List.getElem?_eq_getElem hi]; rfl
  · rw [back_of hm]
    refine hR _ _ ?_ (kept_of hm)
    obtain ⟨o, es, ep, t, ho, hx, hd, _, hn, hmem, _, hf, hsz, _⟩ := hS
    refine ⟨o, es, ep, t, ho, hx, hd, hf, ?_⟩
    have := nub_len (a := es.toList.map L2.keyOf) (ks := ns) hn (fun x => by rw [← hmem x]; simp)
    rw [← this, List.length_map, Array.length_toList]
theorem call_setTT {l : Addr} {items : Array Value} (ks : List (Addr × List Int)) {Q : Value → Shared → Prop} (hh : A.handled = none) (hl : s.heap.IsTuple l items) (hit : items.toList = ks.map fun p => Value.ref p.1) (hk : ∀ p ∈ ks, IsT P w s.heap p.2 p.1) (hf : ks.length ≤ 300) (hu : A.units + 3 < cLine)
    (fin : ∀ h' tk, SetN s.heap.objs.size (nubG (ks.map (·.2))).length h' → (∀ b o, s.heap.get? b = some o → h'.get? b = some o) → Q (.ref s.heap.objs.size) { s with heap := h', toks := tk }) : wpAny (model P w) A (call (.type "set") [.ref l]) Q E s := by
  have hlt : l < s.heap.objs.size := by obtain ⟨o, ho, _⟩ := hl; exact Heap.lt_size ho
  obtain ⟨n1, n2⟩ := apart (w := w) hlt
  have hz : items.size = ks.length := by have := congrArg List.length hit; rwa [Array.length_toList, List.length_map] at this
  have g1 : (midSet s w l).heap.get? s.heap.objs.size = some (freshSet w) := Heap.get?_push_of_some _ (Heap.get?_push_size _ rfl)
  have free : ∀ b, s.heap.objs.size ≤ b → s.heap.get? b = none := fun b hb => by
    cases q : s.heap.get? b with
    | none => rfl
    | some o => exact absurd (Nat.lt_of_lt_of_le (Heap.lt_size q) hb) (Nat.lt_irrefl _)
  refine call_setT (Good := SetN s.heap.objs.size (nubG (ks.map (·.2))).length) hl (fun R hR => ?_) fin
  refine loopTB ((Walks.tuple (by simp [hh]) _ l n1 items).toS) s.heap.objs.size n2 ks hz hf (fun i v hv => ?_) s.heap hk (free _ (Nat.le_refl _)) (fun b hb => free b (by rw [List.mem_singleton.mp hb, Heap.size_push]; exact Nat.le_succ _)) (by simp only [Around.in1]; first | omega | exact (by omega)) items.size 0 _ (by omega) (Nat.zero_le _) ⟨⟨_, Heap.get?_push_size _ rfl, rfl, rfl⟩, ((hl.push _).push _)⟩ (fun b o e => Heap.get?_push_of_some _ (Heap.get?_push_of_some _ e)) ⟨[], _, _, _, StG.none g1, Got.zero ks⟩ fun s' L es ep t hm hS hg => ?_
  · have q : items.toList[i]? = some v := by rw [Array.getElem?_toList]; exact hv
    rw [hit, List.getElem?_map] at q
    obtain ⟨p, hp, e⟩ := Option.map_eq_some_iff.mp q
    exact ⟨p, hp, e.symm⟩
  · rw [back_of hm]
    refine hR _ _ ?_ (kept_of hm)
    obtain ⟨o, ho, hx, hd⟩ := hS.ob
    refine ⟨o, es, ep, t, ho, hx, hd, hS.fit, ?_⟩
    rw [rowsG_sz hS.rw_]
    have := nub_len (a := L.map (·.2)) (ks := ks.map (·.2)) hS.un (fun x => ?_)
    · rw [← this, List.length_map]
    · constructor
      · intro h
        obtain ⟨p, hp, rfl⟩ := List.mem_map.mp h
        exact List.mem_map.mpr ⟨p, List.mem_of_mem_take (hg.sub p hp), rfl⟩
      · intro h
        obtain ⟨p, hp, rfl⟩ := List.mem_map.mp h
        exact hg.all p (by rw [hz, List.take_length]; exact hp)
theorem nubG_snoc {κ : Type} [DecidableEq κ] (l : List κ) (x : κ) : (nubG (l ++ [x])).length = if x ∈ l then (nubG l).length else (nubG l).length + 1 := by
  have e : nubG (l ++ [x]) = if x ∈ nubG l then nubG l else x :: nubG l := by unfold nubG; rw [List.foldl_append]; rfl
  rw [e]
  by_cases h : x ∈ l
  · rw [if_pos ((nubG_mem l x).mpr h), if_pos h]
  · rw [if_neg (fun q => h ((nubG_mem l x).mp q)), if_neg h]; rfl
theorem loopTx {I : Addr} {fp wr : List Addr} {G : Array GenState → Array GenState → Prop} {n : Nat} {Pv : Nat → Value → Prop} {St : Nat → Shared → Prop} {R : Result → Shared → Prop}
    (W : WalksS P w A.in1 I fp wr G n Pv St) (S : Addr) (hSf : S ∉ fp) (xs : List Str) (hn : n = xs.length) (hb : xs.length + 1 < scanBound) (hval : ∀ i v, Pv i v → ∃ x t, xs[i]? = some x ∧ v = .str x t) :
    ∀ (k i : Nat) (s : Shared), n - i = k → i ≤ n → St i s → s.heap.SetOf (PySem.strKind P w) S (fun q => decide (q ∈ xs.take i)) (nubG (xs.take i)).length →
      (∀ z, Moved (S :: wr) G s z → z.heap.SetOf (PySem.strKind P w) S (fun q => decide (q ∈ xs)) (nubG xs).length → R (.ok (.ret .none)) z) → codeAny (model P w) A (.builtin "set.update.loop" ⟨[.ref S, .ref I], []⟩) R s := by
  have o1 : S ∉ wr := fun h => hSf (W.sub _ h)
  have o2 : ∀ b ∈ wr, b ∈ S :: wr := fun b hb => List.mem_cons_of_mem _ hb
  have stay : ∀ {s s' : Shared} {f : Str → Bool} {c : Nat}, Moved wr G s s' → s.heap.SetOf (PySem.strKind P w) S f c → s'.heap.SetOf (PySem.strKind P w) S f c := fun hm hS => by
    obtain ⟨o, es, ep, t, ho, rest⟩ := hS
    exact ⟨o, es, ep, t, hm.heap S _ o1 ho, rest⟩
  intro k
  induction k with
  | zero =>
    intro i s hk hi hst hS hR
    obtain rfl : i = n := by omega
    refine codeAny_builtin PyProof.Rows.F.entry_set_update_loop ?_
    rw [Around.under_plainId PyProof.Rows.F.plain_set_update_loop _]
    refine (wpAny_bind (W.done s _ _ hst fun z hm => ?_) : wpAny _ A.in1 (pyNext (.ref I) >>= _) _ _ s)
    rw [hn, List.take_length] at hS
    show wpAny _ A.in1 (ret .none) _ _ z
    exact wpAny_pure (hR z (hm.mono o2) (stay hm hS))
  | succ k ih =>
    intro i s hk hi hst hS hR
    have hlt : i < n := by omega
    refine codeAny_builtin PyProof.Rows.F.entry_set_update_loop ?_
    rw [Around.under_plainId PyProof.Rows.F.plain_set_update_loop _]
    refine (wpAny_bind (W.item i s _ _ hlt hst fun v z hP hst' hm => ?_) : wpAny _ A.in1 (pyNext (.ref I) >>= _) _ _ s)
    obtain ⟨x, t, hx, rfl⟩ := hval i v hP
    have hS' := stay hm hS
    have tk : xs.take (i + 1) = xs.take i ++ [x] := by rw [List.take_add_one, hx]; rfl
    have cnt : (nubG (xs.take i)).length ≤ i := by
      have := nd_len_le (nubG_nd (xs.take i)) (fun y hy => (nubG_mem _ y).mp hy)
      rw [List.length_take] at this
      omega
    refine (wpAny_bind (wpAny_holding ?_) : wpAny _ A.in1 (holding [Value.str x t] (setAdd S (.str x t)) >>= _) _ _ z)
    unfold setAdd
    refine wpAny_holding (wpAny_bind ((PySem.strKind P w).pyHash (k := x) (strKind_is _ _ _ _) ?_))
    refine wpAny_setAddHashed_of (knd := PySem.strKind P w) (s := { z with toks := z.toks + 1 }) (strKind_is _ _ _ _) rfl hS' (by omega) fun h' hsb hS2 => ?_
    have hS3 : h'.SetOf (PySem.strKind P w) S (fun q => decide (q ∈ xs.take (i + 1))) (nubG (xs.take (i + 1))).length := by
      refine SetOf_congr hS2 (fun q => ?_) ?_
      · rw [tk]
        simp only [List.mem_append, List.mem_singleton]
        by_cases q1 : q ∈ xs.take i <;> by_cases q2 : q = x <;> simp [q1, q2]
      · rw [tk, nubG_snoc]
        by_cases q1 : x ∈ xs.take i <;> simp [q1]
    refine wpAny_pure ⟨plainId_quiet PyProof.Rows.F.plain_set_update_loop _, ih (i + 1) _ (by omega) hlt (W.frame _ z _ _ hst' (Nat.le_succ _) fun b hb o e => ?_) hS3 fun y hy hq => ?_⟩
    · rw [hsb.2 b (fun q : b = S => hSf (by rw [← q]; exact hb))]; exact e
    · refine hR y (Moved.trans W.gtrans ((hm.mono o2).then_heap (Nat.le_succ _) fun b o hb e => ?_) hy) hq
      rw [hsb.2 b (fun q : b = S => hb (by rw [q]; exact List.mem_cons_self))]; exact e
theorem call_setTS {l : Addr} {items : Array Value} (xs : List Str) {Q : Value → Shared → Prop} (hh : A.handled = none) (hl : s.heap.IsTuple l items) (hit : Vals (xs.map V.str) items.toList) (hb : xs.length + 1 < scanBound)
    (fin : ∀ h' tk, SetN s.heap.objs.size (nubG xs).length h' → (∀ b o, s.heap.get? b = some o → h'.get? b = some o) → Q (.ref s.heap.objs.size) { s with heap := h', toks := tk }) : wpAny (model P w) A (call (.type "set") [.ref l]) Q E s := by
  have hlt : l < s.heap.objs.size := by obtain ⟨o, ho, _⟩ := hl; exact Heap.lt_size ho
  obtain ⟨n1, n2⟩ := apart (w := w) hlt
  have hz : items.size = xs.length := by have := hit.length; rw [List.length_map, Array.length_toList] at this; exact this.symm
  have g1 : (midSet s w l).heap.get? s.heap.objs.size = some (freshSet w) := Heap.get?_push_of_some _ (Heap.get?_push_size _ rfl)
  have at_ : ∀ {xs : List Str} {us : List Value}, Vals (xs.map V.str) us → ∀ (i : Nat) (v : Value), us[i]? = some v → ∃ x t, xs[i]? = some x ∧ v = .str x t := by
    intro xs
    induction xs with
    | nil => intro us h i v hv; cases h; simp at hv
    | cons x xs ih =>
      intro us h i v hv
      cases h with
      | cons r rs =>
        obtain ⟨t, rfl⟩ := r
        cases i with
        | zero => simp at hv; subst hv; exact ⟨x, t, rfl, rfl⟩
        | succ i => exact ih rs i v (by simpa using hv)
  refine call_setT (Good := SetN s.heap.objs.size (nubG xs).length) hl (fun R hR => ?_) fin
  refine loopTx ((Walks.tuple (by simp [hh]) _ l n1 items).toS) s.heap.objs.size n2 xs hz hb (fun i v hv => at_ hit i v (by rw [Array.getElem?_toList]; exact hv)) items.size 0 _ (by omega) (Nat.zero_le _) ⟨⟨_, Heap.get?_push_size _ rfl, rfl, rfl⟩, ((hl.push _).push _)⟩ ⟨freshSet w, #[], 0, _, g1, ⟨rfl, rfl, rfl⟩, rfl, (fun e he => by simp at he), by simp, by decide, rfl, rfl⟩ fun s' hm hS => ?_
  rw [back_of hm]
  refine hR _ _ ?_ (kept_of hm)
  obtain ⟨o, es, ep, t, ho, hx, hd, _, _, _, hf, hsz⟩ := hS
  exact ⟨o, es, ep, t, ho, hx, hd, hf, hsz⟩
end
section
variable {X : Cx} {c : Cf} {k1 : Kd} {e : Expr} {f : FE} {pos p p2 q : Pos} {k : Kn}
def SetLen (K : PySem.W.Frag) (H : Hp) (l : Addr) (n : Nat) : Prop :=
  (∃ ns : List Int, SqT K H l (ns.map V.int) ∧ ns.length ≤ 1000 ∧ n = (nubG ns).length) ∨ (∃ ks : List (Addr × List Int), SqT K H l (ks.map fun p => V.ref p.1) ∧ (∀ p ∈ ks, SqT K H p.1 (p.2.map V.int)) ∧ ks.length ≤ 300 ∧ n = (nubG (ks.map (·.2))).length) ∨
  ∃ xs : List Str, SqT K H l (xs.map V.str) ∧ xs.length ≤ 1000 ∧ n = (nubG xs).length
theorem refs_vals : ∀ {as : List Addr} {us : List Value}, Vals (as.map V.ref) us → us = as.map Value.ref
  | [], _, .nil => rfl
  | a :: as, _, .cons r rs => by rw [refs_vals rs]; cases r; rfl
theorem pe_lenSetG {a : Expr} {ta : TE} (hc : X.calm = true) (hu : X.A.units + 64 < cLine) (hm : X.mg "len" = none) (hm2 : X.mg "set" = none) (ha : PE X a ta) (hg : Gl X "len") (hg2 : Gl X "set") (na : starEach [a] X.env = (false, eval a X.env) :: starEach [] X.env) :
    PE X (.Call (.Name "len" p) [.Call (.Name "set" p2) [a] [] q] [] pos) (fun σ H Q => ta σ H fun x H1 => ∃ l n, x = .ref l ∧ SetLen X.K H1 l n ∧ Q (.int n) H1) := by
  refine ⟨fun pins s σ H Q I h => ?_⟩
  refine Call_ (ld_blt I hg hm PySem.boot_len (PyProof.Rows.callWith_builtin1 (PyProof.Rows.args_cons (Call_ (ld_blt I hg2 hm2 PyProof.Rows.boot_set ?_)) rfl) rfl rfl))
  refine PyProof.Rows.callWith_type1 (PyProof.Rows.args_cons (thn (ha.run pins s σ H _ I h) fun v s1 ⟨x, H1, I1, r1, l, n, ex, hq, q1⟩ => PyProof.Rows.args_nil ?_) na) na rfl
  subst ex
  cases r1
  have fin : ∀ (h' : Heap) (tk : Nat), SetN s1.heap.objs.size n h' → (∀ b o, s1.heap.get? b = some o → h'.get? b = some o) →
      wpAny (model X.prog X.w) X.A (spliced (backTo pos (starEach [] X.env))) (fun vs z => wpAny (model X.prog X.w) X.A (call (.builtin "len") (Value.ref s1.heap.objs.size :: vs)) (EP X pins σ Q) X.xe z) X.xe { s1 with heap := h', toks := tk } := fun h' tk hS hk => by
    refine PyProof.Rows.args_nil ?_
    obtain ⟨o, es, ep, t, ho, hx, hd, hf, hsz⟩ := hS
    have I2 : L2.Inv X pins σ H1 { s1 with heap := h', toks := tk } := I1.kept hk
    have hfit : (es.size : Int) < 2 ^ 63 := by
      have : es.size ≤ 1000 := by
        rw [hsz]
        rcases hq with ⟨ns, _, h1, e1⟩ | ⟨ks, _, _, h1, e1⟩ | ⟨xs, _, h1, e1⟩
        · rw [e1]; exact Nat.le_trans (nd_len_le (nubG_nd ns) fun y hy => (nubG_mem _ y).mp hy) h1
        · rw [e1]; exact Nat.le_trans (nd_len_le (nubG_nd _) fun y hy => (nubG_mem _ y).mp hy) (by rw [List.length_map]; omega)
        · rw [e1]; exact Nat.le_trans (nd_len_le (nubG_nd xs) fun y hy => (nubG_mem _ y).mp hy) h1
      omega
    exact call_len_set ho hx hd hf hfit ⟨.int n, H1, I2.tok _, ⟨_, by rw [hsz]⟩, q1⟩
  have hsb : (1003 : Nat) < scanBound := by decide
  rcases hq with ⟨ns, hT, hl, rfl⟩ | ⟨ks, hT, hk, hl, rfl⟩ | ⟨xs, hT, hl, rfl⟩
  · obtain ⟨its, r, ⟨o, h1, h2, m, h3⟩, _⟩ := I1.tuple hT
    exact call_setTI ns (I1.ok.hd hc) ⟨o, h1, h2, m, h3⟩ (by simpa using r.ints) (by omega) fin
  · obtain ⟨its, r, ⟨o, h1, h2, m, h3⟩, _⟩ := I1.tuple hT
    refine call_setTT ks (I1.ok.hd hc) ⟨o, h1, h2, m, h3⟩ ?_ (fun p hp => I1.isT (hk p hp)) hl (by omega) fin
    have := refs_vals (as := ks.map (·.1)) (by rw [List.map_map]; exact r)
    rw [List.map_map] at this
    exact (by simpa using this : its = ks.map (Value.ref ∘ fun x => x.1))
  · obtain ⟨its, r, ⟨o, h1, h2, m, h3⟩, _⟩ := I1.tuple hT
    exact call_setTS xs (I1.ok.hd hc) ⟨o, h1, h2, m, h3⟩ (by simpa using r) (by omega) fin
def lenSetD : D → R D
  | .tup ds => match asI ds with
    | some ns => if ns.length ≤ 1000 then .ok (.int (nubG ns).length) else .fail
    | none => match asTs ds with
      | some ks => if ks.length ≤ 300 then .ok (.int (nubG ks).length) else .fail
      | none => match asS ds with
        | some xs => if xs.length ≤ 1000 then .ok (.int (nubG xs).length) else .fail
        | none => .fail
  | _ => .fail
theorem asTs_rds {G : Hp} : ∀ {ds : List D} {vs : List V} {ks : List (List Int)}, RDs k G ds vs → asTs ds = some ks → ∃ ps : List (Addr × List Int), vs = ps.map (fun p => V.ref p.1) ∧ ps.map (·.2) = ks ∧ ∀ p ∈ ps, SqU k.K G p.1 (p.2.map V.int)
  | _, _, ks, .nil, h => by cases h; exact ⟨[], rfl, rfl, by simp⟩
  | d :: ds, _, ks, .cons a b, h => by
    simp only [asTs] at h
    split at h
    · rename_i x xs h1 h2
      cases h
      obtain ⟨ad, rfl, hs⟩ := RD.asT a h1
      obtain ⟨ps, rfl, rfl, hp⟩ := asTs_rds b h2
      refine ⟨(ad, x) :: ps, rfl, rfl, fun p hp' => ?_⟩
      rcases List.mem_cons.mp hp' with rfl | hp'
      · exact hs
      · exact hp p hp'
    · cases h
theorem d_lenSet (hk : c.k.K = X.K) (hc : X.calm = true) (hu : X.A.units + 64 < cLine) (hm : X.mg "len" = none) (hm2 : X.mg "set" = none) (he : PE' X c k1 e f) (hg : Gl X "len" := by rfl) (hg2 : Gl X "set" := by rfl) (na : starEach [e] X.env = (false, eval e X.env) :: starEach [] X.env := by rfl) :
    PE' X c .st (.Call (.Name "len" p) [.Call (.Name "set" p2) [e] [] q] [] pos) (e1 lenSetD f) :=
  peI (pe_lenSetG hc hu hm hm2 he hg hg2 na) fun σ H Q z => e1_go (r := fun x H1 Q => ∃ l n, x = .ref l ∧ SetLen X.K H1 l n ∧ Q (.int n) H1) (fun G H x u d ex n hg Q p => by
    cases x with
    | tup ds =>
      obtain ⟨ad, vs, rfl, ha, r⟩ := n.tup
      have ha' : SqT X.K H ad vs := hk ▸ ex.sqT ha.t
      simp only [lenSetD] at hg
      split at hg
      · rename_i ns hn
        split at hg
        · rename_i hl
          cases hg
          have := asI_of r hn; subst this
          exact ⟨ad, _, rfl, .inl ⟨ns, ha', hl, rfl⟩, p _ G H (Step.refl ex) (.int _)⟩
        · cases hg
      · split at hg
        · rename_i ks hn
          split at hg
          · rename_i hl
            cases hg
            obtain ⟨ps, rfl, rfl, hp⟩ := asTs_rds r hn
            rw [List.length_map] at hl
            exact ⟨ad, _, rfl, .inr (.inl ⟨ps, ha', fun q hq => hk ▸ ex.sqT (hp q hq).t, by omega, rfl⟩), p _ G H (Step.refl ex) (.int _)⟩
          · cases hg
        · split at hg
          · rename_i xs hn
            split at hg
            · rename_i hl
              cases hg
              have := asS_of r hn; subst this
              exact ⟨ad, _, rfl, .inr (.inr ⟨xs, ha', hl, rfl⟩), p _ G H (Step.refl ex) (.int _)⟩
            · cases hg
          · cases hg
    | _ => simp [lenSetD] at hg) z
end
end M
set_option Elab.async false
set_option linter.all false
set_option maxRecDepth 100000
set_option maxHeartbeats 4000000
namespace M
open PySem L2
section
instance lawK : LawfulBEq Key where
  eq_of_beq := by
    intro a b h
    cases a with
    | inl x => cases b with
      | inl y => exact congrArg Sum.inl (by simpa using (show (x == y) = true from h))
      | inr y => cases h
    | inr x => cases b with
      | inl y => cases h
      | inr y => exact congrArg Sum.inr (by simpa using (show (x == y) = true from h))
  rfl := by
    intro a
    cases a with
    | inl x => show (x == x) = true; simp
    | inr x => show (x == x) = true; simp
theorem scan_ok {n : Nat} (h : n ≤ 1000) : n + 1 < scanBound := by
  have : (1003 : Nat) < scanBound := by decide
  omega
def kset (P : Program) (w : World) (t : List Key) (a : Addr) : HO := SetK P w a (fun q => decide (q ∈ t)) t.length
def nubK (acc : List Key) (k : Key) : List Key := if k ∈ acc then acc else k :: acc
theorem nubG_eq (ks : List Key) : nubG ks = ks.foldl nubK [] := by
  unfold nubG
  congr
  funext acc k
  unfold nubK
  by_cases h : k ∈ acc
  · rw [if_pos h, if_pos h]
  · rw [if_neg h, if_neg h]
def famK (P : Program) (w : World) (K : PySem.W.Frag) : Fam P w K (List Key) Key where
  ob := fun t a => kset P w t a
  t0 := []
  pre := fun t y k H => y = kV k ∧ t.length + 1 < scanBound
  post := fun t y k t' => t' = if k ∈ t then t else k :: t
  new := fun H h a e => setK_new ⟨freshSet w, #[], 0, _, e, ⟨rfl, rfl, rfl⟩, rfl, (fun e he => by simp at he), by simp, by decide, rfl, rfl⟩
  add := by
    intro X hP hw hK hu pins s σ H S t y k u Q E I hS ry hp hq
    subst hP hw hK
    obtain ⟨rfl, h2⟩ := hp
    have R := setK_get I hS
    refine call_set_add (knd := mixKind X.prog X.w) (kV_is ry) (key_scan ry) R h2 fun h' sb R' => ?_
    refine hq _ _ rfl (I.write (e := S) (by rw [hS]; trivial) (.inl rfl) (fun b u hb hu => (sb.2 b hb).trans hu) (by obtain ⟨o, _, _, _, ho, _⟩ := R'; exact ⟨o, ho⟩) (setK_new (PyProof.Rows.SetOf_congr R' (fun q => ?_) ?_)))
    · by_cases h : k ∈ t
      · rw [if_pos h]
        by_cases q1 : q ∈ t
        · simp [q1]
        · have : q ≠ k := fun e => q1 (by rw [e]; exact h)
          simp [q1, this]
      · rw [if_neg h]
        by_cases q1 : q ∈ t <;> by_cases q2 : q = k <;> simp [q1, q2]
    · by_cases h : k ∈ t <;> simp [h]
theorem call_lenK {X : Cx} : CallR X (.builtin "len") (fun xs H Q => ∃ a L, xs = [V.ref a] ∧ H a = some (kset X.prog X.w L a) ∧ Q (.int L.length) H) := by
  intro pins s σ H xs us Q I r h
  obtain ⟨a, L, rfl, ha, q⟩ := h
  rw [Vals.ref1 r]
  obtain ⟨o, es, ep, t, ho, hx, hd, _, _, hb, hf, hsz⟩ := setK_get I ha
  have hs : (scanBound : Int) < 2 ^ 63 := by decide
  exact call_len_set ho hx hd hf (by omega) ⟨.int L.length, H, I.tok _, ⟨_, by rw [hsz]⟩, q⟩
def lenScK (fi : FI) (ga : FG) (t : FT) (fe : FE) (vs : List Nat) : FE := fun S => fi S >>= fun ds => if ds.length < 900 then lcF ga t fe (wipeS S vs) ds >>= fun ys => (match keysD ys with
  | some ks => .ok (.int (nubG ks).length)
  | none => .fail) else .fail
theorem lenScK_go {X : Cx} {c : Cf} {t : FT} {ki gs vs : List Nat} {fi : FI} {ga : FG} {fe : FE} {σ : L2.St} {H : Hp} {Q : VK} {gi : TG} {tt : TT} {te : TE} (hk : c.k.K = X.K) (hg : ∀ v σ H Q, RdG c.nx gs ga v σ H Q → gi v σ H Q) (ht : ∀ σ H Q, RdT c.nx t σ H Q → tt σ H Q) (he : ∀ σ H Q, RdE c.nx .st fe σ H Q → te σ H Q)
    (hgs : ∀ i, i ∈ gs → i ∈ vs) (q : RdE c .st (lenScK fi ga t fe vs) σ H Q) :
    tScG (famK X.prog X.w X.K) (RdI c ki fi) gi tt te vs σ H fun v H1 => ∃ a L, [v] = [V.ref a] ∧ H1 a = some (kset X.prog X.w L a) ∧ Q (.int L.length) H1 := by
  obtain ⟨G, S, rel, p⟩ := q
  refine ⟨G, S, rel, ?_⟩
  have p : PostE c .st G S σ H Q (fi S >>= fun ds => if ds.length < 900 then lcF ga t fe (wipeS S vs) ds >>= fun ys => (match keysD ys with
    | some ks => .ok (.int (nubG ks).length)
    | none => .fail) else .fail) := p
  cases e0 : fi S with
  | exc x => rw [e0] at p; exact p
  | fail => rw [e0] at p; exact p
  | ok ds =>
    rw [e0, R.ok_bind] at p
    by_cases hz : ds.length < 900
    · rw [if_pos hz] at p
      intro J G1 H1 sp it Dl hD
      have relb := ((rel.grow sp).wipe vs).cw (W := liftX E0)
      refine ⟨fun i m H2 => m = ds.length - i ∧ i ≤ ds.length ∧ ∃ G2 ac, Step G1 H1 G2 H2 ∧ G2 Dl = none ∧ H2 Dl = some (kset X.prog X.w ac Dl) ∧ ac.length ≤ i ∧
          PostE c .st G S σ H Q (lcF ga t fe (wipeS S vs) (ds.drop i) >>= fun ys => (match keysD ys with
            | some ks => .ok (.int (ks.foldl nubK ac).length)
            | none => .fail)),
        ⟨_, rfl, Nat.zero_le _, G1, [], Step.new' sp.gh hD, sp.gh.free hD, upd_same, Nat.zero_le _, by simpa [nubG_eq] using p⟩, ?_⟩
      rintro i m H2 ⟨rfl, hle, G2, ac, sp2, hGD, hHD, hal, p2⟩
      have rel2 : Rel c.nx G2 (wipeS S vs) (L2.wipe σ vs) H2 := relb.grow sp2
      have itm := it G2 H2 sp2.g sp2.gh fun j hj x ow => by
        obtain ⟨_, _, o, _, ho, _⟩ := (rel.grow sp).own ow
        rw [ho, sp2.h _ _ ho]
      have nD : ∀ {G6 H6 : Hp}, Step G2 H2 G6 H6 → G6 Dl = none ∧ H6 Dl = some (kset X.prog X.w ac Dl) := fun {G6 H6} z => by
        refine ⟨?_, z.h _ _ hHD⟩
        cases q : G6 Dl with
        | none => rfl
        | some o =>
          rcases z.gr _ _ q with w | w
          · rw [hGD] at w; cases w
          · rw [hHD] at w; cases w
      by_cases hlt : i < ds.length
      · obtain ⟨d, hd⟩ : ∃ d, ds[i]? = some d := ⟨ds[i], List.getElem?_eq_getElem hlt⟩
        have hdrop : ds.drop i = d :: ds.drop (i + 1) := by
          rw [List.drop_eq_getElem_cons hlt]; congr 1; rw [List.getElem?_eq_getElem hlt] at hd; exact Option.some.inj hd
        rw [hdrop] at p2
        obtain ⟨hgo, hy⟩ := itm.2 i d hd
        refine .inr ⟨hgo, fun H' => ∃ G3 ac, Step G1 H1 G3 H' ∧ G3 Dl = none ∧ H' Dl = some (kset X.prog X.w ac Dl) ∧ ac.length ≤ i + 1 ∧
          PostE c .st G S σ H Q (lcF ga t fe (wipeS S vs) (ds.drop (i + 1)) >>= fun ys => (match keysD ys with
            | some ks => .ok (.int (ks.foldl nubK ac).length)
            | none => .fail)), fun H' ⟨G3, r3⟩ => ⟨_, by omega, rfl, hlt, G3, r3⟩, fun x H3 hx => ?_⟩
        obtain ⟨G3, sp3, hd3⟩ := hy x H3 hx
        refine hg x _ H3 _ ⟨G3, wipeS S vs, d, rel2.grow sp3, hd3, ?_⟩
        unfold lcF at p2
        cases e1 : ga d (wipeS S vs) with
        | exc x => rw [e1] at p2; exact p2.elim
        | fail => rw [e1] at p2; exact p2.elim
        | ok S1 =>
          rw [e1, R.nox_ok, R.ok_bind] at p2
          intro G4 σ4 H4 sp4 rel4 f4
          refine ⟨wipe_eq (by rw [f4.len, wipe_length]) fun j hj => f4.sg j fun z => hj (hgs j z), ht σ4 H4 _ ⟨G4, S1, rel4, ?_⟩⟩
          cases e2 : t S1 with
          | exc x => rw [e2] at p2; exact p2.elim
          | fail => rw [e2] at p2; exact p2.elim
          | ok b =>
            rw [e2, R.nox_ok, R.ok_bind] at p2
            intro G5 H5 sp5
            have spA : Step G2 H2 G5 H5 := (sp3.trans sp4).trans sp5
            cases b with
            | false =>
              rw [if_neg Bool.false_ne_true] at p2 ⊢
              exact ⟨G5, ac, sp2.trans spA, (nD spA).1, (nD spA).2, by omega, p2⟩
            | true =>
              rw [if_pos rfl] at p2 ⊢
              refine he σ4 H5 _ ⟨G5, S1, rel4.grow sp5, ?_⟩
              cases e3 : fe S1 with
              | exc x => rw [e3] at p2; exact p2.elim
              | fail => rw [e3] at p2; exact p2.elim
              | ok y =>
                rw [e3, R.nox_ok, R.ok_bind] at p2
                intro v G6 H6 sp6 hv
                have hv : RD c.k G6 y v := hv
                have spB := spA.trans sp6
                cases e4 : lcF ga t fe (wipeS S vs) (ds.drop (i + 1)) with
                | exc x => exact absurd e4 (lcF_exc _)
                | fail => rw [e4] at p2; exact p2.elim
                | ok ys =>
                  rw [e4] at p2
                  have p2 : PostE c .st G S σ H Q (match keysD (y :: ys) with
                    | some ks => .ok (.int (ks.foldl nubK ac).length)
                    | none => .fail) := p2
                  simp only [keysD] at p2
                  cases ek : keyD y with
                  | none => rw [ek] at p2; exact p2.elim
                  | some kk =>
                    cases es : keysD ys with
                    | none => rw [ek, es] at p2; exact p2.elim
                    | some ks =>
                      rw [ek, es] at p2
                      obtain rfl := keyD_rd ek hv
                      refine ⟨ac, kk, (nD spB).2, ⟨rfl, scan_ok (by omega)⟩, ?_⟩
                      rintro L' rfl
                      have spC : ∀ L' : List Key, Step G1 H1 G6 (upd H6 Dl (kset X.prog X.w L' Dl)) := fun L' => by
                        have z := sp2.trans spB
                        exact ⟨z.g, z.h.upd hD, z.gh.upd (nD spB).1, z.gr⟩
                      by_cases hm : kk ∈ ac
                      · rw [if_pos hm]
                        refine ⟨G6, ac, spC ac, (nD spB).1, upd_same, by omega, ?_⟩
                        rw [R.ok_bind, es]
                        simpa only [List.foldl_cons, nubK, if_pos hm] using p2
                      · rw [if_neg hm]
                        refine ⟨G6, kk :: ac, spC _, (nD spB).1, upd_same, by simp only [List.length_cons]; omega, ?_⟩
                        rw [R.ok_bind, es]
                        simpa only [List.foldl_cons, nubK, if_neg hm] using p2
      · have hi : i = ds.length := by omega
        subst hi
        rw [List.drop_length] at p2
        refine .inl ⟨itm.1 _ (Nat.le_refl _), Dl, ac, rfl, hHD, ?_⟩
        have p2 : PostE c .st G S σ H Q (.ok (.int ac.length)) := p2
        exact p2 _ G2 H2 (sp.trans sp2) (.int _)
    · rw [if_neg hz] at p; exact p.elim
theorem d_lenScK {X : Cx} {c : Cf} {t : FT} {tg elt iter : Expr} {ifs : List Expr} {scope : Scope} {p1 p2 pos : Pos} {x : Str} (own : List (Str × Nat)) {ki gs : List Nat} {fi : FI} {ga : FG} {fe : FE} (hk : c.k.K = X.K) (hu : X.A.units + 64 < cLine) (hm : X.mg x = none) (hc : X.calm = true) (hN : X.N.Nodup) (hi : PI' X c ki tg iter fi) (ok : BlkOk X.N X.env.scope scope own)
    (hg : ∀ (s : Shared) (H : Hp) (C : Addr) (cl : List (Str × Addr)) (fp : List Addr), PG' (X.blk s H scope (compEnvC scope cl C X.env) fp) c.nx gs tg ga) (ht : ∀ (s : Shared) (H : Hp) (C : Addr) (cl : List (Str × Addr)) (fp : List Addr), PTs' (X.blk s H scope (compEnvC scope cl C X.env) fp) c.nx ifs t)
    (he : ∀ (s : Shared) (H : Hp) (C : Addr) (cl : List (Str × Addr)) (fp : List Addr), PE' (X.blk s H scope (compEnvC scope cl C X.env) fp) c.nx .st elt fe) (hgs : ∀ i, i ∈ gs → i ∈ own.map (·.2) := by decide) (hs : ∀ x, foldedSetIterable iter X.env x = pure x := by intro _; rfl)
    (hv : bootBuiltins x = some (.builtin "len") := by decide +kernel) (hgl : Gl X x := by rfl) (hn : x ≠ "__name__" := by decide) (hdb : (x == ("__debug__" : Str)) = false := by decide) :
    PE' X c .st (.Call (.Name x p1) [.SetComp elt [⟨tg, iter, ifs, 0⟩] scope p2] [] pos) (lenScK fi ga t fe (own.map (·.2))) :=
  peI (pe_callB call_lenK hgl hm hv (pa_cons (pe_scG (famK X.prog X.w X.K) hu hc hN hi ok hg ht he hs) pa_nil rfl) hn hdb rfl rfl) fun σ H Q q => lenScK_go hk (fun _ _ _ _ z => z) (fun _ _ _ z => z) (fun _ _ _ z => z) hgs q
end
end M
set_option Elab.async false
set_option linter.all false
set_option maxRecDepth 100000
set_option maxHeartbeats 4000000
namespace M
open PySem L2 PySem.W PyProof.Rows
section
variable {prog : Program} {w : World} {A : Around} {E : Value → Shared → Prop} {s : Shared} {a kS : Addr} {b : Bool} {vs : List Value} {e1 : Nat} {P : PySem.Fin → Shared → Prop}
end
section
variable {X : Cx} {k : Nat} {f : Addr} {fd : FuncData} {ps : List Str} {sp : Sp}
end
end M
set_option Elab.async false
set_option linter.all false
set_option maxRecDepth 100000
set_option maxHeartbeats 4000000
namespace M
open PySem L2
section
variable {X : Cx} {k : Kn} {c : Cf} {e : Expr} {pos : Pos} {den : List D → R D}
end
end M
set_option Elab.async false
set_option linter.all false
set_option maxRecDepth 100000
set_option maxHeartbeats 4000000
namespace M
open PySem L2 PySem.W PySem.Calls PyProof.Rows
section
variable {prog : Program} {w : World} {A : Around} {E : Value → Shared → Prop} {s : Shared}
theorem collect_tup {l : Addr} {vs : List Value} {Q : List Value → Shared → Prop} (hl : IsTup s.heap l vs.toArray)
    (h : Q vs { s with heap := (s.heap.push (seqObj "list" #[] 0)).update s.heap.objs.size (Obj.mapSeq (· ++ vs.toArray)) }) (hsz : vs.length ≤ sizeLine) :
    wpAny (model prog w) A (collect (.ref l)) Q E s := by
  obtain ⟨o, ho, hc, n, hd⟩ := id hl
  unfold collect
  refine wpAny_bind (wpAny_runValue (codeAny_builtin entry_proto_collect' ?_))
  show wpAny _ _ (do again (.builtin "list.__iadd__" ⟨[← newList [], .ref l], []⟩)) _ _ s
  refine wpAny_bind (wpAny_newList (wpAny_pure ⟨Code.quiet_builtin _ (by decide +kernel), codeAny_builtin entry_list_iadd' ?_⟩))
  show wpAny _ _ (Builtin.List.listExtendWith (.ref s.heap.objs.size) (.ref l) (.ref s.heap.objs.size)) _ _ { s with heap := s.heap.push (seqObj "list" #[] 0) }
  unfold Builtin.List.listExtendWith
  have ho' : (s.heap.push (seqObj "list" #[] 0)).get? l = some o := Heap.get?_push_of_some _ ho
  refine wpAny_bind (wpAny_typeOf (T := "tuple") ⟨o, ho', hc⟩ ?_)
  have ht : (Value.type "tuple" == Value.type "tuple") = true := by rfl
  rw [if_pos (by rw [ht]; simp)]
  refine wpAny_bind (listItems_at ho' hd ?_)
  refine wpAny_bind (listItems_at (xs := #[]) (n := 0) (Heap.get?_push_size _ rfl) rfl ?_)
  rw [if_neg (by simp)]
  refine wpAny_bind (listUpdate_at (xs := #[]) (n := 0) (Heap.get?_push_size _ rfl) rfl ?_ (Nat.zero_le _) (by show (#[] ++ vs.toArray).size ≤ sizeLine + 1; simp only [Array.size_append, List.size_toArray, List.length_nil]; omega))
  refine wpAny_pure ?_
  show wpAny (model prog w) A (do
      let o ← load s.heap.objs.size
      match o.data with
      | .seq xs _ => pure xs.toList
      | _ => unsupported "internal:collect") Q E { s with heap := (s.heap.push (seqObj "list" #[] 0)).update s.heap.objs.size (Obj.mapSeq (· ++ vs.toArray)) }
  refine wpAny_bind (wpAny_load (get?_update_seq (Heap.get?_push_size _ rfl) _) ?_)
  show wpAny _ _ (pure ((#[] : Array Value) ++ vs.toArray).toList) Q E _
  rw [show ((#[] : Array Value) ++ vs.toArray).toList = vs by simp]
  exact wpAny_pure h
theorem sortedT_of_sort {l : Addr} {vs : List Value} {kw : List (Str × Value)} {Q : Value → Shared → Prop} (hl : IsTup s.heap l vs.toArray) (hL : vs.length ≤ sizeLine) (ha1 : argsOk "sorted" ⟨[.ref l], kw⟩) (ha2 : ∀ x, argsOk "list.sort" ⟨[.ref x], kw⟩)
    (body : ∀ E' : Value → Shared → Prop, wpAny (model prog w) A.in1.in1 (Builtin.«list.sort» ⟨[.ref (s.heap.objs.size + 1)], kw⟩) (fun f s' => f = .done (.ret .none) ∧ Q (.ref (s.heap.objs.size + 1)) s') E' { s with heap := copyHeap s.heap vs }) :
    wpAny (model prog w) A (call (.builtin "sorted") [.ref l] kw) Q E s := by
  refine call_function_entry_kw kind_sorted plain_sorted entry_sorted ha1 ?_
  unfold Builtin.«sorted»
  refine wpAny_bind (m := checkCount "sorted" 1 1 _) (wpAny_pure ?_)
  refine wpAny_bind (collect_tup hl ?_ hL)
  refine wpAny_bind (wpAny_newList ?_ hL)
  have hsz : ((s.heap.push (seqObj "list" #[] 0)).update s.heap.objs.size (Obj.mapSeq (· ++ vs.toArray))).objs.size = s.heap.objs.size + 1 := by
    rw [Heap.size_update, size_push']
  show wpAny _ _ _ _ _ { s with heap := copyHeap s.heap vs }
  rw [hsz]
  refine wpAny_bind (wpAny_holding (wpAny_call_entry_kw slot_list_sort ⟨_, copyHeap_at s.heap vs, rfl⟩ entry_list_sort ?body (ha2 _)))
  case body =>
    show wpAny (model prog w) A.in1.in1 (Builtin.«list.sort» ⟨[.ref (s.heap.objs.size + 1)], kw⟩) _ _ _
    refine wpAny_mono (body _) (fun f s' hf => ?_) fun _ _ e => e
    obtain ⟨rfl, hq⟩ := hf
    exact ⟨_, rfl, wpAny_pure ⟨_, rfl, hq⟩⟩
variable {κ : KeyKind}
theorem sortedT_vals {l : Addr} {vs : List Value} {Q : Value → Shared → Prop} (hl : IsTup s.heap l vs.toArray) (S : SortsAt prog w A.in1.in1 { s with heap := sortingHeap (copyHeap s.heap vs) (s.heap.objs.size + 1) vs } κ vs) (hL : vs.length ≤ sizeLine)
    (h : Q (.ref (s.heap.objs.size + 1)) { s with heap := sortedAll s.heap vs (sortVals κ false vs vs).toArray }) : wpAny (model prog w) A (call (.builtin "sorted") [.ref l]) Q E s :=
  sortedT_of_sort hl hL (args_sorted1 _) (fun _ => args_list_sort _) fun _ => list_sort_vals (s := { s with heap := copyHeap s.heap vs }) (copyHeap_at s.heap vs) S hL ⟨rfl, h⟩
variable {β : Type} {R : Value → β → Prop} {vs : List Value} {bs : List β} {enc : β → PyData}
theorem sortedT_data {l : Addr} {Q : Value → Shared → Prop} (hl : IsTup s.heap l vs.toArray) (e : EachIs R vs bs) (er : EachIs (fun v b => ∃ as, Reads s.heap v (enc b) as) vs bs) (hal : AllAlike (bs.map enc)) (hk : Sortable (bs.map enc)) (hL : bs.length ≤ sizeLine)
    (hu : ∀ b, b ∈ bs → A.units + 2 + (enc b).depth < cLine) (h : ∀ out, out.length = bs.length → EachIs R out (bs.mergeSort (dataLe false enc)) → Q (.ref (s.heap.objs.size + 1)) { s with heap := sortedAll s.heap vs (List.toArray out) }) :
    wpAny (model prog w) A (call (.builtin "sorted") [.ref l]) Q E s := by
  have er' : EachIs (fun v b => ∃ as, Reads (sortingHeap (copyHeap s.heap vs) (s.heap.objs.size + 1) vs) v (enc b) as) vs bs := er.mono fun _ _ ⟨as, r⟩ => ⟨as, PyProof.Rows.Reads.keeps (fun _ _ => sorting_copy_old) r⟩
  exact sortedT_vals hl (SortsAt.data (s := { s with heap := sortingHeap (copyHeap s.heap vs) (s.heap.objs.size + 1) vs }) (each_map (R := fun v d => ∃ as, Reads (sortingHeap (copyHeap s.heap vs) (s.heap.objs.size + 1) vs) v d as) enc er') hal hk (bound_map hu)) (by rw [e.length]; exact hL)
    (h _ (by rw [sortVals_length false rfl]; exact e.length) (sortVals_data false e er' hal))
end
section
variable {X : Cx} {k : Kn}
def rSrtT (X : Cx) : List V → Hp → VK → Prop := fun vs H Q => ∃ a xs ds, vs = [V.ref a] ∧ SqT X.K H a xs ∧ DpAll X.K H xs ds ∧ PySem.W.AllAlike ds ∧ PySem.W.Sortable ds ∧ (∀ d, d ∈ ds → d.depth ≤ 60) ∧
  ∀ p, H p = none → Q (.ref p) (upd H p (.lst (((xs.zip ds).mergeSort (PySem.W.dataLe false (·.2))).map (·.1))))
theorem cr_srtT (hu : X.A.units + 64 < cLine) : CallR X (.builtin "sorted") (rSrtT X) := by
  intro pins s σ H vs us Q I r h
  obtain ⟨a, xs, ds, rfl, hs, hd, hal, hso, hdp, q⟩ := h
  obtain ⟨u, rfl, ru⟩ := vals1 r
  cases ru
  obtain ⟨its, rv, pl, hz⟩ := I.tuple hs
  have hlen := DpAll.length hd
  have hm : (xs.zip ds).map (·.2) = ds := by rw [List.map_snd_zip]; omega
  have ea := DpAll.zip hd rv
  refine sortedT_data (enc := fun (b : V × PyData) => b.2) (R := fun u (b : V × PyData) => RelV b.1 u) (bs := xs.zip ds) pl (EachIs.imp (fun _ _ z => z.1) ea) (EachIs.imp (fun u b z => Dp.reads I b.2 b.1 u z.2 z.1) ea) (by rw [hm]; exact hal) (by rw [hm]; exact hso) (by rw [List.length_zip]; omega) ?_ ?_
  · intro b hb
    have : b.2 ∈ ds := by rw [← hm]; exact List.mem_map.mpr ⟨b, hb, rfl⟩
    have := hdp _ this
    omega
  · intro out ho eo
    obtain ⟨m, F⟩ := I.fr
    obtain ⟨cn, _, N, _, kp⟩ := PySem.W.sorted_news (news := []) F (fun p hp => nomatch hp) its out
    have hobj := (N _ List.mem_cons_self).1
    have hv := each_vals eo
    refine ⟨.ref (s.heap.objs.size + 1), _, I.laid (a := s.heap.objs.size + 1) (t' := s.toks) (o := .lst _) kp (Nat.le_succ _) ⟨?_, out, cn, hv, hobj⟩, rfl, q _ (I.hok.fresh (Nat.le_succ _))⟩
    rw [List.length_map, List.length_mergeSort, List.length_zip]; omega
def srtAD : D → R D
  | .lst ds => if srtOk ds then .ok (.lst (srt ds)) else .fail
  | .tup ds => if srtOk ds then .ok (.lst (srt ds)) else .fail
  | _ => .fail
theorem c_srtA (hk : k.K = X.K) (hu : X.A.units + 64 < cLine) : ClR X k (.builtin "sorted") .fr (f1 srtAD) := cl1 ((cr_srt hu).or (cr_srtT hu)) fun G H x v d e n hg Q p => by
  cases x <;> simp only [srtAD] at hg <;> first | (cases hg; done) | skip
  · split at hg
    · rename_i ho
      cases hg; obtain ⟨a, vs, rfl, ha, r⟩ := n.tup
      have hd : doks 59 _ = true := (by unfold srtOk at ho; simp only [Bool.and_eq_true] at ho; exact ho.1.1)
      refine .inr ⟨a, vs, _, rfl, hk ▸ e.sqT ha.t, hk ▸ (r.mono e).dp 59 hd, fun p hp q hq => ?_, srt_sortable ho, fun q hq => ?_, fun pp hp => p _ _ _ (Step.new' e hp) ⟨pp, _, rfl, e.free hp, hp, upd_same, .lst r.srt⟩⟩
      · obtain ⟨d1, h1, rfl⟩ := toPs_mem hp
        obtain ⟨d2, h2, rfl⟩ := toPs_mem hq
        unfold srtOk at ho
        simp only [Bool.and_eq_true, List.all_eq_true] at ho
        exact alikeD_of _ _ (ho.1.2 d1 h1 d2 h2)
      · obtain ⟨d1, h1, rfl⟩ := toPs_mem hq
        have := (dok_lay 59 d1 (doks_mem hd h1)).2
        omega
    · cases hg
  · split at hg
    · rename_i ho
      cases hg; obtain ⟨a, vs, rfl, ha, r⟩ := n.lst e
      have hd : doks 59 _ = true := (by unfold srtOk at ho; simp only [Bool.and_eq_true] at ho; exact ho.1.1)
      refine .inl ⟨a, vs, _, rfl, SqL.of ha, hk ▸ (r.mono e).dp 59 hd, fun p hp q hq => ?_, srt_sortable ho, fun q hq => ?_, fun pp hp => p _ _ _ (Step.new' e hp) ⟨pp, _, rfl, e.free hp, hp, upd_same, .lst r.srt⟩⟩
      · obtain ⟨d1, h1, rfl⟩ := toPs_mem hp
        obtain ⟨d2, h2, rfl⟩ := toPs_mem hq
        unfold srtOk at ho
        simp only [Bool.and_eq_true, List.all_eq_true] at ho
        exact alikeD_of _ _ (ho.1.2 d1 h1 d2 h2)
      · obtain ⟨d1, h1, rfl⟩ := toPs_mem hq
        have := (dok_lay 59 d1 (doks_mem hd h1)).2
        omega
    · cases hg
end
end M
set_option Elab.async false
set_option linter.all false
set_option maxRecDepth 100000
set_option maxHeartbeats 4000000
namespace PySem
namespace SupX
open PySem.W PySem.Calls PyProof.Rows PySem.HandSPX
def Stores : List Str → List Stmt → Prop
  | [], [] => True
  | f :: fs, st :: sts => (∃ p1 p2 p3 p4 : Pos, st = .Assign [.Attribute (.Name "self" p1) f p2] (.Name f p3) p4) ∧ Stores fs sts
  | _, _ => False
def InitBody (fs : List Str) (body : List Stmt) : Prop :=
  ∃ (p0 p1 p2 p3 p4 p5 : Pos) (m : Str) (j : Nat) (sts : List Stmt), body = .Expr (.Call (.Attribute (.Call (.Name "super" p0) [] [] p1) "__init__" p2) [.Constant (.str m) j p3] [] p4) p5 :: sts ∧ (p2.endLine == p4.line) = true ∧ Stores fs sts
structure SupT (prog : Program) (K : Frag) (C fI : Addr) (fs : List Str) : Prop where
  cls : ∃ nm q N bs bm sn sub ab col dd k0 k1 k2 k3 k5, K.lookup C = some (excClassObj nm q C N bs bm true sn sub ab col dd k0 k1 k2 k3 k5 "ValueError.__new__") ∧ refsVE bm = true
  sa : findIn K (.ref C) "__setattr__" = some (some (.builtin "object.__setattr__"))
  noN : ∀ f, f ∈ fs → findIn K (.ref C) f = some none
  nd : ((("self" : Str)) :: fs).Nodup
  nod : ∀ f, f ∈ fs → (f == ("__debug__" : Str)) = false
  sup : ks_superIn K C C "__init__" = some (some (.builtin "ValueError.__init__"))
  isV : subIn K (.ref C) (.type "ValueError") = some true
  mro : mroIn K C (.ref C) = some true
  opq : nsIn K cStatics "thirdparty.any" = some none
  iC : findIn K (.ref C) "__init__" = some (some (.ref fI))
  tI : typeIn K (.ref fI) = some (.type "function")
  sup0 : nsIn K mainGlobals "super" = some none
  htop : (prog.main.scope.names.lookup ("super" : Str)).isSome = false
  fn : ∃ (oc : Value) (od : Option Addr) (qual : Str) (params : Arguments) (body : List Stmt) (scope : Scope) (dV kV doc pm : Value) (an : Option Addr) (ct : Value) (osl : Array (Option Value)) (cda cc : Addr)
      (ccl cl : Value) (cdd cld : Option Addr) (vs : Array Value) (ccs csl : Array (Option Value)) (file : Str) (tf : Tok) (ar : Arg),
    K.lookup fI = some ⟨oc, od, .func (ksFn "__init__" qual params body scope dV kV doc pm an (.ref cda) ct cc), osl⟩ ∧ codeIn K (.ref cda) qual = true ∧ K.lookup cda = some ⟨ccl, cdd, .fields vs, ccs⟩ ∧ vs[2]? = some (.str file tf) ∧
    ((prog.main.file : Str) == file) = true ∧ K.lookup cc = some ⟨cl, cld, .cell (some (.ref C)), csl⟩ ∧ InitBody fs body ∧ (params.posonlyargs ++ params.args).head? = some ar ∧ ar.arg = "self" ∧
    (∀ (s : Shared) (us : List Value), us.length = fs.length + 1 → BindsTo s (ksFn "__init__" qual params body scope dV kV doc pm an (.ref cda) ct cc) ⟨us, []⟩ ((("self" : Str) :: fs).zip us)) ∧
    scope.names.lookup ("super" : Str) = some .globalImplicit ∧ scope.names.lookup ("__class__" : Str) = some .free ∧ (∀ f, f ∈ ("self" : Str) :: fs → scope.names.lookup f = some .local) ∧ scope.kind = .function ∧ scope.isGenerator = false ∧ scope.isCoroutine = false ∧
    (∀ x ∈ scope.names, x.2 ≠ .cell)
def exD (C t : Addr) (d : Option Addr) : Obj := { cls := .ref C, dict := d, data := .fields #[.ref t, .none, .none, .none, .bool false, .none] }
section
variable {prog : Program} {w : World} {A : Around} {E : Value → Shared → Prop} {K : Frag} {C fI : Addr} {fs : List Str}
structure InitEnd (h h' : Heap) (x C dx t : Addr) (mD : Str → Option Value) : Prop where
  keep : ∀ b o, b ≠ x → h.get? b = some o → h'.get? b = some o
  obj : h'.get? x = some (exD C t (some dx))
  dbig : h.objs.size ≤ dx
  dne : dx ≠ x
  ns : h'.Ns1 dx mD
end
end SupX
end PySem
set_option Elab.async false
set_option linter.all false
set_option maxRecDepth 100000
set_option maxHeartbeats 4000000
namespace PySem
namespace SupX
open PySem.W PySem.Calls PyProof.Rows PySem.HandSPX
structure Made (h h' : Heap) (e C d : Addr) (mD : Str → Option Value) : Prop where
  keep : ∀ b o, h.get? b = some o → h'.get? b = some o
  new : h.objs.size ≤ e
  obj : ∃ t, h'.get? e = some (exD C t (some d))
  dbig : h.objs.size ≤ d
  dne : d ≠ e
  ns : h'.Ns1 d mD
section
variable {prog : Program} {w : World} {A : Around} {E : Value → Shared → Prop} {K : Frag} {C fI : Addr} {fs : List Str}
end
end SupX
end PySem
namespace M
open PySem L2 PySem.W PySem.Calls PyProof.Rows
section
variable {X : Cx} {C fI : Addr}
end
end M
set_option Elab.async false
set_option linter.all false
set_option maxRecDepth 100000
set_option maxHeartbeats 4000000
namespace M
open PySem L2
def xix : Nat := 1000000
def Kn.at (k : Kn) (a : Addr) : Kn := ⟨k.K, fun i => if i = xix then some (a, []) else k.cl i⟩
mutual
def D.noX : D → Bool
  | .cls c => decide (c ≠ xix)
  | .obj c xs => decide (c ≠ xix) && D.noXs xs
  | .tup xs => D.noXs xs
  | .lst xs => D.noXs xs
  | .dic _ xs => D.noXs xs
  | .dit _ xs => D.noXs xs
  | .dkf _ xs => D.noXs xs
  | _ => true
def D.noXs : List D → Bool
  | [] => true
  | x :: xs => x.noX && D.noXs xs
end
theorem Kn.at_cl {k : Kn} {a : Addr} {i : Nat} (h : i ≠ xix) : (k.at a).cl i = k.cl i := if_neg h
theorem Kn.up {k : Kn} {a : Addr} (h0 : k.cl xix = none) {i : Nat} {p : Addr × List Str} (h : k.cl i = some p) : (k.at a).cl i = some p := by
  rw [Kn.at_cl]; exact h
  rintro rfl; rw [h0] at h; cases h
mutual
theorem RD.up {k : Kn} {G : Hp} {a : Addr} (h0 : k.cl xix = none) : ∀ {d : D} {v : V}, RD k G d v → RD (k.at a) G d v
  | _, _, .non => .non
  | _, _, .bl b => .bl b
  | _, _, .int i => .int i
  | _, _, .str x => .str x
  | _, _, .ty n => .ty n
  | _, _, .tup h r => .tup h (RDs.up h0 r)
  | _, _, .lst h r => .lst h (RDs.up h0 r)
  | _, _, .scr h => .scr h
  | _, _, .cls h => .cls (Kn.up h0 h)
  | _, _, .dic h l r => .dic h l (RDs.up h0 r)
  | _, _, .dit h l r => .dit h l (RDs.up h0 r)
  | _, _, .dkf h l r => .dkf h l (RDs.up h0 r)
  | _, _, .obj c h r => .obj (Kn.up h0 c) h (RDs.up h0 r)
theorem RDs.up {k : Kn} {G : Hp} {a : Addr} (h0 : k.cl xix = none) : ∀ {ds : List D} {vs : List V}, RDs k G ds vs → RDs (k.at a) G ds vs
  | _, _, .nil => .nil
  | _, _, .cons a b => .cons (RD.up h0 a) (RDs.up h0 b)
end
mutual
theorem RD.down {k : Kn} {G : Hp} {a : Addr} : ∀ {d : D} {v : V}, RD (k.at a) G d v → d.noX = true → RD k G d v
  | _, _, .non, _ => .non
  | _, _, .bl b, _ => .bl b
  | _, _, .int i, _ => .int i
  | _, _, .str x, _ => .str x
  | _, _, .ty n, _ => .ty n
  | _, _, .tup h r, q => by simp only [D.noX] at q; exact .tup h (RDs.down r q)
  | _, _, .lst h r, q => by simp only [D.noX] at q; exact .lst h (RDs.down r q)
  | _, _, .scr h, _ => .scr h
  | _, _, .cls h, q => by simp only [D.noX, decide_eq_true_eq] at q; rw [Kn.at_cl q] at h; exact .cls h
  | _, _, .dic h l r, q => by simp only [D.noX] at q; exact .dic h l (RDs.down r q)
  | _, _, .dit h l r, q => by simp only [D.noX] at q; exact .dit h l (RDs.down r q)
  | _, _, .dkf h l r, q => by simp only [D.noX] at q; exact .dkf h l (RDs.down r q)
  | _, _, .obj c h r, q => by
    simp only [D.noX, Bool.and_eq_true, decide_eq_true_eq] at q
    rw [Kn.at_cl q.1] at c
    exact .obj c h (RDs.down r q.2)
theorem RDs.down {k : Kn} {G : Hp} {a : Addr} : ∀ {ds : List D} {vs : List V}, RDs (k.at a) G ds vs → D.noXs ds = true → RDs k G ds vs
  | _, _, .nil, _ => .nil
  | _, _, .cons a b, q => by
    simp only [D.noXs, Bool.and_eq_true] at q
    exact .cons (RD.down a q.1) (RDs.down b q.2)
end
theorem Gc.up {mg : Str → Option Value} {k : Kn} {x : Str} {d : D} {a : Addr} (h0 : k.cl xix = none) (h : Gc mg k x d) : Gc mg (k.at a) x d := by
  obtain ⟨v, u, h1, h2, h3⟩ := h.ex
  exact ⟨v, u, h1, h2, fun G => (h3 G).up h0⟩
section
variable {P : Program} {w : World} {K : PySem.W.Frag} {mg : Str → Option Value} {base : Heap}
theorem fn_okX {k : Kn} {fr : Bool} {as : List Nat} {x qual : Str} {params : Arguments} {body : List Stmt} {scope : Scope} {dvs : List V} {kws : List (Str × V)} {f : Addr} {fd : FuncData} {N ps : List Str} {lv : Nat} {s : FS} (F : FunD K x qual params body scope dvs kws f fd) (S : FnScope N ps scope)
    (hb : ∀ (cdv : Value) (A : Around) (outer : List PySem.Env) (sh : Shared) (H G0 : Hp) (E : XK), Room lv (A.deeper (PyProof.Rows.envOfC qual scope sh.heap.objs.size f cdv)) → L2N.Takes (cxOf (L2N.CX P w) P w K mg base N qual scope f cdv A outer sh H E) (liftX E) →
      PB' (cxOf (L2N.CX P w) P w K mg base N qual scope f cdv A outer sh H E) ⟨k, H, G0, liftX E⟩ fr as body s) :
    FnOk P w K mg base (L2N.CX P w) (lv + 1) f fd ps (SpF k fr ps.length (runF fr N.length s)) := by
  refine F.ok S (fun vs H Q E q => q.1) fun cdv A outer sh H vs Q E hr q => ?_
  exact body_ok (X := cxOf (L2N.CX P w) P w K mg base N qual scope f cdv A outer sh H E) (fun G0 => hb cdv A outer sh H G0 E hr (L2N.takes_of rfl rfl rfl rfl)) q
theorem init_okX {k : Kn} {as : List Nat} {x qual : Str} {params : Arguments} {body : List Stmt} {scope : Scope} {dvs : List V} {kws : List (Str × V)} {f : Addr} {fd : FuncData} {N ps : List Str} {lv ci : Nat} {s : FS} (F : FunD K x qual params body scope dvs kws f fd) (S : FnScope N ps scope) (h0 : 0 ∉ as)
    (hb : ∀ (cdv : Value) (A : Around) (outer : List PySem.Env) (sh : Shared) (H H0 G0 : Hp) (E : XK), Room lv (A.deeper (PyProof.Rows.envOfC qual scope sh.heap.objs.size f cdv)) → L2N.Takes (cxOf (L2N.CX P w) P w K mg base N qual scope f cdv A outer sh H E) (liftX E) →
      PB' (cxOf (L2N.CX P w) P w K mg base N qual scope f cdv A outer sh H E) ⟨k, H0, G0, liftX E⟩ false as body s) :
    FnOk P w K mg base (L2N.CX P w) (lv + 1) f fd ps (SpN k ci ps.length (runN N.length ci s)) := by
  refine F.ok S (fun vs H Q E q => q.1) fun cdv A outer sh H vs Q E hr q => ?_
  exact body_init (X := cxOf (L2N.CX P w) P w K mg base N qual scope f cdv A outer sh H E) h0 (fun H0 G0 => hb cdv A outer sh H H0 G0 E hr (L2N.takes_of rfl rfl rfl rfl)) q
end
structure CalleeX (P : Program) (w : World) (K : PySem.W.Frag) (mg : Str → Option Value) (base : Heap) (k : Kn) (lv : Nat) (x : Str) (n : Nat) (fr : Bool) (den : List D → R D) : Prop where
  ex : ∃ (f : Addr) (fd : FuncData) (ps : List Str), ps.length = n ∧ FnOk P w K mg base (L2N.CX P w) lv f fd ps (SpF k fr n den) ∧ mg x = some (.ref f) ∧ PySem.W.keepIn K (.ref f) = true ∧ Binds K fd ps []
structure MethodX (P : Program) (w : World) (K : PySem.W.Frag) (mg : Str → Option Value) (base : Heap) (k : Kn) (lv : Nat) (ci : Nat) (m : Str) (n : Nat) (fr : Bool) (den : List D → R D) : Prop where
  ex : ∃ (C f : Addr) (fd : FuncData) (ps nm : List Str), ps.length = n ∧ k.cl ci = some (C, nm) ∧ m ∉ nm ∧ Cls K C ∧ Meth K C m f ∧ FnOk P w K mg base (L2N.CX P w) lv f fd ps (SpF k fr n den) ∧ Binds K fd ps []
structure MakerX (P : Program) (w : World) (K : PySem.W.Frag) (mg : Str → Option Value) (base : Heap) (k : Kn) (lv : Nat) (x : Str) (ci n : Nat) (den : List D → R D) : Prop where
  ex : ∃ (C f : Addr) (fd : FuncData) (ps : List Str) (nm : List Str), ps.length = n + 1 ∧ k.cl ci = some (C, nm) ∧ Mk K C f ∧ FnOk P w K mg base (L2N.CX P w) lv f fd ps (SpN k ci (n + 1) den) ∧ mg x = some (.ref C) ∧ Binds K fd ps []
section
variable {X : Cx} {c : Cf} {kd k1 k2 k3 : Kd} {a b e o : Expr} {f g h : FE} {pos apos : Pos} {fr : Bool} {x : Str} {den : List D → R D} {ci : Nat}
def eCX (o : List D → R D) (g : FA) : FE := fun S => g S >>= fun xs => o xs
theorem callX_go {n : Nat} {fa : FA} {σ : L2.St} {H : Hp} {Q : VK} (hl : ∀ S ds, fa S = .ok ds → ds.length = n) (q : RdE c (kdOf fr) (eCX den fa) σ H Q) : RdA c false fa σ H fun vs H1 => SpF c.k fr n den vs H1 Q (WE c.W σ) := by
  obtain ⟨G, S, rel, p⟩ := q
  have p : PostE c (kdOf fr) G S σ H Q (fa S >>= fun ds => den ds) := p
  refine ⟨G, S, rel, ?_⟩
  cases e0 : fa S with
  | exc x => rw [e0] at p; exact p
  | fail => rw [e0] at p; exact p
  | ok ds =>
    rw [e0] at p
    intro vs G1 H1 s1 q1
    have q1 : RDs c.k G1 ds vs := q1
    refine ⟨by rw [← q1.length]; exact hl S ds e0, G1, ds, s1.gh, q1, ?_⟩
    have p : PostE c (kdOf fr) G S σ H Q (den ds) := p
    cases e1 : den ds with
    | ok d => rw [e1] at p; exact fun v G' H' s2 r2 => p v G' H' (s1.trans s2) (r2.mono s1.h)
    | exc x =>
      rw [e1] at p
      have p : PX c σ x := p
      exact fun _ cls da G' H' s2 xr => p cls da G' H' ((rel.grow s1).st.trans s2) xr
    | fail => rw [e1] at p; exact p.elim
theorem d_callX {lv m n : Nat} {p : Pos} {es : List Expr} {fa : FA} (F : CalleeX X.prog X.w X.K X.mg X.base c.k lv x n fr den) (hr : Room m X.A) (hle : lv ≤ m) (tk : L2N.Takes X c.W) (ha : PA' X c false (e :: es) fa) (hl : Len n fa) (hg : Gl X x := by rfl) (hdb : (x == ("__debug__" : Str)) = false := by decide)
    (hs : starEach (e :: es) X.env = (false, eval e X.env) :: starEach es X.env := by rfl) (hs2 : ((backTo pos (starEach es X.env)).any fun x => x.1) = false := by rfl) : PE' X c (kdOf fr) (.Call (.Name x p) (e :: es) [] pos) (eCX den fa) := by
  obtain ⟨f, fd, ps, hn, ok, hm, hk, hb⟩ := F.ex
  exact peI (pe_callS ok (hr.mono hle) hg hm hk hb (fun σ => L2N.passAt tk σ) ha hdb hs hs2) fun σ H Q q => callX_go hl q
def eMX (ci : Nat) (den : List D → R D) (f : FE) (fa : FA) : FE := fun S => f S >>= fun o => if o.isObj ci then fa S >>= fun ds => den (o :: ds) else .fail
end
end M
set_option Elab.async false
set_option linter.all false
set_option maxRecDepth 100000
set_option maxHeartbeats 4000000
namespace M
open PySem L2
section
variable {X : Cx} {c : Cf} {kd k1 k2 k3 : Kd} {a b e o : Expr} {f g h : FE} {pos apos : Pos} {fr : Bool} {x : Str} {den : List D → R D} {ci : Nat}
structure RaO (K : PySem.W.Frag) (mg : Str → Option Value) (k : Kn) (x : Str) (ci : Nat) : Prop where
  ex : ∃ C, k.cl ci = some (C, []) ∧ PySem.W.excIn K C [.type "ValueError", .type "Exception", .type "BaseException", .type "object"] "ValueError.__new__" = true ∧ mg x = some (.ref C) ∧ PySem.W.keepIn K (.ref C) = true ∧
    PySem.W.subIn K (.ref C) (.type "BaseException") = some true ∧ PySem.W.typeIn K (.ref C) = some (.type "type")
structure RaI (P : Program) (K : PySem.W.Frag) (mg : Str → Option Value) (k : Kn) (x : Str) (ci : Nat) (fs : List Str) : Prop where
  ex : ∃ C fI, k.cl ci = some (C, fs) ∧ fs ≠ [] ∧ fs.length ≤ 900 ∧ PySem.SupX.SupT P K C fI fs ∧ mg x = some (.ref C) ∧ PySem.W.keepIn K (.ref C) = true ∧
    PySem.W.subIn K (.ref C) (.type "BaseException") = some true ∧ PySem.W.typeIn K (.ref C) = some (.type "type")
def sExc0 (ci : Nat) : FS := fun _ => .exc ⟨ci, []⟩
theorem s_raise0 {j : Nat} {p p2 pos' : Pos} {m : Str} (R : RaO X.K X.mg c.k x ci) (hc : X.calm = true) (tk : L2N.Takes X c.W) (hg : Gl X x := by rfl) (hdb : (x == ("__debug__" : Str)) = false := by decide) :
    PS' X c fr [] (.Raise (some (.Call (.Name x p) [.Constant (.str m) j p2] [] pos)) none pos') (sExc0 ci) := by
  obtain ⟨C, hcl, h1, h2, h3, h4, h5⟩ := R.ex
  refine psI (L2N.ps_raise hc tk (L2N.pmk_own PySem.F.excBase_ValueError h1 h2 h3 (raises_own h4 h5) hg hdb)) fun Dn σ H ⟨G, S, rel, p⟩ => ?_
  have p : PXs c ⟨ci, []⟩ := p
  exact p σ (.ref C) none G H rel.st ⟨C, [], hcl, rfl, .inl ⟨rfl, rfl, rfl⟩⟩
end
end M
set_option Elab.async false
set_option linter.all false
set_option maxRecDepth 100000
set_option maxHeartbeats 4000000
namespace M
open PySem L2
def PostS1 (c : Cf) (fr : Bool) (as : List Nat) (G : Hp) (S : Env) (σ : L2.St) (H : Hp) (Dn : Ends) : R (Fl × Env) → Prop
  | .ok z => PostS c fr as G S σ H Dn (.ok z)
  | .exc x => PX c σ x
  | .fail => False
theorem PostS1.of {c : Cf} {fr : Bool} {as : List Nat} {G : Hp} {S : Env} {σ : L2.St} {H : Hp} {Dn : Ends} {r : R (Fl × Env)} (p : PostS c fr as G S σ H Dn r) : PostS1 c fr as G S σ H Dn r := by
  cases r with
  | ok z => exact p
  | exc x => exact p σ
  | fail => exact p
section
variable {X : Cx} {c : Cf} {kd k1 k2 k3 : Kd} {a b e o : Expr} {f g h : FE} {t u : FT} {s r : FS} {pos apos : Pos} {fr : Bool} {x : Str} {den : List D → R D} {ci : Nat} {as bs : List Nat} {st : Stmt} {sts : List Stmt}
theorem PostS1.gr {G H G' H' : Hp} {S : Env} {σ : L2.St} {Dn : Ends} {q : R (Fl × Env)} (rel : Rel c G S σ H) (sp : Step G H G' H') (p : PostS1 c fr as G S σ H Dn q) : PostS1 c fr as G' S σ H' Dn q := by
  cases q with
  | ok z => exact PostS.gr rel sp p
  | exc x => exact p
  | fail => exact p
theorem PostS1.sub {as' : List Nat} {G H : Hp} {S : Env} {σ : L2.St} {Dn : Ends} {q : R (Fl × Env)} (hs : ∀ i, i ∈ as' → i ∈ as) (p : PostS1 c fr as G S σ H Dn q) : PostS1 c fr as' G S σ H Dn q := by
  cases q with
  | ok z => exact PostS.sub hs p
  | exc x => exact p
  | fail => exact p
theorem Rel.back {G H G' H' : Hp} {S S' : Env} {σ σ' : L2.St} {W : WX} (rel : Rel c G S σ H) (r2 : Rel ⟨c.k, H, G, W⟩ G' S' σ' H') : Rel c G' S' σ' H' :=
  ⟨rel.st.trans r2.st, r2.len, r2.fz, fun i d q => by
    obtain ⟨a, o, e, g, h0, ho, ct⟩ := r2.ow i d q
    exact ⟨a, o, e, g, rel.st.h.free h0, ho, ct⟩, r2.nd⟩
end
end M
set_option Elab.async false
set_option linter.all false
set_option maxRecDepth 100000
set_option maxHeartbeats 4000000
namespace PySem
namespace SupX
open PySem.W PySem.Spec PySem.Calls PyProof.Rows
section
variable {prog : Program} {w : World} {A : Around} {E : Value → Shared → Prop} {s : Shared} {K : Frag} {x D : Addr} {ox : Obj} {od : Option Obj}
end
end SupX
end PySem
set_option Elab.async false
set_option linter.all false
set_option maxRecDepth 100000
set_option maxHeartbeats 4000000
namespace M
open PySem L2
structure IsT (K : PySem.W.Frag) (k : Kn) (ce : Nat) (t : D) (b : Bool) : Prop where
  ex : ∃ C nm, k.cl ce = some (C, nm) ∧ ExcC K C ∧ ((∃ ci C2 nm2, t = .cls ci ∧ ci ≠ xix ∧ k.cl ci = some (C2, nm2) ∧ PySem.W.kitOne K (.ref C) (.ref C2) = some b) ∨ ∃ n, t = .ty n ∧ PySem.W.kitOne K (.ref C) (.type n) = some b)
section
variable {k : Kn} {K : PySem.W.Frag} {a : Addr}
theorem IsT.exc {ce : Nat} {t : D} {b : Bool} {C : Addr} {nm : List Str} (h : IsT K k ce t b) (hc : k.cl ce = some (C, nm)) : ExcC K C := by
  obtain ⟨C', nm', h1, h2, _⟩ := h.ex
  rw [hc] at h1; cases h1
  exact h2
theorem IsT.val {ce : Nat} {t : D} {b : Bool} {G : Hp} {v : V} {C : Addr} {nm : List Str} (h : IsT K k ce t b) (hc : k.cl ce = some (C, nm)) (r : RD (k.at a) G t v) : ∃ cv, (∀ u, RelV v u → u = cv) ∧ PySem.W.kitOne K (.ref C) cv = some b := by
  obtain ⟨C', nm', h1, h2, h3⟩ := h.ex
  rw [hc] at h1; cases h1
  rcases h3 with ⟨ci, C2, nm2, rfl, hne, h4, h5⟩ | ⟨n, rfl, h5⟩
  · cases r with
    | cls hr =>
      rw [Kn.at_cl hne, h4] at hr
      cases hr
      exact ⟨.ref C2, fun u hu => hu, h5⟩
  · cases r with
    | ty => exact ⟨.type n, fun u hu => hu, h5⟩
end
section
variable {X : Cx} {c : Cf} {k : Kn} {kd k1 k2 k3 : Kd} {e o : Expr} {f g h : FE} {pos apos : Pos} {fr : Bool} {x : Str}
structure Held (X : Cx) (k : Kn) (a : Addr) (y : Exc) (H0 G0 : Hp) : Prop where
  ex : ∃ (oe : Obj) (cls : Value) (d : Option Addr), (a, oe) ∈ X.pn ∧ Zc cls d oe ∧ (∃ vs, oe.data = .fields vs) ∧ XR ⟨k, H0, G0, liftX E0⟩ G0 y cls d H0
structure XfT (K : PySem.W.Frag) (k : Kn) (ci : Nat) (f : Str) (j : Nat) : Prop where
  ex : ∃ C nm, k.cl ci = some (C, nm) ∧ nm[j]? = some f ∧ nm.Nodup ∧ XfC K C ∧ PySem.W.findIn K (.ref C) f = some none
end
end M
set_option Elab.async false
set_option linter.all false
set_option maxRecDepth 100000
set_option maxHeartbeats 4000000
namespace M
open PySem L2 PySem.W
abbrev FnS : Type := Option (Str × Str × Arguments × FuncBody × Scope × Addr × List Str × Addr)
def supI (K : PySem.W.Frag) (x : Str) : Addr := He.ma K (He.ga K x) "__init__"
def seenS (K : PySem.W.Frag) (x : Str) : FnS := (K.lookup (supI K x)).bind fun o => match o.data with
  | .func z => some (z.name, z.qualname, z.params, z.body, z.scope, z.globals, z.closure.map (·.1), z.builtins)
  | _ => none
structure Sx where
  x : Str
  fs : List Str
  qual : Str
  params : Arguments
  body : List Stmt
  scope : Scope
def Sx.val (s : Sx) : FnS := some ("__init__", s.qual, s.params, .stmts s.body, s.scope, mainGlobals, ["__class__"], builtinsNs)
def isNone : Value → Bool
  | .none => true
  | _ => false
def exoB (K : PySem.W.Frag) (C : Addr) : Bool := match K.lookup C with
  | some ⟨.type "type", _, .cls cd, sl⟩ => (match cd.mro, sl.toList with
    | .ref C' :: bm, [_, _, _, _, some (.builtin n), _] => C' == C && (n == "ValueError.__new__" && (!cd.hasDel && (cd.hasDict && PySem.HandSPX.refsVE bm)))
    | _, _ => false)
  | _ => false
def fnB (file : Str) (K : PySem.W.Frag) (s : Sx) : Bool := match K.lookup (supI K s.x) with
  | some ⟨_, _, .func z, _⟩ => codeIn K z.code s.qual && (isNone z.defaults && (isNone z.kwdefaults && (match z.code, z.closure with
    | .ref cda, [(_, cc)] => (match K.lookup cda with
      | some ⟨_, _, .fields vs, _⟩ => (match (vs[2]? : Option Value) with
        | some (.str f _) => decide (f = file)
        | _ => false)
      | _ => false) && (match K.lookup cc with
      | some ⟨_, _, .cell (some (.ref C')), _⟩ => decide (C' = He.ga K s.x)
      | _ => false)
    | _, _ => false)))
  | _ => false
def supB (file : Str) (K : PySem.W.Frag) (s : Sx) : Bool :=
  exoB K (He.ga K s.x) && (He.eqO (findIn K (.ref (He.ga K s.x)) "__setattr__") (some (some (.builtin "object.__setattr__"))) && ((s.fs.all fun f => He.eqO (findIn K (.ref (He.ga K s.x)) f) (some none)) &&
  (He.eqO (ks_superIn K (He.ga K s.x) (He.ga K s.x) "__init__") (some (some (.builtin "ValueError.__init__"))) && (decide (subIn K (.ref (He.ga K s.x)) (.type "ValueError") = some true) && (decide (mroIn K (He.ga K s.x) (.ref (He.ga K s.x)) = some true) &&
  (He.eqO (nsIn K cStatics "thirdparty.any") (some none) && (He.eqO (findIn K (.ref (He.ga K s.x)) "__init__") (some (some (.ref (supI K s.x)))) && (decide (typeIn K (.ref (supI K s.x)) = some (.type "function")) &&
  (He.eqO (nsIn K mainGlobals "super") (some none) && (keepIn K (.ref (He.ga K s.x)) && (decide (subIn K (.ref (He.ga K s.x)) (.type "BaseException") = some true) && (decide (typeIn K (.ref (He.ga K s.x)) = some (.type "type")) && fnB file K s))))))))))))
def kwAt (w : Wh) (x : Str) (K : PySem.W.Frag) : Addr := match K.lookup (w.ad K) with
  | some ⟨_, _, .func z, _⟩ => (match z.kwdefaults with
    | .ref D => (match nsIn K D x with
      | some (some (.ref a)) => a
      | _ => 0)
    | _ => 0)
  | _ => 0
inductive XF where
  | isT (x y : Str) (b : Bool)
  | isTy (x : Str) (n : String) (b : Bool)
  | ecc (x : Str)
  | fld (x f : Str)
  | cme (x m : Str)
  | dfl (w : Wh) (x : Str) (d : D)
  | sf (x : Str)
def XF.ok (K : PySem.W.Frag) : XF → Bool
  | .isT x y b => decide (kitOne K (.ref (He.ga K x)) (.ref (He.ga K y)) = some b)
  | .isTy x n b => decide (kitOne K (.ref (He.ga K x)) (.type n) = some b)
  | .ecc x => He.eqO (findIn K (.ref (He.ga K x)) "__getattribute__") (some (some (.builtin "BaseException.__getattribute__"))) && (He.eqO (findIn K (.ref (He.ga K x)) "__getattr__") (some none) && (decide (subIn K (.ref (He.ga K x)) (.type "BaseException") = some true) && (hasDictIn K (He.ga K x) &&
    (He.eqO (findIn K (.ref (He.ga K x)) "__class__") (some (some (.builtin "object.__class__"))) && (He.eqO (specialIn K (.builtin "object.__class__") "__get__") (some (some (.builtin "getset_descriptor.__get__"))) && (decide (takesIn K (.builtin "object.__class__") = some true) && decide (mroIn K (He.ga K x) (.type "object") = some true)))))))
  | .cme x m => readsIn K (He.ga K x) (.type "type") && (He.eqO (specialIn K (.ref (He.ga K x)) "__getattribute__") (some (some (.builtin "type.__getattribute__"))) && (He5.wrapB K (He.ga K x) "classmethod" "classmethod.__get__" m && fnIn K (He5.wf K (He.ga K x) "classmethod" m)))
  | .dfl w x d => dB K d (.ref (kwAt w x K))
  | .sf x => PySem.W.selfFirst K (He.ga K x)
  | .fld x f => xfB K (He.ga K x) && He.eqO (findIn K (.ref (He.ga K x)) f) (some none)
section
variable {K : PySem.W.Frag} {cl : Nat → Option (Addr × List Str)} {x y f : Str} {n : String} {b : Bool} {ci cj j : Nat} {nm nm2 : List Str}
theorem dfl_ok {w : Wh} {d : D} (h : (XF.dfl w x d).ok K = true) (G : Hp) : RD ⟨K, cl⟩ G d (.ref (kwAt w x K)) := by
  obtain ⟨v, r, z⟩ := dB_ok (cl := cl) (show dB K d (.ref (kwAt w x K)) = true from h)
  cases v <;> simp only [RelV] at r <;> first | (cases r; done) | skip
  all_goals first | (obtain ⟨t, r⟩ := r; cases r; done) | (cases r; exact z G)
theorem raO_ok {mg : Str → Option Value} (h : (He.Fa.exc x).ok K = true) (hg : mg x = some (.ref (He.ga K x))) (h1 : cl ci = some (He.ga K x, [])) : RaO K mg ⟨K, cl⟩ x ci := by
  obtain ⟨a, b, c, d⟩ := He.exc_ok h
  exact ⟨_, h1, a, hg, b, c, d⟩
end
structure TryC (K : PySem.W.Frag) (mg : Str → Option Value) (k : Kn) (x : Str) (mt : Nat → Option Bool) : Prop where
  ex : ∃ cv, mg x = some cv ∧ ∀ ci b, mt ci = some b → ∃ C nm, k.cl ci = some (C, nm) ∧ PySem.W.exmOne K (.ref C) cv = some b
section
variable {X : Cx} {c : Cf} {pos : Pos} {s : FS} {as bs : List Nat}
end
theorem takes0 {X : Cx} : L2N.Takes X (liftX E0) := fun _ _ ⟨_, _, _, _, _, _, _, _, _, _, _, _, _, _, _, _, w⟩ => w.elim
abbrev AlV : Type := AlZ × (Bool × List FnS)
structure Fv where
  y : Fy
  ts : List TabI
  xs : List XF
  ss : List Sx
  file : Str
def obsV (x : Fv) (fn : List Dx) (K : PySem.W.Frag) : AlV := (obsZ x.y x.ts fn K, (x.xs.all fun f => f.ok K) && x.ss.all fun s => supB x.file K s, x.ss.map fun s => seenS K s.x)
def valHV (x : Fv) (fn : List Dx) (w : World) : AlV := (valZ x.ts fn w, true, x.ss.map fun s => s.val)
def SaysV (x : Fv) (fn : List Dx) (w : World) (K : PySem.W.Frag) : Prop := obsV x fn K = valHV x fn w
section
variable {x : Fv} {fn : List Dx} {K : PySem.W.Frag} {w : World}
theorem SaysV.z (c : SaysV x fn w K) : SaysZ x.y x.ts fn w K := congrArg (fun z : AlV => z.1) c
theorem SaysV.both (c : SaysV x fn w K) : ((x.xs.all fun f => f.ok K) && x.ss.all fun s => supB x.file K s) = true := congrArg (fun z : AlV => z.2.1) c
theorem SaysV.xf (c : SaysV x fn w K) (i : Nat) {f : XF} (h : x.xs[i]? = some f := by rfl) : f.ok K = true := List.all_eq_true.mp (He.ba c.both).1 f (List.mem_of_getElem? h)
end
end M
set_option Elab.async false
set_option linter.all false
set_option maxRecDepth 100000
set_option maxHeartbeats 4000000
namespace M
open PySem L2
def obsVL (as : List Addr) (x : Fv) (fn : List Dx) (g : Addr → Option Obj) : AlV := obsV x fn (He.frG g as)
def hookVL (as : List Addr) (x : Fv) (fn : List Dx) : PySem.W.Hook where
  α := AlV
  obs := fun s => obsVL as x fn s.heap.get?
  val := fun w => valHV x fn w
  says := fun w h => ∃ K : PySem.W.Frag, K.In h ∧ SaysV x fn w K
  of := fun _ _ e => ⟨_, He.frG_in, e⟩
  keeps := fun _ _ _ ⟨K, hK, c⟩ k => ⟨K, PySem.W.Frag.In.keeps hK k, c⟩
theorem obsVL_eq {as : List Addr} {x : Fv} {fn : List Dx} {g : Addr → Option Obj} {s : Shared} (h : ∀ a, g a = s.heap.get? a) : obsVL as x fn g = (hookVL as x fn).obs s := by
  have q : g = s.heap.get? := funext h
  subst q; rfl
def mpV : List Dx → List He.FnW
  | [] => []
  | d :: r => d.d.val :: mpV r
theorem mpV_eq : ∀ l : List Dx, mpV l = l.map fun d => d.d.val
  | [] => rfl
  | d :: r => by rw [mpV, mpV_eq r]; rfl
def mpT (w : World) : List TabI → List (Option (List (Option (Str × Int))))
  | [] => []
  | t :: r => some (He.keysIn w.params (t.2.map (·.1))) :: mpT w r
theorem mpT_eq (w : World) : ∀ l : List TabI, mpT w l = l.map fun t => some (He.keysIn w.params (t.2.map (·.1)))
  | [] => rfl
  | d :: r => by rw [mpT, mpT_eq w r]; rfl
def mpS : List Sx → List FnS
  | [] => []
  | d :: r => d.val :: mpS r
theorem mpS_eq : ∀ l : List Sx, mpS l = l.map fun s => s.val
  | [] => rfl
  | d :: r => by rw [mpS, mpS_eq r]; rfl
def valL (x : Fv) (fn : List Dx) (w : World) : AlV := (((true, mpV fn), mpT w x.ts), true, mpS x.ss)
theorem valL_eq (x : Fv) (fn : List Dx) (w : World) : valL x fn w = valHV x fn w := by
  unfold valL valHV valZ
  rw [mpV_eq, mpT_eq, mpS_eq]
end M
set_option Elab.async false
set_option linter.all false
set_option maxRecDepth 100000
set_option maxHeartbeats 0
namespace Pf
open PySem L2 M
def topS (i : Nat) : Stmt := PySem.Challenge.pw_firstbreach_k17_rate_has_loop_and_number.main.body.getD i (.Pass ⟨0, 0, 0, 0⟩)
def clsB : Stmt → List Stmt
  | .ClassDef _ _ _ b .. => b
  | _ => []
def clsS (i j : Nat) : Stmt := (clsB (topS i)).getD j (.Pass ⟨0, 0, 0, 0⟩)
def gv_MOST_STATES : D := .int 5000
abbrev st_check_supply : Stmt := topS 10
abbrev st_moves_of : Stmt := topS 11
abbrev st_Supply : Stmt := clsS 9 0
abbrev st_Supply_reached : Stmt := clsS 9 4
abbrev st_moves_from : Stmt := topS 15
abbrev st_word_to : Stmt := topS 16
abbrev st_lowest : Stmt := topS 2
abbrev st_Rate : Stmt := clsS 18 0
abbrev st_some_loop : Stmt := topS 19
abbrev st_mean_of : Stmt := topS 20
abbrev st_loop_behind : Stmt := topS 21
abbrev st_lesser_loop : Stmt := topS 22
abbrev st_rate : Stmt := topS 23
abbrev st__law_number : Stmt := topS 25
abbrev st__law_machine : Stmt := topS 26
abbrev st__law_ring : Stmt := topS 27
abbrev st__law_share : Stmt := topS 28
abbrev st__law_begins : Stmt := topS 29
abbrev st__law_drawn : Stmt := topS 30
abbrev st__law_reached : Stmt := topS 31
abbrev st__law_moves : Stmt := topS 32
abbrev st__law_after : Stmt := topS 33
abbrev st__law_is_int : Stmt := topS 34
abbrev st__law_is_word : Stmt := topS 35
abbrev st__law_bears : Stmt := topS 36
abbrev st__law_goes_round : Stmt := topS 37
abbrev st__law_stays : Stmt := topS 38
abbrev st_law : Stmt := topS 39
def dd_check_supply : Dx := ⟨.glo "check_supply", ⟨("", none), "check_supply", "check_supply", defArgs st_check_supply, defBody st_check_supply, defScope st_check_supply, [], []⟩⟩
def dd_moves_of : Dx := ⟨.glo "moves_of", ⟨("", none), "moves_of", "moves_of", defArgs st_moves_of, defBody st_moves_of, defScope st_moves_of, [], []⟩⟩
def dd_Supply : Dx := ⟨.met "Supply" "__init__", ⟨("", none), "__init__", "Supply.__init__", defArgs st_Supply, defBody st_Supply, defScope st_Supply, [], [("starts", .adr (kwAt (.met "Supply" "__init__") "starts"))]⟩⟩
def dd_Supply_reached : Dx := ⟨.met "Supply" "reached", ⟨("", none), "reached", "Supply.reached", defArgs st_Supply_reached, defBody st_Supply_reached, defScope st_Supply_reached, [], []⟩⟩
def dd_moves_from : Dx := ⟨.glo "moves_from", ⟨("", none), "moves_from", "moves_from", defArgs st_moves_from, defBody st_moves_from, defScope st_moves_from, [], []⟩⟩
def dd_word_to : Dx := ⟨.glo "word_to", ⟨("", none), "word_to", "word_to", defArgs st_word_to, defBody st_word_to, defScope st_word_to, [], []⟩⟩
def dd_lowest : Dx := ⟨.glo "lowest", ⟨("", none), "lowest", "lowest", defArgs st_lowest, defBody st_lowest, defScope st_lowest, [], []⟩⟩
def dd_Rate : Dx := ⟨.met "Rate" "__init__", ⟨("", none), "__init__", "Rate.__init__", defArgs st_Rate, defBody st_Rate, defScope st_Rate, [], []⟩⟩
def dd_some_loop : Dx := ⟨.glo "some_loop", ⟨("", none), "some_loop", "some_loop", defArgs st_some_loop, defBody st_some_loop, defScope st_some_loop, [], []⟩⟩
def dd_mean_of : Dx := ⟨.glo "mean_of", ⟨("", none), "mean_of", "mean_of", defArgs st_mean_of, defBody st_mean_of, defScope st_mean_of, [], []⟩⟩
def dd_loop_behind : Dx := ⟨.glo "loop_behind", ⟨("", none), "loop_behind", "loop_behind", defArgs st_loop_behind, defBody st_loop_behind, defScope st_loop_behind, [], []⟩⟩
def dd_lesser_loop : Dx := ⟨.glo "lesser_loop", ⟨("", none), "lesser_loop", "lesser_loop", defArgs st_lesser_loop, defBody st_lesser_loop, defScope st_lesser_loop, [], []⟩⟩
def dd_rate : Dx := ⟨.glo "rate", ⟨("", none), "rate", "rate", defArgs st_rate, defBody st_rate, defScope st_rate, [], []⟩⟩
def dd__law_number : Dx := ⟨.glo "_law_number", ⟨("", none), "_law_number", "_law_number", defArgs st__law_number, defBody st__law_number, defScope st__law_number, [], []⟩⟩
def dd__law_machine : Dx := ⟨.glo "_law_machine", ⟨("", none), "_law_machine", "_law_machine", defArgs st__law_machine, defBody st__law_machine, defScope st__law_machine, [], []⟩⟩
def dd__law_ring : Dx := ⟨.glo "_law_ring", ⟨("", none), "_law_ring", "_law_ring", defArgs st__law_ring, defBody st__law_ring, defScope st__law_ring, [], []⟩⟩
def dd__law_share : Dx := ⟨.glo "_law_share", ⟨("", none), "_law_share", "_law_share", defArgs st__law_share, defBody st__law_share, defScope st__law_share, [], []⟩⟩
def dd__law_begins : Dx := ⟨.glo "_law_begins", ⟨("", none), "_law_begins", "_law_begins", defArgs st__law_begins, defBody st__law_begins, defScope st__law_begins, [], []⟩⟩
def dd__law_drawn : Dx := ⟨.glo "_law_drawn", ⟨("", none), "_law_drawn", "_law_drawn", defArgs st__law_drawn, defBody st__law_drawn, defScope st__law_drawn, [], []⟩⟩
def dd__law_reached : Dx := ⟨.glo "_law_reached", ⟨("", none), "_law_reached", "_law_reached", defArgs st__law_reached, defBody st__law_reached, defScope st__law_reached, [], []⟩⟩
def dd__law_moves : Dx := ⟨.glo "_law_moves", ⟨("", none), "_law_moves", "_law_moves", defArgs st__law_moves, defBody st__law_moves, defScope st__law_moves, [], []⟩⟩
def dd__law_after : Dx := ⟨.glo "_law_after", ⟨("", none), "_law_after", "_law_after", defArgs st__law_after, defBody st__law_after, defScope st__law_after, [], []⟩⟩
def dd__law_is_int : Dx := ⟨.glo "_law_is_int", ⟨("", none), "_law_is_int", "_law_is_int", defArgs st__law_is_int, defBody st__law_is_int, defScope st__law_is_int, [], []⟩⟩
def dd__law_is_word : Dx := ⟨.glo "_law_is_word", ⟨("", none), "_law_is_word", "_law_is_word", defArgs st__law_is_word, defBody st__law_is_word, defScope st__law_is_word, [], []⟩⟩
def dd__law_bears : Dx := ⟨.glo "_law_bears", ⟨("", none), "_law_bears", "_law_bears", defArgs st__law_bears, defBody st__law_bears, defScope st__law_bears, [], []⟩⟩
def dd__law_goes_round : Dx := ⟨.glo "_law_goes_round", ⟨("", none), "_law_goes_round", "_law_goes_round", defArgs st__law_goes_round, defBody st__law_goes_round, defScope st__law_goes_round, [], []⟩⟩
def dd__law_stays : Dx := ⟨.glo "_law_stays", ⟨("", none), "_law_stays", "_law_stays", defArgs st__law_stays, defBody st__law_stays, defScope st__law_stays, [], []⟩⟩
def dd_law : Dx := ⟨.glo "law", ⟨("", none), "law", "law", defArgs st_law, defBody st_law, defScope st_law, [], []⟩⟩
def fn : List Dx := [dd_check_supply, dd_moves_of, dd_Supply, dd_Supply_reached, dd_moves_from, dd_word_to, dd_lowest, dd_Rate, dd_some_loop, dd_mean_of, dd_loop_behind, dd_lesser_loop, dd_rate, dd__law_number, dd__law_machine, dd__law_ring, dd__law_share, dd__law_begins, dd__law_drawn, dd__law_reached, dd__law_moves, dd__law_after, dd__law_is_int, dd__law_is_word, dd__law_bears, dd__law_goes_round, dd__law_stays, dd_law]
def ftab : List TabI := []
def fx : Fy := ⟨[.glo "check_supply", .glo "moves_of", .glo "moves_from", .glo "word_to", .glo "lowest", .glo "some_loop", .glo "mean_of", .glo "loop_behind", .glo "lesser_loop", .glo "rate", .glo "_law_number", .glo "_law_machine", .glo "_law_ring", .glo "_law_share", .glo "_law_begins", .glo "_law_drawn", .glo "_law_reached", .glo "_law_moves", .glo "_law_after", .glo "_law_is_int", .glo "_law_is_word", .glo "_law_bears", .glo "_law_goes_round", .glo "_law_stays", .glo "law", .free "abs", .free "bool", .free "dict", .free "int", .free "isinstance", .free "len", .free "list", .free "min", .free "range", .free "set", .free "sorted", .free "sum", .free "tuple", .glo "Supply", .cls "Supply", .mkr "Supply", .noat "Supply" "size", .noat "Supply" "steps", .noat "Supply" "starts", .noat "Supply" "moves", .glo "Rate", .cls "Rate", .mkr "Rate", .noat "Rate" "given", .noat "Rate" "ticks", .noat "Rate" "lead", .noat "Rate" "loop", .noat "Rate" "numbers", .meth "Supply" "reached", .glo "InvalidSupply", .exc "InvalidSupply"], [("MOST_STATES", gv_MOST_STATES)], [], []⟩
def fv : Fv := ⟨fx, ftab, [.dfl (.met "Supply" "__init__") "starts" (.tup [.int 0])], [], "/claim/cut.py"⟩
def clK (K : PySem.W.Frag) : Nat → Option (Addr × List Str) := fun i => if i = 3 then some (He.ga K "Supply", ["size", "steps", "starts", "moves"]) else if i = 5 then some (He.ga K "Rate", ["given", "ticks", "lead", "loop", "numbers"]) else if i = 202 then some (He.ga K "InvalidSupply", []) else none
def looseN : List Str := (["_wall", "lowest", "BreachError", "InvalidSupply", "NothingCommon", "MOST_STATES", "Supply", "check_supply", "moves_of", "joint_steps", "both", "moves_from", "word_to", "Rate", "some_loop", "mean_of", "loop_behind", "lesser_loop", "rate", "_law_number", "_law_machine", "_law_ring", "_law_share", "_law_begins", "_law_drawn", "_law_reached", "_law_moves", "_law_after", "_law_is_int", "_law_is_word"] : List Str) ++ (["_law_bears", "_law_goes_round", "_law_stays"] : List Str)
abbrev Rw : PySem.W.OpenRow := PySem.W.OpenLaw.row PySem.Challenge.rw_firstbreach_k17_rate_has_loop_and_number
end Pf
set_option Elab.async false
set_option linter.all false
set_option maxRecDepth 100000
set_option maxHeartbeats 0
namespace Pf
open PySem L2 M
def asL : List Addr := [2, 3, 6, 4, 21, 28, 38, 51, 63, 145, 154, 161, 166, 171, 176, 183, 200, 211, 216, 223, 230, 235, 242, 249, 254, 259, 266, 273, 280, 287, 294, 301, 308, 315, 322, 329, 334, 0, 20, 27, 37, 50, 62, 144, 153, 160, 165, 170, 175, 182, 199, 210, 215, 222, 229, 234, 241, 248, 253, 258, 265, 272, 279, 286, 293, 300, 307, 314, 321, 328, 333, 15, 16, 17, 18, 19, 22, 23, 24, 25, 26, 36, 39, 49, 61, 79, 88, 98, 104, 111, 118, 125, 130, 137, 142, 143, 146, 147, 150, 151, 152, 155, 156, 157, 158, 159, 162, 163, 164, 167, 168, 169, 172, 173, 174, 177, 178, 179, 180, 181, 197, 198, 201, 202, 205, 206, 207, 208, 209, 212, 213, 214, 217, 218, 219, 220, 221, 224, 225, 226, 227, 228, 231, 232, 233, 236, 237, 238, 239, 240, 243, 244, 245, 246, 247, 250, 251, 252, 255, 256, 257, 260, 261, 262, 263, 264, 267, 268, 269, 270, 271, 274, 275, 276, 277, 278, 281, 282, 283, 284, 285, 288, 289, 290, 291, 292, 295, 296, 297, 298, 299, 302, 303, 304, 305, 306, 309, 310, 311, 312, 313, 316, 317, 318, 319, 320, 323, 324, 325, 326, 327, 330, 331, 332, 78, 74, 86, 87, 96, 97, 103, 110, 117, 124, 129, 136, 141, 196, 75, 76, 77, 73, 85, 89, 95, 99, 100, 101, 102, 105, 106, 107, 108, 109, 112, 113, 114, 115, 116, 119, 120, 121, 122, 123, 126, 127, 128, 131, 132, 133, 134, 135, 138, 139, 140, 191, 192, 193, 194, 195]
abbrev hk : PySem.W.Hook := hookVL asL fv fn
def ob (s : PySem.W.SharedT) : AlV := obsVL asL fv fn (HandSHeadRun.getT s)
theorem ob_eq (s : PySem.W.SharedT) : ob s = hk.obs s.abs := obsVL_eq (HandSHeadRun.getT_eq s)
theorem runParts {σ α β γ : Type} {x : Option σ} {f1 : σ → α} {f2 : σ → β} {f3 : σ → γ} {a : α} {b : β} {c : γ} (h1 : x.map (fun s => (f1 s, f2 s)) = some (a, b)) (h2 : x.map (fun s => f3 s) = some c) : x.map (fun s => (f1 s, f2 s, f3 s)) = some (a, b, c) := by
  cases x with
  | none => cases h1
  | some s =>
    have e1 : (f1 s, f2 s) = (a, b) := Option.some.inj h1
    have e2 : f3 s = c := Option.some.inj h2
    cases e1; cases e2; rfl
section
open HandSHeadRun PySem.W
theorem run2 (w : World) (os : OsState) : (endF (stepQ (denQ tabQ) Rw.prog w) 4000 Rw.prog w os).map (fun s => ob s) = some (valL fv fn w) := by kernel_rfl
theorem run1 (w : World) (os : OsState) : (endF (stepQ (denQ tabQ) Rw.prog w) 4000 Rw.prog w os).map (fun s => (looksF Rw.prog (boot_heap w.params) s.abs, seenQ (PySem.W.view Rw.prog [39]) looseN (importedModules Rw.prog.main.body) (fun s => xlAt (PySem.W.view Rw.prog [39]) [] s && recOk Rw.toRowW.records s) s.abs)) = some (true, openGood (PySem.W.view Rw.prog [39]) looseN) := by kernel_rfl
theorem run (w : World) : RunEq Rw (PySem.W.view Rw.prog [39]) hk ob 4000 looseN w := fun os => runParts (run1 w os) ((run2 w os).trans (by rw [valL_eq]; rfl))
end
end Pf
set_option Elab.async false
set_option linter.all false
set_option maxRecDepth 100000
set_option maxHeartbeats 4000000
namespace M
open PySem L2
section
variable {X : Cx} {c : Cf} {a b e o : Expr} {f g h : FE} {pos apos : Pos} {x : Str} {den : List D → R D}
theorem d_callXS {lv m n : Nat} {p : Pos} {es : List Expr} {fa : FA} (F : CalleeX X.prog X.w X.K X.mg X.base c.k lv x n false den) (hr : Room m X.A) (hle : lv ≤ m) (tk : L2N.Takes X c.W) (ha : PA' X c false (e :: es) fa) (hl : Len n fa) (hg : Gl X x := by rfl) (hdb : (x == ("__debug__" : Str)) = false := by decide)
    (hs : starEach (e :: es) X.env = (false, eval e X.env) :: starEach es X.env := by rfl) (hs2 : ((backTo pos (starEach es X.env)).any fun x => x.1) = false := by rfl) : PE' X c .st (.Call (.Name x p) (e :: es) [] pos) (eCX den fa) := d_callX F hr hle tk ha hl hg hdb hs hs2
end
end M
set_option Elab.async false
set_option linter.all false
set_option maxRecDepth 100000
set_option maxHeartbeats 4000000
namespace M
open PySem L2
structure MakerXD (P : Program) (w : World) (K : PySem.W.Frag) (mg : Str → Option Value) (base : Heap) (k : Kn) (lv : Nat) (x : Str) (ci n : Nat) (dd : List D) (den : List D → R D) : Prop where
  ex : ∃ (C f : Addr) (fd : FuncData) (ps nm : List Str) (dvs : List V) (ds : List Value), k.cl ci = some (C, nm) ∧ Mk K C f ∧ FnOk P w K mg base (L2N.CX P w) lv f fd ps (SpN k ci (n + dd.length + 1) den) ∧ mg x = some (.ref C) ∧ Binds K fd ps ds ∧ Vals dvs ds ∧ ∀ G, RDs k G dd dvs
structure CmethX (P : Program) (w : World) (K : PySem.W.Frag) (mg : Str → Option Value) (base : Heap) (k : Kn) (lv : Nat) (ci : Nat) (m : Str) (n : Nat) (fr : Bool) (den : List D → R D) : Prop where
  ex : ∃ (C p g : Addr) (mc : Value) (fd : FuncData) (ps nm : List Str), ps.length = n ∧ k.cl ci = some (C, nm) ∧ ClX.CRead K C mc ∧ ClX.CMet K C mc m p g ∧ FnOk P w K mg base (L2N.CX P w) lv g fd ps (SpF k fr n den) ∧ Binds K fd ps []
section
variable {X : Cx} {c : Cf} {kd k1 k2 k3 : Kd} {a b e o : Expr} {f g h : FE} {pos apos : Pos} {fr : Bool} {x : Str} {den : List D → R D} {ci : Nat}
end
end M
set_option Elab.async false
set_option linter.all false
set_option maxRecDepth 100000
set_option maxHeartbeats 4000000
namespace M
open PySem L2 PyProof.Rows
def keyT : D → Option (List Key)
  | .tup ds => if 1 < ds.length ∧ ds.length < 4 ∧ ds.all isStrD = false then keysD ds else none
  | _ => none
section
variable {k : Kn} {G H : Hp}
theorem strs_back : ∀ {ds : List D} {vs : List V}, RDs k G ds vs → (vs.all fun x => match x with | .str _ => true | _ => false) = true → ds.all isStrD = true
  | _, _, .nil, _ => rfl
  | d :: ds, v :: vs, .cons a b, h => by
    rw [List.all_cons, Bool.and_eq_true] at h
    rw [List.all_cons, strs_back b h.2, Bool.and_true]
    have h1 := h.1
    split at h1
    · cases a; rfl
    · cases h1
theorem keyT_now (e : Ex G H) {d : D} {v : V} {q : List Key} (h : keyT d = some q) (n : Now k G H d v) : ∃ b, v = .ref b ∧ H b = some (.tup (q.map kV)) := by
  unfold keyT at h
  split at h
  · rename_i ds
    split at h
    · rename_i hc
      obtain ⟨a, vs, rfl, ha, r⟩ := n.tup
      obtain rfl := keysD_rd h r
      refine ⟨a, rfl, ?_⟩
      rcases ha with ha | ⟨o, its, m, _, _, _, _, _, oc⟩
      · exact e _ _ ha
      · exfalso
        have hl := r.length
        unfold okC at oc
        rw [← hl] at oc
        simp only [Bool.or_eq_true, decide_eq_true_eq] at oc
        rcases oc with z | z | z
        · omega
        · omega
        · rw [strs_back r z] at hc; exact absurd hc.2.2 (by simp)
    · cases h
  · cases h
def dlook (d y : D) : Option (Option D) := match d with
  | .dic ks ds => (keyD y).map fun q => getL ks ds q
  | .dit ks ds => (keyT y).map fun q => getL ks ds q
  | .dkf ks ds => (keyD y).map fun q => getL ks ds q
  | _ => none
theorem dlook_go (e : Ex G H) {d y : D} {u v : V} {o : Option D} (nx : Now k G H d u) (ny : Now k G H y v) (h : dlook d y = some o) :
    ∃ a ov, u = .ref a ∧ DGet H a v ov ∧ (∀ r, o = some r → ∃ w, ov = some w ∧ RD k G r w) ∧ (o = none → ov = none) := by
  cases d with
  | dic ks ds =>
    obtain ⟨q, hq, rfl⟩ := Option.map_eq_some_iff.mp h
    obtain ⟨a, vs, rfl, ha, hl, r⟩ := nx.dic e
    obtain rfl := keyD_now hq ny
    exact ⟨a, _, rfl, DGet.k ha, (getL_val hl r).1, (getL_val hl r).2⟩
  | dit ks ds =>
    obtain ⟨q, hq, rfl⟩ := Option.map_eq_some_iff.mp h
    obtain ⟨a, vs, rfl, ha, hl, r⟩ := nx.dit e
    obtain ⟨b, rfl, hb⟩ := keyT_now e hq ny
    exact ⟨a, _, rfl, DGet.t ha hb, (getL_val hl r).1, (getL_val hl r).2⟩
  | dkf ks ds =>
    obtain ⟨q, hq, rfl⟩ := Option.map_eq_some_iff.mp h
    obtain ⟨a, o, vs, rfl, ha, hl, r⟩ := nx.dkf e
    obtain rfl := keyD_now hq ny
    exact ⟨a, _, rfl, .inl ⟨_, q, .inr ⟨o, ha⟩, rfl, rfl⟩, (getL_val hl r).1, (getL_val hl r).2⟩
  | _ => cases h
end
section
variable {X : Cx} {c : Cf} {kd k1 k2 k3 : Kd} {a b e o : Expr} {f g h : FE} {pos apos cpos : Pos} {fr : Bool} {x : Str} {k : Kn}
theorem ix_dct (hu : X.A.units + 1 < cLine) : IxR X (fun x y H Q => ∃ a v, x = .ref a ∧ DGet H a y (some v) ∧ Q v H) := by
  intro value slice pins s σ H x y v u Q I rx ry h hs
  obtain ⟨a, z, rfl, g, q⟩ := h
  cases (show v = Value.ref a from rx)
  exact tail_any (dict_typeIs I g) PySem.F.slot_dict_getitem.lookup (d_getItem hu I g ry fun w' s3 I3 rw' => ⟨z, H, I3, rw', q⟩) hs
theorem op_dctIn (hu : X.A.units + 1 < cLine) : OpR X (compareOp .In) (fun y x H Q => ∃ a o, x = .ref a ∧ DGet H a y o ∧ Q (.bl o.isSome) H) := by
  intro pins s σ H y x u v Q I ry rx h
  obtain ⟨a, z, rfl, g, q⟩ := h
  cases (show v = Value.ref a from rx)
  exact d_in hu I g ry fun s3 I3 => ⟨.bl z.isSome, H, I3, rfl, q⟩
theorem op_dctNotIn (hu : X.A.units + 1 < cLine) : OpR X (compareOp .NotIn) (fun y x H Q => ∃ a o, x = .ref a ∧ DGet H a y o ∧ Q (.bl (!o.isSome)) H) := by
  intro pins s σ H y x u v Q I ry rx h
  obtain ⟨a, z, rfl, g, q⟩ := h
  cases (show v = Value.ref a from rx)
  exact d_notIn hu I g ry fun s3 I3 => ⟨.bl (!z.isSome), H, I3, rfl, q⟩
def ixA (d y : D) : R D := match dlook d y with
  | some (some r) => .ok r
  | some none => .fail
  | none => ixD d y
theorem o_ixA (hk : k.K = X.K) (hu : X.A.units + 65 < cLine) : Ix2 X k ixA := by
  obtain ⟨r0, h0, z0⟩ := o_ix (k := k) hk
  refine ⟨_, (ix_dct (by omega)).or h0, ?_⟩
  intro G H x y u v d e nx ny hg Q q
  unfold ixA at hg
  split at hg
  · rename_i r hl
    cases hg
    obtain ⟨a, ov, rfl, g, h1, _⟩ := dlook_go e nx ny hl
    obtain ⟨w, rfl, rw_⟩ := h1 _ rfl
    exact .inl ⟨a, w, rfl, g, q _ G H (Step.refl e) rw_⟩
  · cases hg
  · exact .inr (z0 G H x y u v d e nx ny hg Q q)
def inA (y d : D) : R D := match dlook d y with
  | some r => .ok (.bl r.isSome)
  | none => inD y d
def notInA (y d : D) : R D := match dlook d y with
  | some r => .ok (.bl (!r.isSome))
  | none => notInD y d
theorem o_inA (hk : k.K = X.K) (hu : X.A.units + 65 < cLine) : Op2 X k (compareOp .In) .st inA := by
  obtain ⟨r0, h0, z0⟩ := o_in (k := k) hk hu
  refine ⟨_, (op_dctIn (by omega)).or h0, ?_⟩
  intro G H y x v u d e ny nx hg Q q
  unfold inA at hg
  split at hg
  · rename_i r hl
    cases hg
    obtain ⟨a, ov, rfl, g, h1, h2⟩ := dlook_go e nx ny hl
    refine .inl ⟨a, ov, rfl, g, ?_⟩
    have : ov.isSome = r.isSome := by
      cases r with
      | none => rw [h2 rfl]; rfl
      | some r => obtain ⟨w, rfl, _⟩ := h1 _ rfl; rfl
    rw [this]
    exact q _ G H (Step.refl e) (.bl _)
  · exact .inr (z0 G H y x v u d e ny nx hg Q q)
theorem o_notinA (hk : k.K = X.K) (hu : X.A.units + 65 < cLine) : Op2 X k (compareOp .NotIn) .st notInA := by
  obtain ⟨r0, h0, z0⟩ := o_notin (k := k) hk hu
  refine ⟨_, (op_dctNotIn (by omega)).or h0, ?_⟩
  intro G H y x v u d e ny nx hg Q q
  unfold notInA at hg
  split at hg
  · rename_i r hl
    cases hg
    obtain ⟨a, ov, rfl, g, h1, h2⟩ := dlook_go e nx ny hl
    refine .inl ⟨a, ov, rfl, g, ?_⟩
    have : ov.isSome = r.isSome := by
      cases r with
      | none => rw [h2 rfl]; rfl
      | some r => obtain ⟨w, rfl, _⟩ := h1 _ rfl; rfl
    rw [this]
    exact q _ G H (Step.refl e) (.bl _)
  · exact .inr (z0 G H y x v u d e ny nx hg Q q)
def eGet2 (f g h : FE) : FE := fun S => f S >>= fun d => if isDct d then (g S >>= fun y => h S >>= fun z => match dlook d y with
  | some (some r) => .ok r
  | some none => .ok z
  | none => .fail) else .fail
theorem isDct_at {H : Hp} {G : Hp} (e : Ex G H) {d : D} {u : V} (hd : isDct d = true) (nx : Now k G H d u) : ∃ a, u = .ref a ∧ IsD H a := by
  cases d with
  | dic ks ds =>
    obtain ⟨a, vs, rfl, ha, hl, r⟩ := nx.dic e
    exact ⟨a, rfl, .inl ⟨_, .inl ha⟩⟩
  | dit ks ds =>
    obtain ⟨a, vs, rfl, ha, hl, r⟩ := nx.dit e
    exact ⟨a, rfl, .inr ⟨_, .inl ha⟩⟩
  | _ => cases hd
theorem d_get2A {dx : Expr} (hu : X.A.units + 64 < cLine) (ho : PE' X c k1 o f) (hi : PE' X c k2 e g) (hz : PE' X c .st dx h) (m : M2 X o "get" apos e dx cpos := by first | exact ⟨rfl, rfl, rfl, rfl⟩ | exact ⟨rfl, rfl, rfl⟩) :
    PE' X c .st (.Call (.Attribute o "get" apos) [e, dx] [] cpos) (eGet2 f g h) :=
  peI (pe_dget2 (by omega) ho hi hz m) fun σ H Q ⟨G, S, rel, p⟩ => by
    refine rdE_go (g := fun d => if isDct d then (g S >>= fun y => h S >>= fun z => match dlook d y with
      | some (some r) => R.ok r
      | some none => .ok z
      | none => .fail) else .fail) (Post := PostE c .st G S σ H Q) rel p (fun _ z => z) (fun z => z) fun d v G1 H1 s1 q1 p1 => ?_
    by_cases hd : isDct d = true
    · rw [if_pos hd] at p1
      obtain ⟨ad, rfl, isd⟩ := isDct_at s1.gh hd q1.now
      refine ⟨ad, rfl, isd, ?_⟩
      refine rdE_go (g := fun y => h S >>= fun z => match dlook d y with
        | some (some r) => R.ok r
        | some none => .ok z
        | none => .fail) (Post := PostE c .st G S σ H Q) (rel.grow s1) p1 (fun _ z => z) (fun z => z) fun y vy G2 H2 s2 q2 p2 => ?_
      have sA := s1.trans s2
      refine rdE_go (g := fun z => match dlook d y with
        | some (some r) => R.ok r
        | some none => .ok z
        | none => .fail) (Post := PostE c .st G S σ H Q) (rel.grow sA) p2 (fun _ z => z) (fun z => z) fun z vz G3 H3 s3 q3 p3 => ?_
      have sB := sA.trans s3
      cases hl : dlook d y with
      | none => rw [hl] at p3; exact p3.elim
      | some r =>
        obtain ⟨a', ov, e', dg, h1, h2⟩ := dlook_go s3.gh ((q1.now.grow s2).grow s3) (q2.now.grow s3) hl
        cases e'
        rw [hl] at p3
        cases r with
        | none =>
          obtain rfl := h2 rfl
          exact ⟨none, dg, p3 vz G3 H3 sB q3⟩
        | some r =>
          obtain ⟨w, rfl, rw_⟩ := h1 _ rfl
          exact ⟨some w, dg, p3 w G3 H3 sB rw_⟩
    · rw [if_neg hd] at p1; exact p1.elim
def putA (i : Nat) (S : Env) (m d y : D) : R (Fl × Env) := match m with
  | .dic ks ds => (match keyD y with
    | some q => if ks.Nodup ∧ ks.length < sizeLine then .ok (.nx, S.set i (some ⟨true, .dic (putL ks ds q d).1 (putL ks ds q d).2⟩)) else .fail
    | none => .fail)
  | .dit ks ds => (match keyT y with
    | some q => if ks.Nodup ∧ ks.length < sizeLine then .ok (.nx, S.set i (some ⟨true, .dit (putL ks ds q d).1 (putL ks ds q d).2⟩)) else .fail
    | none => .fail)
  | _ => .fail
def ownD (i : Nat) (S : Env) : R D := match S[i]? with
  | some (some ⟨true, d⟩) => .ok d
  | _ => .fail
theorem ownD_of {i : Nat} {S : Env} {z : D} (h : ownD i S = .ok z) : S[i]? = some (some ⟨true, z⟩) := by
  unfold ownD at h
  split at h
  · cases h; assumption
  · cases h
theorem ownD_exc {i : Nat} {S : Env} {x : Exc} : ownD i S ≠ .exc x := by unfold ownD; split <;> intro h <;> cases h
def sPutA (i : Nat) (fy f : FE) : FS := fun S => ownD i S >>= fun m => f S >>= fun d => fy S >>= fun y => putA i S m d y
theorem s_putA (i : Nat) {ix : Expr} {fy : FE} {px ps : Pos} (hu : X.A.units + 64 < cLine) (he : PE' X c .st e f) (hj : PE' X c k1 ix fy) (hN : X.N[i]? = some x := by rfl) (hv : Vis X.env.scope x := by first | exact Or.inl rfl | exact Or.inr (Or.inl rfl) | exact Or.inr (Or.inr rfl)) (hd : (x == ("__debug__" : Str)) = false := by decide)
    (hcd : (x == ("__classdict__" : Str)) = false := by decide) (hs : swapsWith e (some (.Subscript (.Name x px) ix ps)) pos.line X.env = pure false := by rfl) :
    PS' X c fr [i + 1000] (.Assign [.Subscript (.Name x px) ix ps] e pos) (sPutA i fy f) :=
  psI (ps_dput (by omega) (pe_var hN hv hd hcd) hj he hs) fun Dn σ H ⟨G, S, rel, p⟩ => by
    have p : PostS c fr [i + 1000] G S σ H Dn (ownD i S >>= fun m => f S >>= fun d => fy S >>= fun y => putA i S m d y) := p
    cases e0 : ownD i S with
    | exc x => exact absurd e0 ownD_exc
    | fail => rw [e0] at p; exact p.elim
    | ok m =>
      rw [e0, R.ok_bind] at p
      have hS := ownD_of e0
      obtain ⟨l, ob, es, hg, h0, ho, ct⟩ := rel.ow i _ hS
      have ow : OwnAt S σ i l := ⟨⟨_, hS⟩, es⟩
      refine rdE_go (Post := PostS c fr [i + 1000] G S σ H Dn) rel p (fun _ z => z _) (fun z => z) fun d v G1 H1 s1 q1 p1 => ?_
      refine ⟨_, es, ?_⟩
      refine rdE_go (Post := PostS c fr [i + 1000] G S σ H Dn) (rel.grow s1) p1 (fun _ z => z _) (fun z => z) fun y u G2 H2 s2 q2 p2 => ?_
      have sp := s1.trans s2
      have rel' := rel.grow sp
      cases ct with
      | @dic ks ds vs hl r =>
        simp only [putA] at p2
        cases hk : keyD y with
        | none => rw [hk] at p2; exact p2.elim
        | some q =>
          rw [hk] at p2
          dsimp only at p2
          by_cases hc : ks.Nodup ∧ ks.length < sizeLine
          · rw [if_pos hc] at p2
            obtain rfl := keyD_now hk q2.now
            obtain ⟨vs', e1, r', l'⟩ := putL_zip (q := q) hc.1 hl (r.mono sp.g) (RD.mono s2.g q1)
            have hz : (ks.zip vs).length < sizeLine := by rw [List.length_zip]; exact Nat.lt_of_le_of_lt (Nat.min_le_left _ _) hc.2
            refine ⟨l, _, rfl, DPut.k (sp.h _ _ ho) hz, ?_⟩
            rw [e1]
            exact p2 G2 σ _ sp.g (rel'.mut ow (.dic l' r')) ((Frm.step (as := []) rel sp).trans (Frm.mut rel' ow))
          · rw [if_neg hc] at p2; exact p2.elim
      | @dit ks ds vs hl r =>
        simp only [putA] at p2
        cases hk : keyT y with
        | none => rw [hk] at p2; exact p2.elim
        | some q =>
          rw [hk] at p2
          dsimp only at p2
          by_cases hc : ks.Nodup ∧ ks.length < sizeLine
          · rw [if_pos hc] at p2
            obtain ⟨b, rfl, hb⟩ := keyT_now s2.gh hk q2.now
            obtain ⟨vs', e1, r', l'⟩ := putL_zip (q := q) hc.1 hl (r.mono sp.g) (RD.mono s2.g q1)
            have hz : (ks.zip vs).length < sizeLine := by rw [List.length_zip]; exact Nat.lt_of_le_of_lt (Nat.min_le_left _ _) hc.2
            refine ⟨l, _, rfl, DPut.t (sp.h _ _ ho) hb hz, ?_⟩
            rw [e1]
            exact p2 G2 σ _ sp.g (rel'.mut ow (.dit l' r')) ((Frm.step (as := []) rel sp).trans (Frm.mut rel' ow))
          · rw [if_neg hc] at p2; exact p2.elim
      | _ => simp only [putA] at p2; exact p2.elim
end
end M
set_option Elab.async false
set_option linter.all false
set_option maxRecDepth 100000
set_option maxHeartbeats 4000000
namespace M
open PySem L2
variable {X : Cx} {c : Cf} {kd : Kd} {a : Expr} {t t1 : FT} {fr : Bool} {pos : Pos} {tg tg1 : Expr}
theorem nox_exc {α β : Type} {r : R α} {f : α → R β} {x : Exc} (h : (r.nox >>= f) = .exc x) : ∃ a, r = .ok a ∧ f a = .exc x := by
  cases r with
  | ok a => exact ⟨a, rfl, h⟩
  | exc y => cases h
  | fail => cases h
end M
set_option Elab.async false
set_option linter.all false
set_option maxRecDepth 100000
set_option maxHeartbeats 4000000
namespace M
open PySem L2 PySem.Spec PyProof.Rows
section
variable {prog : Program} {w : World} {A : Around} {R : Result → Shared → Prop} {s : Shared} {elt t0 i0 t1 i1 : Expr} {ifs0 ifs1 : List Expr} {scope : Scope} {pos : Pos} {it acc : Value} {env : PySem.Env}
end
section
variable {τ κ : Type}
variable {X : Cx}
end
end M
set_option Elab.async false
set_option linter.all false
set_option maxRecDepth 100000
set_option maxHeartbeats 4000000
namespace M
open PySem L2
def nubI1 (acc : List Int) (k : Int) : List Int := if k ∈ acc then acc else acc ++ [k]
def nubI (ks : List Int) : List Int := ks.foldl nubI1 []
theorem nubI_snoc (ks : List Int) (k : Int) : nubI (ks ++ [k]) = nubI1 (nubI ks) k := by unfold nubI; rw [List.foldl_append]; rfl
theorem rev_ind {α : Type} {P : List α → Prop} (h0 : P []) (h1 : ∀ xs x, P xs → P (xs ++ [x])) (xs : List α) : P xs := by
  rw [← List.reverse_reverse xs]
  induction xs.reverse with
  | nil => exact h0
  | cons x xs ih => rw [List.reverse_cons]; exact h1 _ _ ih
theorem nubI_mem {k : Int} : ∀ ks : List Int, k ∈ nubI ks ↔ k ∈ ks := rev_ind (by simp [nubI]) fun xs x ih => by
  rw [nubI_snoc, nubI1]
  split
  · rename_i h
    rw [ih, List.mem_append, List.mem_singleton]
    exact ⟨.inl, fun z => z.elim id fun e => ih.mp (e ▸ h)⟩
  · rw [List.mem_append, ih, List.mem_append]
theorem nubI_nodup : ∀ ks : List Int, (nubI ks).Nodup := rev_ind (by simp [nubI]) fun xs x ih => by
  rw [nubI_snoc, nubI1]
  split
  · exact ih
  · rename_i h
    rw [List.nodup_append]
    refine ⟨ih, by simp, fun a ha b hb => ?_⟩
    rw [List.mem_singleton] at hb; subst hb
    exact fun e => h (e ▸ ha)
def srtN (ks : List Int) : List Int := (nubI ks).mergeSort (fun a b => decide (a ≤ b))
theorem srtN_mem {k : Int} (ks : List Int) : k ∈ srtN ks ↔ k ∈ ks := by unfold srtN; rw [List.mem_mergeSort, nubI_mem]
theorem srtN_strict (ks : List Int) : (srtN ks).Pairwise (· < ·) := by
  have h1 : (srtN ks).Pairwise (fun a b => decide (a ≤ b) = true) := List.pairwise_mergeSort (fun a b c h1 h2 => by simp at *; omega) (fun a b => by simp; omega) _
  have h2 : (srtN ks).Nodup := (List.mergeSort_perm _ _).nodup_iff.mpr (nubI_nodup ks)
  refine (h1.and h2).imp fun {a b} h => ?_
  have := h.1
  have := h.2
  simp at *
  omega
theorem strict_unique {xs ys : List Int} (h1 : xs.Pairwise (· < ·)) (h2 : ys.Pairwise (· < ·)) (h : ∀ k, k ∈ xs ↔ k ∈ ys) : xs = ys := by
  have n1 : xs.Nodup := h1.imp fun h e => by omega
  have n2 : ys.Nodup := h2.imp fun h e => by omega
  have p : xs.Perm ys := (List.perm_ext_iff_of_nodup n1 n2).mpr h
  exact p.eq_of_pairwise (fun a b _ _ h1 h2 => by omega) h1 h2
variable {c : Cf} {kd : Kd} {a : Expr} {t t1 : FT} {fr : Bool} {pos : Pos} {tg tg1 : Expr}
end M
set_option Elab.async false
set_option linter.all false
set_option maxRecDepth 100000
set_option maxHeartbeats 4000000
namespace M
open PySem L2 PySem.Spec PyProof.Rows
section
variable {X : Cx} {pins : List (Addr × Obj)} {σ : L2.St} {H H' : Hp} {s : Shared} {a : Addr} {y v : V} {u r : Value} {A : Around} {E : Value → Shared → Prop}
theorem dct_put {Q : Unit → Shared → Prop} (hu : A.units + 1 < cLine) (I : Inv X pins σ H s) (g : DPut H a y v H') (ry : RelV y u) (rv : RelV v r) (h : ∀ s', Inv X pins σ H' s' → Q () s') :
    wpAny (model X.prog X.w) A (dictSet a u r) Q E s := by
  rcases g with ⟨kvs, k, e, rfl, l, rfl⟩ | ⟨kvs, k, b, e, rfl, eb, l, rfl⟩
  · obtain ⟨z, hd, vs, rel, dd⟩ := dk_of I.hok e
    have hl : (putK kvs k v).length ≤ sizeLine := by have := length_putK kvs k v; omega
    refine wpAny_dictSet_pairs (hsz := by rw [← rel.length]; exact z) (kV_is ry) dd fun h' dd' hs => h _ ?_
    exact d_write I (by rw [e]; exact True.intro) hs (let ⟨q, _, _, hq, _⟩ := dd'; ⟨q, hq⟩) (dk_new hl hd (rel.put k rv) dd')
  · cases (show u = Value.ref b from ry)
    obtain ⟨z, hd, xs, rel, dd⟩ := dt_of I.hok e
    have hl : (putK kvs k v).length ≤ sizeLine := by have := length_putK kvs k v; omega
    refine wpAny_dictSet_heap (hsz := by rw [← Paired.length rel]; exact z) (show A.units < cLine by omega) (key_of I.hok eb) dd fun h' dd' hs => h _ ?_
    obtain ⟨q, es, ep, hq, h2, h3, h4, _, h5⟩ := dd'
    refine d_write I (by rw [e]; exact True.intro) hs ⟨q, hq⟩ ⟨hl, hd, _, (rel.put k eb rv).keeps fun c ys ec => ?_, q, es, ep, hq, h2, h3, h4, h5⟩
    rw [upd_ne (ne_of ec e (fun z => nomatch z))]
    exact ec
end
structure DK (κ : Type) [DecidableEq κ] where
  key : D → Option κ
  mkd : List κ → List D → D
  ho : List (κ × V) → HO
  put : ∀ {k : Kn} {G H : Hp} {a : Addr} {d : D} {y v : V} {q : κ} {kvs : List (κ × V)}, Ex G H → key d = some q → RD k G d y → H a = some (ho kvs) → kvs.length < sizeLine → DPut H a y v (upd H a (ho (putK kvs q v)))
  cont : ∀ {k : Kn} {G : Hp} {ks : List κ} {ds : List D} {vs : List V}, ks.length = ds.length → RDs k G ds vs → Cont k G (mkd ks ds) (ho (ks.zip vs))
  new : ∀ {P : Program} {w : World} {H : Hp} (h : Heap), sysModules < h.objs.size → ObjOk P w H (h.push { cls := .type "dict", data := .dict #[] }) h.objs.size (ho [])
def dkK : DK Key where
  key := keyD
  mkd := .dic
  ho := .dK
  put := fun e hq r ha hl => by
    obtain rfl := keyD_rd hq r
    exact DPut.k ha hl
  cont := fun l r => .dic l r
  new := fun h hb => dk_empty h hb
section
variable {κ : Type} [DecidableEq κ] {X : Cx}
def tDcG (F : DK κ) (wi : TI) (g : TG) (tt : TT) (tk tv : TE) (vs : List Nat) : TE := fun σ H Q => wi σ H fun J H1 => ∀ S, H1 S = none → ∃ W : Nat → Nat → Hp → Prop, (∃ m, W 0 m (upd H1 S (F.ho []))) ∧ ∀ i m H, W i m H →
  (J.stop i H ∧ Q (.ref S) H) ∨ (J.go i H ∧ ∃ Nx : Hp → Prop, (∀ H', Nx H' → ∃ m', m' < m ∧ W (i + 1) m' H') ∧ ∀ x H', J.yld i H x H' → g x (L2.wipe σ vs) H' fun σ2 H2 => L2.wipe σ2 vs = L2.wipe σ vs ∧ tt σ2 H2 fun b H3 =>
    if b = true then tk σ2 H3 fun y H4 => tv σ2 H4 fun z H5 => ∃ H6, DPut H5 S y z H6 ∧ Nx H6 else Nx H3)
theorem dcG_core {pins : List (Addr × Obj)} {s : Shared} {σ : L2.St} {H : Hp} {Q : VK} {pos' : Pos} {use : Option (Value → Sem Unit)} {Qf : Value → Shared → Prop} (I : Inv X pins σ H s) (F : DK κ) {kx vx tg iter : Expr} {ifs : List Expr} {scope : Scope} {own : List (Str × Nat)} {pos : Pos} {wi : TI} {g : TG} {tt : TT} {tk tv : TE} (hu : X.A.units + 64 < cLine) (hc : X.calm = true) (hN : X.N.Nodup) (hi : PI X tg iter wi) (ok : BlkOk X.N X.env.scope scope own)
    (hg : ∀ (s : Shared) (H : Hp) (C : Addr) (cl : List (Str × Addr)) (fp : List Addr), PG (X.blk s H scope (compEnvC scope cl C X.env) fp) tg g) (ht : ∀ (s : Shared) (H : Hp) (C : Addr) (cl : List (Str × Addr)) (fp : List Addr), PTs (X.blk s H scope (compEnvC scope cl C X.env) fp) ifs tt)
    (hk : ∀ (s : Shared) (H : Hp) (C : Addr) (cl : List (Str × Addr)) (fp : List Addr), PE (X.blk s H scope (compEnvC scope cl C X.env) fp) kx tk)
    (he : ∀ (s : Shared) (H : Hp) (C : Addr) (cl : List (Str × Addr)) (fp : List Addr), PE (X.blk s H scope (compEnvC scope cl C X.env) fp) vx tv) (hs : ∀ x, foldedSetIterable iter X.env x = pure x) (rd : tDcG F wi g tt tk tv (own.map (·.2)) σ H Q)
    (hRR : ∀ D C s' m H', Inv X pins σ H' s' → Q (.ref D) H' → s'.heap.Ns C m → FpOk X pins H' C → compPost (model X.prog X.w) X.A X.xe use Qf (.ref D) C (.ok .next) s') :
    wpAny (model X.prog X.w) X.A (comprehension (.DictComp kx vx [⟨tg, iter, ifs, 0⟩] scope pos) scope X.env pos' newDict false (eval iter X.env) use) Qf X.xe s := by
  have cells : ∀ y ∈ scope.names, y.2 = .free → ∃ c, X.env.cells.lookup y.1 = some c := fun y hy e => (ok.free y hy e).elim (fun k => I.ok.has _ (.inl k)) fun k => I.ok.has _ (.inr k)
  refine wpAny_comprehension_free (use := use) rfl hs (closure_ok cells) ok.kind (fun y hy e => by rw [ok.uniq y hy, e]) (thn (hi.run pins s σ H _ I rd) fun xv s1 hx => thn hx fun itv s2 h2 => ?_)
  obtain ⟨it, fp, tn, J, H2, rfl, I2, T, st2, f2, q⟩ := h2
  refine wpAny_newObj_type (newEnv_comp ?_)
  have hfr : H2 s2.heap.objs.size = none := I2.hok.fresh (Nat.le_refl _)
  generalize hA : s2.heap.objs.size = A0 at hfr
  obtain ⟨W, ⟨m0, w0⟩, turn⟩ := q A0 hfr
  obtain ⟨s3, hs3⟩ : ∃ s3 : Shared, s3 = { s2 with heap := s2.heap.push { cls := .type "dict", data := .dict #[] } } := ⟨_, rfl⟩
  obtain ⟨H3, hH3⟩ : ∃ H3 : Hp, H3 = upd H2 A0 (F.ho []) := ⟨_, rfl⟩
  have old : ∀ b o, s2.heap.get? b = some o → s3.heap.get? b = some o := fun b o e => by rw [hs3]; exact Heap.get?_push_of_some _ e
  have I3 : Inv X pins σ H3 s3 := by
    rw [hs3, hH3]
    exact I2.laid (t' := s2.toks) (fun b o e => Heap.get?_push_of_some _ e) (Nat.le_of_eq hA) (by rw [← hA]; exact F.new s2.heap I2.big)
  have there : ∀ b ∈ fp, b < s2.heap.objs.size := fun b hb => by
    obtain ⟨o, e, _⟩ := T.obj _ _ st2 b hb
    exact Heap.lt_size e
  have f3 : ∀ b ∈ fp, FpOk X pins H3 b ∧ b < s3.heap.objs.size := fun b hb => by
    have lt := there b hb
    refine ⟨⟨?_, (f2 b hb).2⟩, by rw [hs3]; exact (Heap.size_push ..).symm ▸ Nat.lt_succ_of_lt lt⟩
    rw [hH3, upd_ne (by rw [← hA]; exact Nat.ne_of_lt lt)]
    exact (f2 b hb).1
  have st3 : tn 0 s3.heap := T.keep _ _ _ st2 fun b _ o e => old b o e
  have I4 := block_start I3 ok hN f3
  have pg := hg s3 H3 s3.heap.objs.size (cellsFrom (s3.heap.objs.size + 1) scope.names (cloFrom X.env.cells scope.names [])) fp
  have pt := ht s3 H3 s3.heap.objs.size (cellsFrom (s3.heap.objs.size + 1) scope.names (cloFrom X.env.cells scope.names [])) fp
  have pk := hk s3 H3 s3.heap.objs.size (cellsFrom (s3.heap.objs.size + 1) scope.names (cloFrom X.env.cells scope.names [])) fp
  have pe := he s3 H3 s3.heap.objs.size (cellsFrom (s3.heap.objs.size + 1) scope.names (cloFrom X.env.cells scope.names [])) fp
  have goal : codeAny (model X.prog X.w) X.A (.compStart (.DictComp kx vx [⟨tg, iter, ifs, 0⟩] scope pos) 0 (.ref it) (.ref A0) (compEnvC scope (cellsFrom (s3.heap.objs.size + 1) scope.names (cloFrom X.env.cells scope.names [])) s3.heap.objs.size X.env))
      (compPost (model X.prog X.w) X.A X.xe use Qf (.ref A0) s3.heap.objs.size) { s3 with heap := pushCells (s3.heap.push { cls := .type "dict", data := .dict #[] }) scope.names } := by
    generalize hce : compEnvC scope (cellsFrom (s3.heap.objs.size + 1) scope.names (cloFrom X.env.cells scope.names [])) s3.heap.objs.size X.env = ce at I4 pg pt pk pe ⊢
    have cL : ce.locals = s3.heap.objs.size := by subst hce; rfl
    generalize hs4 : ({ s3 with heap := pushCells (s3.heap.push { cls := .type "dict", data := .dict #[] }) scope.names } : Shared) = s4 at I4 ⊢
    have st4 : tn 0 s4.heap := T.keep _ _ _ st3 fun b _ o e => by rw [← hs4]; exact pushCells_keeps _ _ _ _ (Heap.get?_push_of_some _ e)
    have fpo : ∀ {σ' : L2.St} {H' : Hp} {s' : Shared}, Inv (X.blk s3 H3 scope ce fp) [] σ' H' s' → (∀ b ∈ fp, H' b = none) → ∀ b ∈ fp, FpOk (X.blk s3 H3 scope ce fp) [] H' b := fun {σ' H' s'} J' hn b hb =>
      ⟨hn b hb, (J'.ok.exf b hb).1, J'.ok.exfs b hb, .inl hb, (J'.ok.exf b hb).2, fun p hp => by cases (show p ∈ ([] : List (Addr × Obj)) from hp)⟩
    have loop : codeAny (model X.prog X.w) X.A (.compLoop (.DictComp kx vx [⟨tg, iter, ifs, 0⟩] scope pos) 0 (.ref it) (.ref A0) ce) (compPost (model X.prog X.w) X.A X.xe use Qf (.ref A0) s3.heap.objs.size) s4 := by
      refine compLoop_anyD (fun n s' => ∃ i H', Inv (X.blk s3 H3 scope ce fp) [] (L2.wipe σ (own.map (·.2))) H' s' ∧ tn i s'.heap ∧ (∀ b ∈ fp, H' b = none) ∧ W i n H') ?_ m0 ⟨0, H3, I4, st4, fun b hb => (f3 b hb).1.1, by rw [hH3]; exact w0⟩
      rintro n s5 ⟨i, H5, I5, st5, n5, w5⟩
      rcases turn i n H5 w5 with ⟨stop, qq⟩ | ⟨go, Nx, hNx, step⟩
      · refine thnF (T.done (X.blk s3 H3 scope ce fp) rfl rfl rfl hc i [] s5 _ H5 (fun _ _ => False) I5 (fpo I5 n5) st5 stop) fun r s6 ⟨hr, I6⟩ => ?_
        subst hr
        have I7 : Inv X pins σ H5 s6 := I3.call' (ch := fp) I6.os I6.base I6.hok I6.bare fun b hb => ⟨(f3 b hb).1.2.2.2.1, (f3 b hb).1.2.1, (f3 b hb).1.2.2.2.2.1, (f3 b hb).1.2.2.2.2.2⟩
        have nC : H5 s3.heap.objs.size = none := by rw [← cL]; exact I6.free
        obtain ⟨m, hn, _⟩ := I6.loc
        have hn : s6.heap.Ns ce.locals m := hn
        rw [cL] at hn
        exact hRR A0 s3.heap.objs.size s6 m H5 I7 qq hn (I3.fpOk (Nat.le_refl _) nC)
      · refine thnF (T.item (X.blk s3 H3 scope ce fp) rfl rfl rfl hc i [] s5 _ H5 (fun _ _ => False) I5 (fpo I5 n5) st5 go) fun r s6 ⟨u, hr, h6⟩ => ?_
        subst hr
        refine thnF h6 fun _ s7 ⟨x, H7, I7, r7, y7, st7, n7⟩ => ?_
        have I7' := I7.pinned (fpo I7 n7) (T.obj _ _ st7)
        refine thnF (pg.run _ s7 _ H7 x u _ I7' r7 (step x H7 y7)) fun _ s8 ⟨σ8, H8, I8, hw8, q8⟩ => ?_
        refine thnF (pt.run _ s8 σ8 H8 _ I8 q8) fun b s9 ⟨H9, I9, q9⟩ => ?_
        have fin : ∀ {s' : Shared} {H' : Hp}, Inv (X.blk s3 H3 scope ce fp) ([] ++ pinsAt fp s7.heap) σ8 H' s' → Nx H' → ∃ m, m < n ∧ ∃ i H', Inv (X.blk s3 H3 scope ce fp) [] (L2.wipe σ (own.map (·.2))) H' s' ∧ tn i s'.heap ∧ (∀ b ∈ fp, H' b = none) ∧ W i m H' := fun {s' H'} I' nx => by
          obtain ⟨m', hm, w'⟩ := hNx H' nx
          have pinned : ∀ b ∈ fp, ∀ o, s7.heap.get? b = some o → s'.heap.get? b = some o ∧ H' b = none := fun b hb o e =>
            let z := I'.pin (b, o) (List.mem_append_right _ (List.mem_append_right _ (mem_pinsAt hb e)))
            ⟨z.1, z.2.1⟩
          refine ⟨m', hm, i + 1, H', (I'.unpinned (pins := [])).weak (by rw [← hw8, wipe_length]) (fun j v e => ?_), T.keep _ _ _ st7 fun b hb o e => (pinned b hb o e).1, fun b hb => ?_, w'⟩
          · rw [← hw8] at e
            exact (wipe_some e).1
          · obtain ⟨o, e, _⟩ := T.obj _ _ st7 b hb
            exact (pinned b hb o e).2
        match b, q9 with
        | false, q9 => exact fin I9 q9
        | true, q9 =>
          refine thnF (pk.run _ s9 σ8 H9 _ I9 q9) fun z s10 ⟨yk, H10, I10, r10, q10⟩ => ?_
          refine thnF (pe.run _ s10 σ8 H10 _ I10 q10) fun z2 s11 ⟨yv, H11, I11, r11, H12, dp, nx⟩ => ?_
          exact dct_put (X := X.blk s3 H3 scope ce fp) (by show X.A.units + 1 < cLine; omega) I11 dp r10 r11 fun s12 I12 => fin I12 nx
    exact codeAny_compStart_dict loop (T.self X.A 0 _ _ _ st4 loop)
  rw [hs3] at goal
  exact goal
theorem ps_setDcG (F : DK κ) {i : Nat} {y : Str} {py : Pos} {kx vx tg iter : Expr} {ifs : List Expr} {scope : Scope} {own : List (Str × Nat)} {pos spos : Pos} {wi : TI} {g : TG} {tt : TT} {tk tv : TE} (hu : X.A.units + 64 < cLine) (hc : X.calm = true) (hN : X.N.Nodup) (hy : X.N[i]? = some y) (hyl : X.env.scope.names.lookup y = some .local)
    (hsw : swapsWith (.DictComp kx vx [⟨tg, iter, ifs, 0⟩] scope pos) (some (.Name y py)) spos.line X.env = pure true) (hi : PI X tg iter wi) (ok : BlkOk X.N X.env.scope scope own)
    (hg : ∀ (s : Shared) (H : Hp) (C : Addr) (cl : List (Str × Addr)) (fp : List Addr), PG (X.blk s H scope (compEnvC scope cl C X.env) fp) tg g) (ht : ∀ (s : Shared) (H : Hp) (C : Addr) (cl : List (Str × Addr)) (fp : List Addr), PTs (X.blk s H scope (compEnvC scope cl C X.env) fp) ifs tt)
    (hk : ∀ (s : Shared) (H : Hp) (C : Addr) (cl : List (Str × Addr)) (fp : List Addr), PE (X.blk s H scope (compEnvC scope cl C X.env) fp) kx tk)
    (he : ∀ (s : Shared) (H : Hp) (C : Addr) (cl : List (Str × Addr)) (fp : List Addr), PE (X.blk s H scope (compEnvC scope cl C X.env) fp) vx tv) (hs : ∀ x, foldedSetIterable iter X.env x = pure x := by intro _; rfl) :
    PS X (.Assign [.Name y py] (.DictComp kx vx [⟨tg, iter, ifs, 0⟩] scope pos) spos) (tAsg (tDcG F wi g tt tk tv (own.map (·.2))) (gName i)) := by
  constructor
  intro pins s σ H D I h
  rw [exec_Assign_Name_used _ _ _ _ hsw]
  refine wpAny_bind (wpAny_standAt (wpAny_bind ?_))
  show wpAny _ X.A (do let _ ← comprehension (.DictComp kx vx [⟨tg, iter, ifs, 0⟩] scope pos) scope X.env (firstIterPos [⟨tg, iter, ifs, 0⟩] pos) newDict false (eval iter X.env) (some (assign (.Name y py) X.env))) _ _ s
  have h : tDcG F wi g tt tk tv (own.map (·.2)) σ H (fun x H1 => gName i x σ H1 D.nx) := h
  refine wpAny_bind (thn (dcG_core (Qf := fun _ s' => SP X pins D .next s') I F hu hc hN hi ok hg ht hk he hs h fun L C s' m H' I' q hn f => ?_) fun _ s' hq => wpAny_pure (wpAny_pure hq))
  show wpAny _ _ (assign (.Name y py) X.env (.ref L)) _ _ _
  refine wpAny_assign_Name (store_ok2 (v := V.ref L) I' hN hy (.inl hyl) rfl (fun s2 I2 ⟨a, sb, ha⟩ => ?_) (.inr hyl))
  have haC : C ≠ a := by
    rcases ha with z | z
    · rw [z]; exact f.2.1
    · exact fun e => f.2.2.2.2.1 y a z e.symm
  refine ⟨m, hn.sameBut sb haC, fun h3 sb3 => ?_⟩
  exact ⟨_, H', I2.turned (t' := s2.toks) (fun b o hb e => (sb3.2 b hb).trans e) f.1 f.2.1 f.2.2.2.1 f.2.2.2.2.1 f.2.2.2.2.2, q⟩
end
end M
set_option Elab.async false
set_option linter.all false
set_option maxRecDepth 100000
set_option maxHeartbeats 4000000
namespace M
open PySem L2
section
variable {κ : Type} [DecidableEq κ]
theorem putL_nodup {ks : List κ} {ds : List D} {q : κ} {d : D} (h : ks.Nodup) : (putL ks ds q d).1.Nodup := by
  unfold putL
  cases e : ks.idxOf? q with
  | some i => exact h
  | none =>
    rw [List.idxOf?_eq_none_iff] at e
    rw [List.nodup_append]
    exact ⟨h, by simp, fun a ha b hb z => by rw [List.mem_singleton] at hb; subst hb; exact e (z ▸ ha)⟩
theorem putL_len {ks : List κ} {ds : List D} {q : κ} {d : D} (h : ks.length = ds.length) : (putL ks ds q d).1.length = (putL ks ds q d).2.length := by
  unfold putL
  cases e : ks.idxOf? q <;> simp [h]
theorem putL_le {ks : List κ} {ds : List D} {q : κ} {d : D} : (putL ks ds q d).1.length ≤ ks.length + 1 := by
  unfold putL
  cases e : ks.idxOf? q <;> simp
end
theorem swT_dc {kx vx : Expr} {gens : List Comprehension} {scope : Scope} {pos py : Pos} {l : Nat} {y : Str} {env : PySem.Env} (hk : env.scope.kind = .function) (hy : env.scope.names.lookup y = some .local) (hl : (py.line == pos.line) = true)
    (ha : (scope.names.any fun (n, k) => n == y && (k == .local || k == .cell)) = false) : swapsWith (.DictComp kx vx gens scope pos) (some (.Name y py)) l env = pure true := by
  have ky : env.kindOf y = some .local := hy
  have hb : env.blockKind = .function := by unfold Env.blockKind; rw [hk]; rfl
  unfold swapsWith
  simp only [hb, ky, ha, Expr.pos, hl]
  rfl
def dcF (ga : FG) (t : FT) (fk fv : FE) (S : Env) : List D → R (List (D × D))
  | [] => .ok []
  | d :: ds => (ga d S).nox >>= fun S1 => (t S1).nox >>= fun b => if b then (fk S1).nox >>= fun y => (fv S1).nox >>= fun z => dcF ga t fk fv S ds >>= fun ys => .ok ((y, z) :: ys) else dcF ga t fk fv S ds
theorem dcF_exc {ga : FG} {t : FT} {fk fv : FE} {S : Env} {x : Exc} : ∀ ds, dcF ga t fk fv S ds ≠ .exc x
  | [] => by intro h; cases h
  | d :: ds => by
    intro h
    unfold dcF at h
    obtain ⟨S1, _, h⟩ := nox_exc h
    obtain ⟨b, _, h⟩ := nox_exc h
    cases b with
    | false => exact dcF_exc ds h
    | true =>
      rw [if_pos rfl] at h
      obtain ⟨y, _, h⟩ := nox_exc h
      obtain ⟨z, _, h⟩ := nox_exc h
      cases e4 : dcF ga t fk fv S ds with
      | ok ys => rw [e4] at h; cases h
      | exc y => exact dcF_exc ds e4
      | fail => rw [e4] at h; cases h
section
variable {κ : Type} [DecidableEq κ]
def keysOf (F : DK κ) : List (D × D) → Option (List (κ × D))
  | [] => some []
  | p :: ps => match F.key p.1, keysOf F ps with
    | some q, some qs => some ((q, p.2) :: qs)
    | _, _ => none
end
end M
set_option Elab.async false
set_option linter.all false
set_option maxRecDepth 100000
set_option maxHeartbeats 4000000
namespace M
open PySem L2
variable {X : Cx} {c : Cf} {kd k1 k2 k3 : Kd} {e o : Expr} {f g h : FE} {pos apos cpos : Pos} {k : Kn}
def idxD (x y : D) : R D := match x with
  | .lst ds => if dok 60 y && doks 59 ds then (match ds.findIdx? fun z => deq z y with | some j => .ok (.int j) | none => .fail) else .fail
  | _ => .fail
def isLst : D → Bool
  | .lst _ => true
  | _ => false
def eIdx (f g : FE) : FE := fun S => f S >>= fun x => if isLst x then g S >>= fun y => (idxD x y).nox else .fail
theorem toPs_get : ∀ {ds : List D} {j : Nat} {d : D}, ds[j]? = some d → (D.toPs ds)[j]? = some d.toP
  | [], _, _, h => by simp at h
  | d :: ds, 0, _, h => by simp at h; subst h; simp [D.toPs]
  | d :: ds, j + 1, _, h => by simp only [D.toPs]; simpa using toPs_get (ds := ds) (by simpa using h)
theorem toPs_back : ∀ {ds : List D} {j : Nat} {z : PyData}, (D.toPs ds)[j]? = some z → ∃ d, ds[j]? = some d ∧ z = d.toP
  | [], _, _, h => by simp [D.toPs] at h
  | d :: ds, 0, _, h => by simp [D.toPs] at h; exact ⟨d, by simp, h.symm⟩
  | d :: ds, j + 1, _, h => by simp only [D.toPs] at h; simpa using toPs_back (ds := ds) (by simpa using h)
theorem idx_go (hk : k.K = X.K) {G H : Hp} {x y : D} {u v : V} {d : D} {Q : VK} (ex : Ex G H) (nx : Now k G H x u) (ny : Now k G H y v) (hg : idxD x y = .ok d) (q : ∀ j : Int, d = .int j → Q (.int j) H) : rIndexD X.K u [v] H Q := by
  cases x with
  | lst ds =>
    simp only [idxD] at hg
    split at hg
    · rename_i hf
      simp only [Bool.and_eq_true] at hf
      split at hg
      · rename_i j hj
        cases hg
        obtain ⟨a, vs, rfl, ha, r⟩ := nx.lst ex
        have hl : dok 60 (.lst ds) = true := by simp only [dok]; exact hf.2
        have ds' : SeqAt.shaped (.list (D.toPs ds)) = true := by
          have := dok_shaped hl
          simpa only [D.toP] using this
        rw [List.findIdx?_eq_some_iff_getElem] at hj
        obtain ⟨h1, h2, h3⟩ := hj
        refine ⟨a, v, y.toP, D.toPs ds, j, (ds[j]).toP, rfl, rfl, hk ▸ .lst (SqL.of ha) ((r.mono ex).dp 59 hf.2), hk ▸ (ny.rd ex).dp 60 hf.1, ds', dok_shaped hf.1, toPs_get (by simp [h1]), ?_, fun m z' hm hz => ?_, q _ rfl⟩
        · rw [deq_eqv 59 60 _ _ (doks_mem hf.2 (List.getElem_mem h1)) hf.1]; exact h2
        · obtain ⟨d', hd', rfl⟩ := toPs_back hz
          have hm2 : d' ∈ ds := List.mem_of_getElem? hd'
          rw [deq_eqv 59 60 _ _ (doks_mem hf.2 hm2) hf.1]
          have := h3 m hm
          obtain ⟨hlt, e⟩ := List.getElem?_eq_some_iff.mp hd'
          subst e
          simpa using this
      · cases hg
    · cases hg
  | _ => simp [idxD] at hg
theorem d_idx (hk : c.k.K = X.K) (hu : X.A.units + 65 < cLine) (ho : PE' X c k1 o f) (he : PE' X c k2 e g)
    (h3 : starEach [e] X.env = [(false, eval e X.env)] := by rfl) (hb : attributeBase o "index" X.env (eval o X.env) = eval o X.env := by rfl) (h2 : (apos.endLine == cpos.line) = true := by rfl) :
    PE' X c .st (.Call (.Attribute o "index" apos) [e] [] cpos) (eIdx f g) :=
  peI (pe_bm PySem.F.plainAttrs_list PySem.F.slot_list_index PySem.F.type_list_index (mt_indexD hu) ho (pa_cons he pa_nil h3) hb (by rw [h3]; rfl) h2 h3 rfl) fun σ H Q ⟨G, S, rel, p⟩ => by
    refine rdE_go (g := fun x => if isLst x then g S >>= fun y => (idxD x y).nox else .fail) (Post := PostE c .st G S σ H Q) rel p (fun _ z => z) (fun z => z) fun d1 v1 G1 H1 s1 q1 p1 => ?_
    by_cases hl : isLst d1 = true
    · rw [if_pos hl] at p1
      have ty : tyV X.K "list" v1 H1 := by
        cases d1 <;> simp only [isLst] at hl <;> first | (cases hl; done) | skip
        obtain ⟨a, vs, rfl, ha, r⟩ := q1.now.lst s1.gh
        exact .inl ⟨rfl, vs, SqL.of ha⟩
      refine ⟨ty, ?_⟩
      refine rdE_go (g := fun y => (idxD d1 y).nox) (Post := PostE c .st G S σ H Q) (rel.grow s1) p1 (fun _ z => z) (fun z => z) fun d2 v2 G2 H2 s2 q2 p2 => ?_
      cases e : idxD d1 d2 with
      | exc x => rw [e] at p2; exact p2.elim
      | fail => rw [e] at p2; exact p2.elim
      | ok d =>
        rw [e] at p2
        refine idx_go hk s2.gh (q1.now.grow s2) q2.now e fun j hj => ?_
        subst hj
        exact p2 _ G2 H2 (s1.trans s2) (.int _)
    · rw [if_neg hl] at p1; exact p1.elim
end M
set_option Elab.async false
set_option linter.all false
set_option maxRecDepth 100000
set_option maxHeartbeats 4000000
namespace M
open PySem L2 PySem.W
section
variable {prog : Program} {w : World} {A : Around} {E : Value → Shared → Prop} {s : Shared} {K : PySem.W.Frag} {a C f : Addr} {ox : Obj} {od : Option Obj} {x : Value}
end
section
variable {X : Cx} {k : Kn} {lv m' ci : Nat} {den : List D → R D}
end
section
variable {X : Cx} {c : Cf} {a b : Expr} {f g : FE} {pos : Pos} {den : List D → R D}
def hasB (neg : Bool) : D → R D
  | .bl b => .ok (.bl (b != neg))
  | _ => .fail
def eHas (ci : Nat) (den : List D → R D) (neg : Bool) (f g : FE) : FE := fun S => f S >>= fun x => g S >>= fun o => if o.isObj ci then (den [o, x]).nox >>= hasB neg else .fail
end
end M
set_option Elab.async false
set_option linter.all false
set_option maxRecDepth 100000
set_option maxHeartbeats 4000000
namespace M
open PySem L2 PyProof.Rows
open PySem.Sem (wp)
def boolD : D → R D
  | .lst ds => .ok (.bl (!ds.isEmpty))
  | .tup ds => .ok (.bl (!ds.isEmpty))
  | .bl b => .ok (.bl b)
  | .int i => .ok (.bl (i != 0))
  | _ => .fail
section
variable {X : Cx} {k : Kn}
end
end M
set_option Elab.async false
set_option linter.all false
set_option maxRecDepth 100000
set_option maxHeartbeats 4000000
namespace M
open PySem L2 RZ
end M
set_option Elab.async false
set_option linter.all false
set_option maxRecDepth 100000
set_option maxHeartbeats 4000000
namespace M
open PySem L2
section
variable {X : Cx} {c : Cf} {kd k1 k2 k3 : Kd} {a b e o : Expr} {f g h : FE} {pos apos : Pos} {fr : Bool} {x : Str} {den : List D → R D} {ci : Nat}
end
end M
set_option Elab.async false
set_option linter.all false
set_option maxRecDepth 100000
set_option maxHeartbeats 4000000
namespace M
open PySem L2
section
variable {X : Cx} {c : Cf} {k : Kn} {kd k1 k2 k3 : Kd} {a b e o : Expr} {f g h : FE} {pos apos cpos p' : Pos} {fr : Bool} {x y : Str} {den : List D → R D}
end
end M
set_option Elab.async false
set_option linter.all false
set_option maxRecDepth 100000
set_option maxHeartbeats 4000000
namespace M
open PySem L2
structure MakerXK (P : Program) (w : World) (K : PySem.W.Frag) (mg : Str → Option Value) (base : Heap) (k : Kn) (lv : Nat) (x : Str) (ci n : Nat) (ks : List Str) (den : List D → R D) : Prop where
  ex : ∃ (C f : Addr) (fd : FuncData) (ps nm : List Str) (g : List Value → List Value → List Value), k.cl ci = some (C, nm) ∧ Mk K C f ∧ FnOk P w K mg base (L2N.CX P w) lv f fd ps (SpN k ci (n + ks.length + 1) den) ∧ mg x = some (.ref C) ∧ KBn K fd ps (n + 1) ks g (fun vs zs => vs ++ zs)
section
variable {X : Cx} {c : Cf} {kd k1 k2 k3 : Kd} {a b e o : Expr} {f g h : FE} {pos apos : Pos} {fr : Bool} {x : Str} {den : List D → R D} {ci : Nat}
theorem run_makeKS {CX : CXT} {k n : Nat} {C f : Addr} {fd : FuncData} {ps ks : List Str} {sp : Sp} {E : XK} {g : List Value → List Value → List Value} {gV : List V → List V → List V} {pins : List (Addr × Obj)} {σ : L2.St} {H : Hp} {s : Shared} {Q : VK} {us ws : List Value} {vs zs : List V} (Mm : Mk X.K C f) (F : FnOk X.prog X.w X.K X.mg X.base CX k f fd ps sp) (hr : Room (k + 1) X.A) (hb : KBn X.K fd ps (n + 1) ks g gV)
    (hx : ∀ (H : Hp) (s : Shared) (e : Value) (s' : Shared), L2.Inv X pins σ H s → CX X.stack H s E e s' → X.xe e s') (I : L2.Inv X pins σ H s) (r : Vals vs us) (rz : Vals zs ws) (l1 : vs.length = n) (l2 : zs.length = ks.length)
    (h : ∀ x dx, H x = none → H dx = none → dx ≠ x → sp (gV (.ref x :: vs) zs) (upd (upd H dx (.own x)) x (.ins C dx [])) (fun v H2 => v = .non ∧ Q (.ref x) H2) E) :
    wpAny (model X.prog X.w) X.A (call (.ref C) us (ks.zip ws)) (EP X pins σ Q) X.xe s := by
  have hq := h (s.heap.objs.size + 1) s.heap.objs.size (I.hok.fresh (Nat.le_succ _)) (I.hok.fresh (Nat.le_refl _)) (Nat.ne_of_lt (Nat.lt_succ_self _))
  have I2 := L2.Inv.made (C := C) I
  have r1 : Vals (V.ref (s.heap.objs.size + 1) :: vs) (Value.ref (s.heap.objs.size + 1) :: us) := .cons rfl r
  have r2 := hb.rel r1 rz
  have n1 : (Value.ref (s.heap.objs.size + 1) :: us).length = n + 1 := by
    rw [List.length_cons, ← r.length, l1]
  refine wpAny_call (make_map (f := f) I.kIn Mm.makes Mm.init (beq_iff_eq.mp Mm.fn) (codeAny_mono (F.run _ X.stack _ _ ⟨Value.ref (s.heap.objs.size + 1) :: us, ks.zip ws⟩ (g (Value.ref (s.heap.objs.size + 1) :: us) ws) _ _ E (hr.make C us (ks.zip ws))
    (I2.env0.make C us (ks.zip ws)) (hb.to _ (Value.ref (s.heap.objs.size + 1) :: us) ws I2.kIn n1 (rz.length.symm.trans l2)) r2 hq) fun r s' hq' => ?_))
  cases r with
  | error e => exact hx _ _ e s' I2 hq'
  | ok fl =>
    cases fl with
    | ret u =>
      obtain ⟨v, H', I3, rv, ev, q3⟩ := I2.after hq'
      subst ev
      exact ⟨rv, ⟨V.ref (s.heap.objs.size + 1), H', I3, rfl, q3⟩⟩
    | next => exact False.elim hq'
    | brk => exact False.elim hq'
    | cont => exact False.elim hq'
def tMakeKS (C : Addr) (n m : Nat) (sp : Sp) (E : L2.St → XK) (t tk : TA) : TE := fun σ H Q => t σ H fun vs H1 => tk σ H1 fun zs H2 => vs.length = n ∧ zs.length = m ∧ ∀ x dx, H2 x = none → H2 dx = none → dx ≠ x →
  sp (.ref x :: vs ++ zs) (upd (upd H2 dx (.own x)) x (.ins C dx [])) (fun v H3 => v = .non ∧ Q (.ref x) H3) (E σ)
theorem pe_makeKS {CX : CXT} {E : L2.St → XK} {k n : Nat} {C f : Addr} {fd : FuncData} {ps ks : List Str} {sp : Sp} {p : Pos} {es : List Expr} {kws : List Keyword} {t tk : TA} {g : List Value → List Value → List Value} (Mm : Mk X.K C f) (F : FnOk X.prog X.w X.K X.mg X.base CX k f fd ps sp) (hr : Room (k + 1) X.A) (hg : Gl X x) (hm : X.mg x = some (.ref C)) (hb : KBn X.K fd ps (n + 1) ks g (fun vs zs => vs ++ zs)) (hx : ∀ σ, PassesAt CX X σ (E σ))
    (ha : PA X (e :: es) t) (hkw : PK X kws tk)
    (hall : (backToKw pos (keywordEach kws X.env)).all (·.1.isSome) = true := by rfl) (hks : (backToKw pos (keywordEach kws X.env)).filterMap (·.1) = ks := by rfl) (hdb : (x == ("__debug__" : Str)) = false := by decide)
    (he : starEach (e :: es) X.env = (false, eval e X.env) :: starEach es X.env := by rfl) (hpl : ((backTo pos (starEach (e :: es) X.env)).any (·.1) || (backToKw pos (keywordEach kws X.env)).any (·.1.isNone)) = false := by rfl) :
    PE X (.Call (.Name x p) (e :: es) kws pos) (tMakeKS C n ks.length sp E t tk) := by
  refine ⟨fun pins s σ H Q I h => ?_⟩
  refine wpAny_Call_Name_kw (ld_glob I hg hm ?_ hdb)
  refine PySem.W.callWith_KW (h₀ := X.base) I.ok.mod.kin Mm.kp hall (thn (ha.run pos pins s σ H _ I h) fun us s1 ⟨vs, H1, I1, r, q⟩ => ?_) hpl he
  refine thn (hkw.run pos pins s1 σ H1 _ I1 q) fun ws s2 ⟨zs, H2, I2, rz, l1, l2, q2⟩ => ⟨I2.kIn, ?_⟩
  rw [hks]
  exact run_makeKS Mm F hr hb (fun H s e s' => hx σ pins H s e s') I2 r rz l1 l2 q2
def eCXK (o : List D → R D) (fa fk : FA) : FE := fun S => fa S >>= fun as => fk S >>= fun bs => o (as ++ bs)
theorem d_makerXK {lv m' : Nat} {n : Nat} {ks : List Str} {p : Pos} {es : List Expr} {kws : List Keyword} {fa fk : FA} (F : MakerXK X.prog X.w X.K X.mg X.base c.k lv x ci n ks den) (hr : Room m' X.A) (hle : lv + 1 ≤ m') (tk : L2N.Takes X c.W) (ha : PA' X c false (e :: es) fa) (hl : Len n fa) (hk : PK' X c kws fk) (hkl : Len ks.length fk) (hg : Gl X x := by rfl)
    (hall : (backToKw pos (keywordEach kws X.env)).all (·.1.isSome) = true := by rfl) (hks : (backToKw pos (keywordEach kws X.env)).filterMap (·.1) = ks := by rfl) (hdb : (x == ("__debug__" : Str)) = false := by decide)
    (he : starEach (e :: es) X.env = (false, eval e X.env) :: starEach es X.env := by rfl) (hpl : ((backTo pos (starEach (e :: es) X.env)).any (·.1) || (backToKw pos (keywordEach kws X.env)).any (·.1.isNone)) = false := by rfl) :
    PE' X c .fr (.Call (.Name x p) (e :: es) kws pos) (eCXK den fa fk) := by
  obtain ⟨C, f, fd, ps, nm, g, hcl, mk, ok, hm, hb⟩ := F.ex
  refine peI (pe_makeKS mk ok (hr.mono hle) hg hm hb (fun σ => L2N.passAt tk σ) ha hk hall hks hdb he hpl) fun σ H Q ⟨G, S, rel, p⟩ => ?_
  have p : PostE c .fr G S σ H Q (fa S >>= fun as => fk S >>= fun bs => den (as ++ bs)) := p
  refine ⟨G, S, rel, ?_⟩
  cases e1 : fa S with
  | exc x => rw [e1] at p; exact p
  | fail => rw [e1] at p; exact p
  | ok as =>
    rw [e1] at p
    intro vs G1 H1 s1 q1
    refine ⟨G1, S, rel.grow s1, ?_⟩
    have p : PostE c .fr G S σ H Q (fk S >>= fun bs => den (as ++ bs)) := p
    cases e2 : fk S with
    | exc x => rw [e2] at p; exact p
    | fail => rw [e2] at p; exact p
    | ok bs =>
      rw [e2] at p
      have p : PostE c .fr G S σ H Q (den (as ++ bs)) := p
      intro zs G2 H2 s2 q2
      have q1 : RDs c.k G1 as vs := q1
      have q2 : RDs c.k G2 bs zs := q2
      have l1 := hl S as e1
      have l2 := hkl S bs e2
      refine ⟨by rw [← q1.length]; exact l1, by rw [← q2.length]; exact l2, fun x dx hx hdx hne => ?_⟩
      have sp := s1.trans s2
      have q3 : RDs c.k G2 (as ++ bs) (vs ++ zs) := (q1.mono s2.g).append q2
      have hgx : G2 x = none := s2.gh.free hx
      have ex1 : Ex H2 (upd (upd H2 dx (.own x)) x (.ins C dx [])) := (Ex.new hdx).upd hx
      refine ⟨by simp [← q1.length, ← q2.length, l1, l2], x, vs ++ zs, G2, as ++ bs, C, dx, nm, rfl, hcl, upd_same, hgx, s2.gh.trans ex1, q3, ?_⟩
      cases e3 : den (as ++ bs) with
      | ok d =>
        rw [e3] at p
        intro G' H' o ex hk gh hgx' gr ho ct
        refine ⟨rfl, p _ G' H' (sp.trans ⟨ex, fun b u q => hk b u (ne_of_none q hx) (ex1 b u q), gh, fun b u q => ?_⟩) ⟨x, o, rfl, hgx', sp.h.free hx, ho, ct⟩⟩
        rcases gr b u q with z | z
        · exact .inl z
        · exact .inr (ex1.free z)
      | exc y =>
        rw [e3] at p
        have p : PX c σ y := p
        intro _ cls da G' H' s3 xr
        have exl : Ex H2 (less (upd (upd H2 dx (.own x)) x (.ins C dx [])) x) := fun b u q => by
          rw [less_ne (ne_of_none q hx)]; exact ex1 b u q
        refine p cls da G' H' ((rel.grow sp).st.trans ⟨s3.g, fun b u q => s3.h b u (exl b u q), s3.gh, fun b u q => ?_⟩) xr
        rcases s3.gr b u q with z | z
        · exact .inl z
        · exact .inr (exl.free z)
      | fail => rw [e3] at p; exact p.elim
end
end M
set_option Elab.async false
set_option linter.all false
set_option maxRecDepth 100000
set_option maxHeartbeats 4000000
namespace M
open PySem L2
section
variable {X : Cx} {c : Cf} {a b : Expr} {f g : FE} {pos : Pos} {fr : Bool} {x y : Str}
def sParO (i j : Nat) (f g : FE) : FS := fun S => f S >>= fun d => g S >>= fun e => .ok (.nx, (S.set i (some ⟨true, d⟩)).set j (some ⟨true, e⟩))
end
end M
set_option Elab.async false
set_option linter.all false
set_option maxRecDepth 100000
set_option maxHeartbeats 4000000
namespace M
open PySem L2
mutual
def noL : D → Bool
  | .lst _ => false
  | .scr _ => false
  | .tup xs => noLs xs
  | .dic _ _ => false
  | .dit _ xs => noLs xs
  | .dkf _ xs => noLs xs
  | .obj _ xs => noLs xs
  | _ => true
def noLs : List D → Bool
  | [] => true
  | x :: xs => noL x && noLs xs
end
def noC : D → Bool
  | .lst xs => noLs xs
  | .dic _ xs => noLs xs
  | .dit _ xs => noLs xs
  | .obj _ xs => noLs xs
  | _ => false
def Lnt : HO → Bool
  | .lst _ => true
  | .dK _ => true
  | _ => false
def Lnd (G Gp : Hp) : Prop := ∀ b, Gp b = G b ∨ (G b = none ∧ ∃ o, Gp b = some o ∧ Lnt o = true)
def unL (G G' : Hp) : Hp := fun b => match G b with
  | some o => some o
  | none => match G' b with
    | some o => if Lnt o then none else some o
    | none => none
theorem unL_old {G G' : Hp} {b : Addr} {o : HO} (h : G b = some o) : unL G G' b = some o := by unfold unL; rw [h]
theorem unL_keep {G G' : Hp} (e : Ex G G') {b : Addr} {o : HO} (h : G' b = some o) (hn : Lnt o = false) : unL G G' b = some o := by
  unfold unL
  cases g : G b with
  | some u => have := e b u g; rw [h] at this; cases this; rfl
  | none =>
    rw [h]
    dsimp only
    rw [if_neg (by rw [hn]; decide)]
theorem unL_sub {G G' : Hp} (e : Ex G G') {b : Addr} {o : HO} (h : unL G G' b = some o) : G' b = some o ∧ (G b = some o ∨ (G b = none ∧ Lnt o = false)) := by
  unfold unL at h
  cases g : G b with
  | some u => rw [g] at h; cases h; exact ⟨e b _ g, .inl rfl⟩
  | none =>
    rw [g] at h
    cases g' : G' b with
    | none => rw [g'] at h; cases h
    | some u =>
      rw [g'] at h
      dsimp only at h
      by_cases hl : Lnt u = true
      · rw [if_pos hl] at h; cases h
      · rw [if_neg hl] at h; cases h
        exact ⟨rfl, .inr ⟨rfl, by simpa using hl⟩⟩
mutual
theorem RD.unL {k : Kn} {G G' : Hp} (e : Ex G G') : ∀ {d : D} {v : V}, noL d = true → RD k G' d v → RD k (M.unL G G') d v
  | _, _, _, .non => .non
  | _, _, _, .bl b => .bl b
  | _, _, _, .int i => .int i
  | _, _, _, .str x => .str x
  | _, _, _, .ty n => .ty n
  | _, _, h, .tup s r => .tup (by
      rcases s with s | s
      · exact .inl (unL_keep e s rfl)
      · exact .inr s) (RDs.unL e (by simpa only [noL] using h) r)
  | _, _, h, .lst _ _ => by simp [noL] at h
  | _, _, h, .scr _ => by simp [noL] at h
  | _, _, _, .cls h => .cls h
  | _, _, h, .dic _ _ _ => by simp [noL] at h
  | _, _, h, .dit s l r => .dit (unL_keep e s rfl) l (RDs.unL e (by simpa only [noL] using h) r)
  | _, _, h, .dkf s l r => .dkf (unL_keep e s rfl) l (RDs.unL e (by simpa only [noL] using h) r)
  | _, _, h, .obj c s r => .obj c (unL_keep e s rfl) (RDs.unL e (by simpa only [noL] using h) r)
theorem RDs.unL {k : Kn} {G G' : Hp} (e : Ex G G') : ∀ {ds : List D} {vs : List V}, noLs ds = true → RDs k G' ds vs → RDs k (M.unL G G') ds vs
  | _, _, _, .nil => .nil
  | _, _, h, .cons a b => by
    simp only [noLs, Bool.and_eq_true] at h
    exact .cons (RD.unL e h.1 a) (RDs.unL e h.2 b)
end
theorem Cont.unL {k : Kn} {G G' : Hp} (e : Ex G G') {d : D} {o : HO} (h : noC d = true) (c : Cont k G' d o) : Cont k (M.unL G G') d o := by
  cases c with
  | lst r => exact .lst (r.unL e (by simpa only [noC] using h))
  | dic l r => exact .dic l (r.unL e (by simpa only [noC] using h))
  | dit l r => exact .dit l (r.unL e (by simpa only [noC] using h))
  | obj q r => exact .obj q (r.unL e (by simpa only [noC] using h))
theorem Step.unL {G H Gp G' H' : Hp} (e : Ex G Gp) (l : Lnd G Gp) (s : Step Gp H G' H') : Step G H (M.unL G G') H' where
  g := fun b o h => unL_old h
  h := s.h
  gh := fun b o h => s.gh b o (unL_sub (e.trans s.g) h).1
  gr := fun b o h => by
    obtain ⟨h1, h2⟩ := unL_sub (e.trans s.g) h
    rcases h2 with h2 | ⟨h2, h3⟩
    · exact .inl h2
    · rcases s.gr b o h1 with q | q
      · rcases l b with z | ⟨z, u, z2, z3⟩
        · rw [q, h2] at z; cases z
        · rw [q] at z2; cases z2; rw [h3] at z3; cases z3
      · exact .inr q
section
variable {c : Cf} {G H : Hp} {S S' : Env} {σ : St}
end
end M
set_option Elab.async false
set_option linter.all false
set_option maxRecDepth 100000
set_option maxHeartbeats 4000000
namespace M
open PySem L2
inductive NK where
  | dic (ks : List Key) | lst
structure Nd where
  k : NK
  es : List (Bool × D)
def Nd.d (n : Nd) : D := match n.k with
  | .dic ks => .dic ks (n.es.map (·.2))
  | .lst => .lst (n.es.map (·.2))
def NK.ho (k : NK) (vs : List V) : HO := match k with
  | .dic ks => .dK (ks.zip vs)
  | .lst => .lst vs
def NK.wf (k : NK) (n : Nat) : Prop := match k with
  | .dic ks => ks.length = n
  | .lst => True
inductive EnR (k : Kn) (G H : Hp) : List (Bool × D) → List V → List Addr → Prop
  | nil : EnR k G H [] [] []
  | st {d : D} {v : V} {es : List (Bool × D)} {vs : List V} {bs : List Addr} : RD k G d v → EnR k G H es vs bs → EnR k G H ((false, d) :: es) (v :: vs) bs
  | ow {d : D} {b : Addr} {o : HO} {es : List (Bool × D)} {vs : List V} {bs : List Addr} : H b = some o → Cont k G d o → EnR k G H es vs bs → EnR k G H ((true, d) :: es) (.ref b :: vs) (b :: bs)
section
variable {k : Kn} {G G' H H' : Hp}
theorem EnR.keep (e : Ex G G') : ∀ {es : List (Bool × D)} {vs : List V} {bs : List Addr}, (∀ b, b ∈ bs → H' b = H b) → EnR k G H es vs bs → EnR k G' H' es vs bs
  | _, _, _, _, .nil => .nil
  | _, _, _, h, .st r t => .st (r.mono e) (EnR.keep e h t)
  | _, _, _, h, .ow q r t => .ow (by rw [h _ (List.mem_cons_self ..)]; exact q) (r.mono e) (EnR.keep e (fun b hb => h b (List.mem_cons_of_mem _ hb)) t)
theorem EnR.len : ∀ {es : List (Bool × D)} {vs : List V} {bs : List Addr}, EnR k G H es vs bs → es.length = vs.length
  | _, _, _, .nil => rfl
  | _, _, _, .st r t => by rw [List.length_cons, List.length_cons, EnR.len t]
  | _, _, _, .ow _ r t => by rw [List.length_cons, List.length_cons, EnR.len t]
theorem EnR.live : ∀ {es : List (Bool × D)} {vs : List V} {bs : List Addr}, EnR k G H es vs bs → ∀ b, b ∈ bs → ∃ o, H b = some o
  | _, _, _, .nil, b, h => by cases h
  | _, _, _, .st r t, b, h => EnR.live t b h
  | _, _, _, .ow q r t, b, h => by
    rcases List.mem_cons.mp h with rfl | h
    · exact ⟨_, q⟩
    · exact EnR.live t b h
theorem EnR.get : ∀ {es : List (Bool × D)} {vs : List V} {bs : List Addr} {m : Nat} {d : D}, EnR k G H es vs bs → es[m]? = some (true, d) → ∃ b o, vs[m]? = some (.ref b) ∧ b ∈ bs ∧ H b = some o ∧ Cont k G d o
  | _, _, _, m, d, .nil, h => by simp at h
  | _, _, _, 0, d, .st r t, h => by simp at h
  | _, _, _, 0, d, .ow q r t, h => by
    simp at h; subst h
    exact ⟨_, _, rfl, by simp, q, r⟩
  | _, _, _, m + 1, d, .st r t, h => by
    obtain ⟨b, o, h1, h2, h3, h4⟩ := EnR.get (m := m) t (by simpa using h)
    exact ⟨b, o, by simpa using h1, h2, h3, h4⟩
  | _, _, _, m + 1, d, .ow q r t, h => by
    obtain ⟨b, o, h1, h2, h3, h4⟩ := EnR.get (m := m) t (by simpa using h)
    exact ⟨b, o, by simpa using h1, List.mem_cons_of_mem _ h2, h3, h4⟩
theorem EnR.put : ∀ {es : List (Bool × D)} {vs : List V} {bs : List Addr} {m : Nat} {d d' : D} {b : Addr} {o' : HO}, EnR k G H es vs bs → es[m]? = some (true, d) → vs[m]? = some (.ref b) → bs.Nodup → Cont k G d' o' → EnR k G (upd H b o') (es.set m (true, d')) vs bs
  | _, _, _, m, d, d', b, o', .nil, h, _, _, _ => by simp at h
  | _, _, _, 0, d, d', b, o', .st r t, h, _, _, _ => by simp at h
  | _, _, _, 0, d, d', b, o', .ow q r t, h, hv, nd, ct => by
    simp at hv; subst hv
    exact .ow upd_same ct (t.keep (Ex.refl _) fun x hx => upd_ne (fun z => (List.nodup_cons.mp nd).1 (by rw [← z]; exact hx)))
  | _, _, _, m + 1, d, d', b, o', .st r t, h, hv, nd, ct => .st r (EnR.put t (by simpa using h) (by simpa using hv) nd ct)
  | _, _, _, m + 1, d, d', b, o', @EnR.ow _ _ _ d0 b0 o0 es0 vs0 bs0 q r t, h, hv, nd, ct => by
    have h' := (show _ from h)
    rw [List.getElem?_cons_succ] at h'
    have hv' := (show _ from hv)
    rw [List.getElem?_cons_succ] at hv'
    obtain ⟨b2, o2, e1, e2, _, _⟩ := EnR.get t h'
    rw [hv'] at e1; cases e1
    exact .ow (by rw [upd_ne (show b0 ≠ b from fun z => (List.nodup_cons.mp nd).1 (by rw [z]; exact e2))]; exact q) r (EnR.put t h' hv' (List.nodup_cons.mp nd).2 ct)
end
structure NAt (c : Cf) (G : Hp) (S : Env) (σ : St) (H : Hp) (i : Nat) (n : Nd) : Prop where
  ex : ∃ a vs bs, σ[i]? = some (some (.ref a)) ∧ H a = some (n.k.ho vs) ∧ n.k.wf n.es.length ∧ EnR c.k G H n.es vs bs ∧ (a :: bs).Nodup ∧ ∀ x, x ∈ a :: bs → G x = none ∧ c.H0 x = none ∧ ∀ j, ¬ OwnAt S σ j x
section
variable {c : Cf} {G G' H H' : Hp} {S S' : Env} {σ σ' : St} {i : Nat} {n : Nd}
theorem NAt.all (a : NAt c G S σ H i n) : ∃ t vs bs, σ[i]? = some (some (.ref t)) ∧ H t = some (n.k.ho vs) ∧ n.k.wf n.es.length ∧ EnR c.k G H n.es vs bs ∧ (t :: bs).Nodup ∧ (∀ x, x ∈ t :: bs → G x = none ∧ c.H0 x = none ∧ ∀ j, ¬ OwnAt S σ j x) ∧ ∀ x, x ∈ t :: bs → ∃ o, H x = some o := by
  obtain ⟨t, vs, bs, h1, h2, h3, h4, h5, h6⟩ := a.ex
  refine ⟨t, vs, bs, h1, h2, h3, h4, h5, h6, fun x hx => ?_⟩
  rcases List.mem_cons.mp hx with rfl | hx
  · exact ⟨_, h2⟩
  · exact h4.live x hx
theorem NAt.grow (a : NAt c G S σ H i n) (s : Step G H G' H') : NAt c G' S σ H' i n := by
  obtain ⟨t, vs, bs, h1, h2, h3, h4, h5, h6, h7⟩ := a.all
  refine ⟨t, vs, bs, h1, s.h _ _ h2, h3, h4.keep s.g fun b hb => ?_, h5, fun x hx => ⟨?_, (h6 x hx).2⟩⟩
  · obtain ⟨o, e⟩ := h7 b (List.mem_cons_of_mem _ hb)
    rw [e, s.h _ _ e]
  · obtain ⟨o, e⟩ := h7 x hx
    cases q : G' x with
    | none => rfl
    | some u =>
      rcases s.gr x u q with z | z
      · rw [(h6 x hx).1] at z; cases z
      · rw [e] at z; cases z
noncomputable def Cf.at (c : Cf) (S : Env) (σ : St) (G H : Hp) : Cf := ⟨c.k, cut S σ H, G, c.W⟩
theorem Rel.reb (rel : Rel c G S σ H) : Rel (c.at S σ G H) G S σ H :=
  ⟨⟨Ex.refl _, fun a o h => (cut_of h).1, rel.st.gh, fun b o h => .inl h⟩, rel.len, rel.fz, fun i d q => by
    obtain ⟨a, o, e, g, h0, ho, ct⟩ := rel.ow i d q
    exact ⟨a, o, e, g, cut_own ⟨⟨d, q⟩, e⟩, ho, ct⟩, rel.nd⟩
theorem Rel.free_of (rel : Rel c G S σ H) {x : Addr} (h : cut S σ H x = none) : c.H0 x = none := by
  by_cases ow : ∃ i, OwnAt S σ i x
  · obtain ⟨i, ow⟩ := ow
    exact (rel.own ow).2.1
  · rw [cut_get (fun i q => ow ⟨i, q⟩)] at h
    exact rel.st.h.free h
theorem Rel.unreb (rel : Rel c G S σ H) (r2 : Rel (c.at S σ G H) G' S' σ' H') : Rel c G' S' σ' H' :=
  ⟨⟨rel.st.g.trans r2.st.g, fun b o h => r2.st.h b o (by
      show cut S σ H b = some o
      rw [cut_get (fun i ow => by rw [(rel.own ow).2.1] at h; cases h)]
      exact rel.st.h b o h), r2.st.gh, fun b o h => by
      rcases r2.st.gr b o h with z | z
      · exact rel.st.gr b o z
      · exact .inr (rel.free_of z)⟩, r2.len, r2.fz, fun i d q => by
    obtain ⟨a, o, e, g, h0, ho, ct⟩ := r2.ow i d q
    exact ⟨a, o, e, g, rel.free_of h0, ho, ct⟩, r2.nd⟩
theorem NAt.reb (rel : Rel c G S σ H) (a : NAt c G S σ H i n) (r2 : Rel (c.at S σ G H) G' S' σ' H') (hs : σ'[i]? = σ[i]?) : NAt c G' S' σ' H' i n := by
  obtain ⟨t, vs, bs, h1, h2, h3, h4, h5, h6, h7⟩ := a.all
  have keep : ∀ x, x ∈ t :: bs → H' x = H x ∧ cut S σ H x = H x := fun x hx => by
    obtain ⟨o, e⟩ := h7 x hx
    have ec : cut S σ H x = H x := cut_get (h6 x hx).2.2
    exact ⟨by rw [e]; exact r2.st.h x o (by show cut S σ H x = some o; rw [ec, e]), ec⟩
  refine ⟨t, vs, bs, by rw [hs]; exact h1, by rw [(keep t (by simp)).1]; exact h2, h3, h4.keep r2.st.g fun b hb => (keep b (List.mem_cons_of_mem _ hb)).1, h5, fun x hx => ?_⟩
  obtain ⟨o, e⟩ := h7 x hx
  have ec := (keep x hx).2
  refine ⟨?_, (h6 x hx).2.1, fun j ow => ?_⟩
  · cases q : G' x with
    | none => rfl
    | some u =>
      rcases r2.st.gr x u q with z | z
      · rw [show (c.at S σ G H).G0 x = G x from rfl, (h6 x hx).1] at z; cases z
      · rw [show (c.at S σ G H).H0 x = cut S σ H x from rfl, ec, e] at z; cases z
  · have := (r2.own ow).2.1
    rw [show (c.at S σ G H).H0 x = cut S σ H x from rfl, ec, e] at this; cases this
theorem Rel.blur (r : Rel c G S σ H) (i : Nat) (v : Option V) : Rel c G (S.set i none) (σ.set i v) H where
  st := r.st
  len := by rw [List.length_set, List.length_set]; exact r.len
  fz := fun j d' q => by
    by_cases hj : i = j
    · subst hj
      have hi : i < S.length := by have := (List.getElem?_eq_some_iff.mp q).1; rwa [List.length_set] at this
      rw [List.getElem?_set_self hi] at q; cases q
    · rw [List.getElem?_set_ne hj] at q ⊢; exact r.fz j d' q
  ow := fun j d' q => by
    by_cases hj : i = j
    · subst hj
      have hi : i < S.length := by have := (List.getElem?_eq_some_iff.mp q).1; rwa [List.length_set] at this
      rw [List.getElem?_set_self hi] at q; cases q
    · rw [List.getElem?_set_ne hj] at q ⊢; exact r.ow j d' q
  nd := fun j l b q1 q2 => by
    have back : ∀ {m : Nat}, OwnAt (S.set i none) (σ.set i v) m b → OwnAt S σ m b := fun {m} hm => by
      obtain ⟨⟨d', q⟩, z⟩ := hm
      by_cases hj : i = m
      · subst hj
        have hi : i < S.length := by have := (List.getElem?_eq_some_iff.mp q).1; rwa [List.length_set] at this
        rw [List.getElem?_set_self hi] at q; cases q
      · rw [List.getElem?_set_ne hj] at q z; exact ⟨⟨d', q⟩, z⟩
    exact r.nd j l b (back q1) (back q2)
theorem own_blur {v : Option V} {j : Nat} {x : Addr} (ow : OwnAt (S.set i none) (σ.set i v) j x) : OwnAt S σ j x ∧ j ≠ i := by
  obtain ⟨⟨d', q⟩, z⟩ := ow
  by_cases hj : i = j
  · subst hj
    have hi : i < S.length := by have := (List.getElem?_eq_some_iff.mp q).1; rwa [List.length_set] at this
    rw [List.getElem?_set_self hi] at q; cases q
  · rw [List.getElem?_set_ne hj] at q z; exact ⟨⟨⟨d', q⟩, z⟩, fun z => hj z.symm⟩
theorem Rel.upd_free (r : Rel c G S σ H) {b : Addr} {o : HO} (hg : G b = none) (h0 : c.H0 b = none) (hn : ∀ j, ¬ OwnAt S σ j b) : Rel c G S σ (upd H b o) where
  st := ⟨r.st.g, fun x u q => by rw [upd_ne (ne_of_none q h0)]; exact r.st.h x u q, fun x u q => by rw [upd_ne (ne_of_none q hg)]; exact r.st.gh x u q, r.st.gr⟩
  len := r.len
  fz := r.fz
  ow := fun j d q => by
    obtain ⟨a, u, e, g, h0', ho, ct⟩ := r.ow j d q
    exact ⟨a, u, e, g, h0', by rw [upd_ne (show a ≠ b from fun z => hn j (by rw [← z]; exact ⟨⟨d, q⟩, e⟩))]; exact ho, ct⟩
  nd := r.nd
theorem Frm.upd_free {b : Addr} {o : HO} (hn : ∀ j, ¬ OwnAt S σ j b) : Frm [] S σ H S σ (upd H b o) :=
  ⟨rfl, fun _ _ => rfl, fun _ _ _ => rfl, fun j a _ _ ow => upd_ne (show a ≠ b from fun z => hn j (by rw [← z]; exact ow))⟩
theorem Rel.frzB (r : Rel c G S σ H) {b : Addr} {o : HO} (h : H b = some o) (hg : G b = none) (h0 : c.H0 b = none) (hn : ∀ j, ¬ OwnAt S σ j b) : Rel c (upd G b o) S σ H where
  st := r.st.frz h h0 hg
  len := r.len
  fz := fun j d q => let ⟨v, e, z⟩ := r.fz j d q; ⟨v, e, z.mono (Ex.new hg)⟩
  ow := fun j d q => by
    obtain ⟨a, u, e, g, h0', ho, ct⟩ := r.ow j d q
    exact ⟨a, u, e, by rw [upd_ne (show a ≠ b from fun z => hn j (by rw [← z]; exact ⟨⟨d, q⟩, e⟩))]; exact g, h0', ho, ct.mono (Ex.new hg)⟩
  nd := r.nd
theorem EnR.frz : ∀ {es : List (Bool × D)} {vs : List V} {bs : List Addr} {G : Hp}, Rel c G S σ H → EnR c.k G H es vs bs → bs.Nodup → (∀ x, x ∈ bs → G x = none ∧ c.H0 x = none ∧ ∀ j, ¬ OwnAt S σ j x) →
    ∃ G', Ex G G' ∧ Rel c G' S σ H ∧ RDs c.k G' (es.map (·.2)) vs ∧ ∀ x, x ∉ bs → G' x = G x
  | _, _, _, G, rel, .nil, _, _ => ⟨G, Ex.refl _, rel, .nil, fun _ _ => rfl⟩
  | _, _, _, G, rel, .st r t, nd, h => by
    obtain ⟨G', e, rel', rr, k⟩ := EnR.frz rel t nd h
    exact ⟨G', e, rel', .cons (r.mono e) rr, k⟩
  | _, _, _, G, rel, @EnR.ow _ _ _ d b o es vs bs q r t, nd, h => by
    obtain ⟨hg, h0, hn⟩ := h b (by simp)
    have nd2 := List.nodup_cons.mp nd
    have rel1 := rel.frzB q hg h0 hn
    have ex1 : Ex G (upd G b o) := Ex.new hg
    have t1 : EnR c.k (upd G b o) H es vs bs := t.keep ex1 fun _ _ => rfl
    obtain ⟨G', e, rel', rr, k⟩ := EnR.frz rel1 t1 nd2.2 fun x hx => by
      obtain ⟨z1, z2, z3⟩ := h x (List.mem_cons_of_mem _ hx)
      exact ⟨by rw [upd_ne (show x ≠ b from fun z => nd2.1 (by rw [← z]; exact hx))]; exact z1, z2, z3⟩
    refine ⟨G', ex1.trans e, rel', .cons ((r.mono (ex1.trans e)).rd (e _ _ upd_same)) rr, fun x hx => ?_⟩
    rw [k x (fun z => hx (List.mem_cons_of_mem _ z)), upd_ne fun z => hx (by rw [z]; exact List.mem_cons_self ..)]
theorem NAt.leave (rel : Rel c G S σ H) (hS : S[i]? = some none) (a : NAt c G S σ H i n) : ∃ G', Ex G G' ∧ Rel c G' (S.set i (some ⟨true, n.d⟩)) σ H := by
  obtain ⟨t, vs, bs, h1, h2, h3, h4, h5, h6⟩ := a.ex
  have nd2 := List.nodup_cons.mp h5
  obtain ⟨G', e, rel', rr, kp⟩ := h4.frz rel nd2.2 fun x hx => h6 x (List.mem_cons_of_mem _ hx)
  have ct : Cont c.k G' n.d (n.k.ho vs) := by
    unfold Nd.d NK.ho
    unfold NK.wf at h3
    cases hk : n.k with
    | dic ks => rw [hk] at h3; exact .dic (by rw [List.length_map]; exact h3) rr
    | lst => exact .lst rr
  have es : σ.set i (some (.ref t)) = σ := by
    apply List.ext_getElem?
    intro j
    by_cases hj : i = j
    · subst hj; rw [List.getElem?_set_self (List.getElem?_eq_some_iff.mp h1).1, h1]
    · rw [List.getElem?_set_ne hj]
  have z := rel'.setO (H' := H) i h2 (by rw [kp t nd2.1]; exact (h6 t (by simp)).1) (h6 t (by simp)).2.1 ct (fun j ow => ((h6 t (by simp)).2.2 j ow).elim) (fun _ _ => rfl)
  rw [es] at z
  exact ⟨G', e, z⟩
end
abbrev FN := Env → Nd → R (Env × Nd)
def PostNs (c : Cf) (as : List Nat) (i : Nat) (G : Hp) (S : Env) (σ : St) (H : Hp) (Dn : Ends) : R (Env × Nd) → Prop
  | .ok z => ∀ G' σ' H', Ex G G' → Rel c G' z.1 σ' H' → z.1[i]? = some none → NAt c G' z.1 σ' H' i z.2 → Frm as S σ H z.1 σ' H' → Dn.nx σ' H'
  | _ => False
def RdNs (c : Cf) (as : List Nat) (i : Nat) (f : FN) : TS := fun Dn σ H => ∃ G S n, Rel c G S σ H ∧ S[i]? = some none ∧ NAt c G S σ H i n ∧ PostNs c as i G S σ H Dn (f S n)
abbrev PSN (X : Cx) (c : Cf) (as : List Nat) (i : Nat) (st : Stmt) (f : FN) : Prop := PS X st (RdNs c as i f)
abbrev PBN (X : Cx) (c : Cf) (as : List Nat) (i : Nat) (sts : List Stmt) (f : FN) : Prop := PSs X sts (RdNs c as i f)
abbrev FNR := Env → Nd → R (Fl × Env)
def RdNR (c : Cf) (fr : Bool) (as : List Nat) (i : Nat) (f : FNR) : TS := fun Dn σ H => ∃ G S n, Rel c G S σ H ∧ S[i]? = some none ∧ NAt c G S σ H i n ∧ PostS c fr as G S σ H Dn (f S n)
abbrev PBR (X : Cx) (c : Cf) (fr : Bool) (as : List Nat) (i : Nat) (sts : List Stmt) (f : FNR) : Prop := PSs X sts (RdNR c fr as i f)
def PostEn (c : Cf) (i : Nat) (G : Hp) (S : Env) (σ : St) (H : Hp) (Dn : Ends) : R Nd → Prop
  | .ok n => ∀ G' σ' H', Ex G G' → Rel c G' (S.set i none) σ' H' → NAt c G' (S.set i none) σ' H' i n → Frm [i] S σ H (S.set i none) σ' H' → Dn.nx σ' H'
  | _ => False
def RdEn (c : Cf) (i : Nat) (f : Env → R Nd) : TS := fun Dn σ H => ∃ G S, Rel c G S σ H ∧ PostEn c i G S σ H Dn (f S)
abbrev PSE (X : Cx) (c : Cf) (i : Nat) (st : Stmt) (f : Env → R Nd) : Prop := PS X st (RdEn c i f)
section
variable {X : Cx} {c : Cf} {kd k1 k2 k3 : Kd} {a b e kx : Expr} {f g h : FE} {t u : FT} {pos apos cpos spos p' : Pos} {fr : Bool} {as bs : List Nat} {s r : FS} {F F1 F2 : FN} {Z : FNR} {st : Stmt} {sts : List Stmt} {x : Str} {i : Nat}
theorem PostNs.mv {G G' H H' : Hp} {S S' : Env} {σ σ' : St} {Dn : Ends} {q : R (Env × Nd)} (hg : Ex G G') (fm : Frm as S σ H S' σ' H') (p : PostNs c (as ++ bs) i G S σ H Dn q) : PostNs c bs i G' S' σ' H' Dn q := by
  cases q with
  | ok z => exact fun G2 σ2 H2 e r2 h2 n2 f2 => p G2 σ2 H2 (hg.trans e) r2 h2 n2 (fm.trans f2)
  | exc x => exact p
  | fail => exact p
theorem PostNs.sub {as' : List Nat} {G H : Hp} {S : Env} {σ : St} {Dn : Ends} {q : R (Env × Nd)} (hs : ∀ i, i ∈ as' → i ∈ as) (p : PostNs c as i G S σ H Dn q) : PostNs c as' i G S σ H Dn q := by
  cases q with
  | ok z => exact fun G2 σ2 H2 e r2 h2 n2 f2 => p G2 σ2 H2 e r2 h2 n2 (f2.mono hs)
  | exc x => exact p
  | fail => exact p
theorem PostNs.gr {G H G' H' : Hp} {S : Env} {σ : St} {Dn : Ends} {q : R (Env × Nd)} (rel : Rel c G S σ H) (sp : Step G H G' H') (p : PostNs c as i G S σ H Dn q) : PostNs c as i G' S σ H' Dn q :=
  PostNs.mv (as := []) (bs := as) sp.g (Frm.step rel sp) p
def nNil : FN := fun S n => .ok (S, n)
theorem n_nil : PBN X c [] i [] nNil := pssI pss_nil fun Dn σ H ⟨G, S, n, rel, hS, na, p⟩ => p G σ H (Ex.refl _) rel hS na (Frm.refl _ _ _ _)
theorem n_one (h1 : PSN X c as i st F) : PBN X c as i [st] F := pss_one h1
def nEnd (i : Nat) (r : FS) : FNR := fun S n => r (S.set i (some ⟨true, n.d⟩))
theorem r_end (h : PB' X c fr as sts r) : PBR X c fr (i :: as) i sts (nEnd i r) :=
  pssI h fun Dn σ H ⟨G, S, n, rel, hS, na, p⟩ => by
    obtain ⟨G', ex, rel'⟩ := na.leave rel hS
    refine ⟨G', _, rel', PostS.mv (as := [i]) (bs := as) ex ⟨rfl, fun _ _ => rfl, fun j hj _ => ?_, fun _ _ _ _ _ => rfl⟩ (fun j q => by simpa using q) p⟩
    exact List.getElem?_set_ne (fun z => hj (by simp [z]))
def nThen (f : FN) (z : FNR) : FNR := fun S n => (f S n).nox >>= fun y => z y.1 y.2
theorem r_cons (h1 : PSN X c as i st F) (h2 : PBR X c fr bs i sts Z) : PBR X c fr (as ++ bs) i (st :: sts) (nThen F Z) :=
  pssI (pss_cons h1 h2) fun Dn σ H ⟨G, S, n, rel, hS, na, p⟩ => ⟨G, S, n, rel, hS, na, by
    have p : PostS c fr (as ++ bs) G S σ H Dn ((F S n).nox >>= fun z => Z z.1 z.2) := p
    cases e1 : F S n with
    | exc x => rw [e1] at p; exact p.elim
    | fail => rw [e1] at p; exact p.elim
    | ok z =>
      rw [e1] at p
      exact fun G1 σ1 H1 ex r1 h1 n1 f1 => ⟨G1, z.1, z.2, r1, h1, n1, PostS.mv (as := as) (bs := bs) ex f1 (fun i => List.mem_append.mp) p⟩⟩
end
end M
set_option Elab.async false
set_option linter.all false
set_option maxRecDepth 100000
set_option maxHeartbeats 4000000
namespace M
open PySem L2
section
variable {X : Cx} {c : Cf} {kd k1 k2 k3 : Kd} {a b e kx : Expr} {f g h : FE} {t u : FT} {pos apos cpos spos p' : Pos} {fr : Bool} {as bs : List Nat} {s r : FS} {F F1 F2 : FN} {Z : FNR} {st : Stmt} {sts : List Stmt} {x : Str} {i : Nat}
abbrev FTN := Env → Nd → R Bool
def RdTN (c : Cf) (i : Nat) (t : FTN) : TT := fun σ H Q => ∃ G S n, Rel c G S σ H ∧ S[i]? = some none ∧ NAt c G S σ H i n ∧ PostT c G S σ H Q (t S n)
abbrev PTN (X : Cx) (c : Cf) (i : Nat) (e : Expr) (t : FTN) : Prop := PT X e (RdTN c i t)
def posK {κ : Type} [DecidableEq κ] : List κ → κ → Option Nat
  | [], _ => none
  | k :: ks, q => if k = q then some 0 else (posK ks q).map (· + 1)
theorem valV_e2 {κ : Type} [DecidableEq κ] {k q : κ} {v : V} {r : List (κ × V)} (e : ¬ k = q) : valV ((k, v) :: r) q = valV r q := by unfold valV; rw [List.find?_cons]; simp [e]
theorem valV_in {κ : Type} [DecidableEq κ] {q : κ} : ∀ {ks : List κ} {vs : List V}, ks.length = vs.length → (valV (ks.zip vs) q).isSome = (posK ks q).isSome
  | [], _, _ => by simp [valV, posK]
  | k :: ks, [], h => by simp at h
  | k :: ks, v :: vs, h => by
    have ih := valV_in (q := q) (ks := ks) (vs := vs) (by simpa using h)
    rw [List.zip_cons_cons]
    unfold posK
    by_cases e : k = q
    · rw [valV_pos e, if_pos e]; rfl
    · rw [valV_e2 e, ih, if_neg e]; simp
theorem valV_idx {κ : Type} [DecidableEq κ] {q : κ} : ∀ {ks : List κ} {vs : List V} {m : Nat}, ks.length = vs.length → posK ks q = some m → valV (ks.zip vs) q = vs[m]?
  | [], _, m, _, h => by simp [posK] at h
  | k :: ks, [], m, h, _ => by simp at h
  | k :: ks, v :: vs, m, h, hm => by
    rw [List.zip_cons_cons]
    unfold posK at hm
    by_cases e : k = q
    · rw [valV_pos e]
      rw [if_pos e] at hm
      cases hm; rfl
    · rw [valV_e2 e]
      rw [if_neg e] at hm
      obtain ⟨m', h1, rfl⟩ := Option.map_eq_some_iff.mp hm
      rw [List.getElem?_cons_succ]
      exact valV_idx (by simpa using h) h1
def tnIn (f : FE) : FTN := fun S n => f S >>= fun y => match n.k with
  | .dic ks => (match keyD y with
    | some q => .ok (posK ks q).isSome
    | none => .fail)
  | .lst => .fail
theorem tn_in (hu : X.A.units + 64 < cLine) (hk : PE' X c k1 kx f) (hN : X.N[i]? = some x := by rfl) (hv : Vis X.env.scope x := by first | exact Or.inl rfl | exact Or.inr (Or.inl rfl) | exact Or.inr (Or.inr rfl)) (hd : (x == ("__debug__" : Str)) = false := by decide)
    (hcd : (x == ("__classdict__" : Str)) = false := by decide) (hm : behindInMarks .In (.Name x p') = false := by rfl) : PTN X c i (.Compare kx [.In] [.Name x p'] pos) (tnIn f) :=
  ptI (pt_cmpR (op_dctIn (by omega)) hk (pe_var hN hv hd hcd) hm) fun σ H Q ⟨G, S, n, rel, hS, na, p⟩ => by
    refine rdE_go (g := fun y => match n.k with
      | .dic ks => (match keyD y with
        | some q => .ok (posK ks q).isSome
        | none => .fail)
      | .lst => .fail) (Post := PostT c G S σ H Q) rel p (fun _ z => z) (fun z => z) fun y v G1 H1 s1 q1 p1 => ?_
    obtain ⟨t, vs, bs, h1, h2, h3, h4, h5, h6, h7⟩ := (na.grow s1).all
    cases hk : n.k with
    | lst => rw [hk] at p1; exact p1.elim
    | dic ks =>
      rw [hk] at p1 h2 h3
      dsimp only at p1
      cases hq : keyD y with
      | none => rw [hq] at p1; exact p1.elim
      | some q =>
        rw [hq] at p1
        obtain rfl := keyD_now hq q1.now
        refine ⟨_, h1, t, _, rfl, DGet.k h2, _, rfl, ?_⟩
        rw [valV_in ((show ks.length = n.es.length from h3).trans h4.len)]
        exact p1 G1 H1 s1
def nIf (t : FTN) (f g : FN) : FN := fun S n => t S n >>= fun b => if b then f S n else g S n
theorem n_if {cc : Expr} {aa bb : List Stmt} {tn : FTN} (hc : PTN X c i cc tn) (ha : PBN X c as i aa F) (hb : PBN X c bs i bb F1) : PSN X c (as ++ bs) i (.If cc aa bb pos) (nIf tn F F1) :=
  psI (ps_if hc ha hb) fun Dn σ H ⟨G, S, n, rel, hS, na, p⟩ => by
    refine ⟨G, S, n, rel, hS, na, ?_⟩
    have p : PostNs c (as ++ bs) i G S σ H Dn (tn S n >>= fun b => if b then F S n else F1 S n) := p
    cases e1 : tn S n with
    | exc x => rw [e1] at p; exact p.elim
    | fail => rw [e1] at p; exact p.elim
    | ok b =>
      rw [e1] at p
      intro G' H' sp
      cases b with
      | true => exact ⟨G', S, n, rel.grow sp, hS, na.grow sp, PostNs.sub (fun i q => List.mem_append_left _ q) (PostNs.gr rel sp p)⟩
      | false => exact ⟨G', S, n, rel.grow sp, hS, na.grow sp, PostNs.sub (fun i q => List.mem_append_right _ q) (PostNs.gr rel sp p)⟩
def NK.at (k : NK) (y : D) : Option Nat := match k with
  | .dic ks => (keyD y).bind fun q => posK ks q
  | .lst => none
def nApp (f g : FE) : FN := fun S n => f S >>= fun y => match n.k.at y with
  | none => .fail
  | some m => (match n.es[m]? with
    | some (true, .lst ds) => g S >>= fun d => if ds.length < sizeLine then .ok (S, ⟨n.k, n.es.set m (true, .lst (ds ++ [d]))⟩) else .fail
    | _ => .fail)
theorem n_app {sp : Pos} (hu : X.A.units + 64 < cLine) (hk : PE' X c k1 kx f) (he : PE' X c .st e g) (hN : X.N[i]? = some x := by rfl) (hv : Vis X.env.scope x := by first | exact Or.inl rfl | exact Or.inr (Or.inl rfl) | exact Or.inr (Or.inr rfl)) (hd : (x == ("__debug__" : Str)) = false := by decide)
    (hcd : (x == ("__classdict__" : Str)) = false := by decide) (hi : PlainIx kx := by exact fun _ _ => rfl) (h2 : (apos.endLine == cpos.line) = true := by rfl) (h3 : starEach [e] X.env = [(false, eval e X.env)] := by rfl)
    (hb : attributeBase (.Subscript (.Name x p') kx sp) "append" X.env (eval (.Subscript (.Name x p') kx sp) X.env) = eval (.Subscript (.Name x p') kx sp) X.env := by rfl)
    (hs : swapsWith (.Call (.Attribute (.Subscript (.Name x p') kx sp) "append" apos) [e] [] cpos) none pos.line X.env = pure false := by rfl) :
    PSN X c [] i (.Expr (.Call (.Attribute (.Subscript (.Name x p') kx sp) "append" apos) [e] [] cpos) pos) (nApp f g) :=
  psI (ps_expr (pe_bm PySem.F.plainAttrs_list PySem.F.slot_list_append PySem.F.type_list_append mt_append (pe_ix (ix_dct (by omega)) (pe_var hN hv hd hcd) hk hi) (pa_cons he pa_nil h3) hb (by rw [h3]; rfl) h2 h3 rfl) hs) fun Dn σ H ⟨G, S, n, rel, hS, na, p⟩ => by
    have p : PostNs c [] i G S σ H Dn (f S >>= fun y => match n.k.at y with
      | none => .fail
      | some m => (match n.es[m]? with
        | some (true, .lst ds) => g S >>= fun d => if ds.length < sizeLine then .ok (S, ⟨n.k, n.es.set m (true, .lst (ds ++ [d]))⟩) else .fail
        | _ => .fail)) := p
    obtain ⟨t, vs, bs, h1, _⟩ := na.all
    refine ⟨_, h1, ?_⟩
    refine rdE_go (Post := PostNs c [] i G S σ H Dn) rel p (fun _ z => z.elim) (fun z => z) fun y v G1 H1 s1 q1 p1 => ?_
    have na1 := na.grow s1
    have rel1 := rel.grow s1
    obtain ⟨t2, vs, bs, h1', h2, h3', h4, h5, h6, h7⟩ := na1.all
    rw [h1] at h1'; cases h1'
    cases hm : n.k.at y with
    | none => rw [hm] at p1; exact p1.elim
    | some m =>
      rw [hm] at p1
      dsimp only at p1
      cases hk2 : n.k with
      | lst => rw [hk2] at hm; cases hm
      | dic ks =>
        rw [hk2] at hm h2 h3'
        obtain ⟨q, hq, hidx⟩ := Option.bind_eq_some_iff.mp hm
        obtain rfl := keyD_now hq q1.now
        have hlen : ks.length = vs.length := (show ks.length = n.es.length from h3').trans h4.len
        split at p1
        · rename_i ds hes
          obtain ⟨b, o, e1, e2, e3, e4⟩ := h4.get hes
          refine ⟨t, .ref b, rfl, ?_, ?_⟩
          · have := DGet.k (k := q) h2
            rw [valV_idx hlen hidx, e1] at this
            exact this
          cases e4 with
          | @lst ds' ws rr =>
            refine ⟨.inl ⟨rfl, ws, SqL.of e3⟩, ?_⟩
            refine rdE_go (g := fun d => if ds.length < sizeLine then .ok (S, (⟨n.k, n.es.set m (true, .lst (ds ++ [d]))⟩ : Nd)) else .fail) (Post := PostNs c [] i G S σ H Dn) rel1 p1 (fun _ z => z.elim) (fun z => z) fun d v2 G2 H2 s2 q2 p2 => ?_
            by_cases hl : ds.length < sizeLine
            · rw [if_pos hl] at p2
              have nd2 := List.nodup_cons.mp h5
              have htb : t ≠ b := fun z => nd2.1 (by rw [z]; exact e2)
              obtain ⟨b1, b2, b3⟩ := h6 b (List.mem_cons_of_mem _ e2)
              have sp := s1.trans s2
              have rel2 := rel.grow sp
              obtain ⟨t3, vs3, bs3, g1, g2, g3, g4, g5, g6, g7⟩ := (na.grow sp).all
              have hb2 : H2 b = some (.lst ws) := s2.h _ _ e3
              have gb : G2 b = none := by
                cases z : G2 b with
                | none => rfl
                | some u =>
                  rcases s2.gr b u z with w | w
                  · rw [b1] at w; cases w
                  · rw [e3] at w; cases w
              have g2 : ∀ z, z ∈ t :: bs → G2 z = none := fun z hz => by
                obtain ⟨o, ho⟩ := h7 z hz
                cases q : G2 z with
                | none => rfl
                | some u =>
                  rcases s2.gr z u q with w | w
                  · rw [(h6 z hz).1] at w; cases w
                  · rw [ho] at w; cases w
              have en : EnR c.k G2 H2 n.es vs bs := h4.keep s2.g fun z hz => by
                obtain ⟨o, ho⟩ := h7 z (List.mem_cons_of_mem _ hz)
                rw [ho, s2.h _ _ ho]
              have en2 := EnR.put (d' := .lst (ds ++ [d])) (o' := .lst (ws ++ [v2])) en hes e1 nd2.2 (.lst ((rr.mono s2.g).append (.cons q2 .nil)))
              refine ⟨b, ws, v2, rfl, rfl, hb2, by rw [← rr.length]; exact hl, ?_⟩
              refine p2 G2 σ _ sp.g (rel2.upd_free gb b2 b3) hS ⟨t, vs, bs, h1, ?_, ?_, en2, h5, fun z hz => ⟨g2 z hz, (h6 z hz).2⟩⟩ (((Frm.step (as := []) rel sp).trans (Frm.upd_free (S := S) (σ := σ) (H := H2) b3)).mono fun j q => by simpa using q)
              · rw [upd_ne htb, hk2]; exact s2.h _ _ h2
              · rw [hk2, List.length_set]; exact h3'
            · rw [if_neg hl] at p2; exact p2.elim
        · exact p1.elim
def nForF (g : FG) (f : FN) : List D → FN
  | [] => fun S n => .ok (S, n)
  | d :: ds => fun S n => (g d S).nox >>= fun S1 => f S1 n >>= fun z => nForF g f ds z.1 z.2
def nFor (fi : FI) (g : FG) (f : FN) : FN := fun S n => (fi S).nox >>= fun ds => nForF g f ds S n
theorem n_for {tg iter : Expr} {body : List Stmt} {gs : List Nat} {fi : FI} {ga : FG} (hp : PassesOwn (model X.prog X.w) X.A X.env X.xe) (hc : X.calm = true) (hi : PI' X c [] tg iter fi) (hg : ∀ H0 G0, PG' X ⟨c.k, H0, G0, c.W⟩ gs tg ga) (hb : PBN X c as i body F)
    (hgi : i ∉ gs := by decide) (hgi2 : i + 1000 ∉ gs := by decide) (hs : ∀ x, foldedSetIterable iter X.env x = pure x := by intro _; rfl) : PSN X c (gs ++ as) i (.For tg iter body [] pos) (nFor fi ga F) := by
  refine psI (ps_for (g := fun v σ H Q => ∃ H0 G0, RdG ⟨c.k, H0, G0, c.W⟩ gs ga v σ H Q) hp hc hi ⟨fun pins s σ H v u Q I r ⟨H0, G0, q⟩ => (hg H0 G0).run pins s σ H v u Q I r q⟩ hb hs) fun Dn σ H ⟨G, S, n, rel, hS, na, p⟩ => ?_
  refine ⟨G, S, rel, ?_⟩
  have p : PostNs c (gs ++ as) i G S σ H Dn ((fi S).nox >>= fun ds => nForF ga F ds S n) := p
  cases e0 : fi S with
  | exc x => rw [e0] at p; exact p.elim
  | fail => rw [e0] at p; exact p.elim
  | ok ds =>
    rw [e0] at p
    have p : PostNs c (gs ++ as) i G S σ H Dn (nForF ga F ds S n) := p
    intro J G0 H0 sp it
    refine ⟨fun j m σ1 H1 => m = ds.length - j ∧ j ≤ ds.length ∧ ∃ G1 S1 n1, Rel c G1 S1 σ1 H1 ∧ S1[i]? = some none ∧ NAt c G1 S1 σ1 H1 i n1 ∧ Ex G0 G1 ∧ Frm (gs ++ as) S σ H0 S1 σ1 H1 ∧ PostNs c (gs ++ as) i G S σ H Dn (nForF ga F (ds.drop j) S1 n1),
      ⟨_, rfl, Nat.zero_le _, G0, S, n, rel.grow sp, hS, na.grow sp, Ex.refl _, Frm.refl _ _ _ _, by simpa using p⟩, ?_⟩
    rintro j m σ1 H1 ⟨rfl, hle, G1, S1, n1, r1, hS1, na1, ex1, f1, p1⟩
    have itm := it G1 H1 ex1 r1.st.gh (fun j hj => by cases hj)
    have fm : Frm (gs ++ as) S σ H S1 σ1 H1 := ((Frm.step (as := []) rel sp).trans f1).mono (fun i q => by simpa using q)
    by_cases hlt : j < ds.length
    · obtain ⟨d, hd⟩ : ∃ d, ds[j]? = some d := ⟨ds[j], List.getElem?_eq_getElem hlt⟩
      have hdrop : ds.drop j = d :: ds.drop (j + 1) := by
        rw [List.drop_eq_getElem_cons hlt]; congr 1; rw [List.getElem?_eq_getElem hlt] at hd; exact Option.some.inj hd
      rw [hdrop] at p1
      obtain ⟨hgo, hy⟩ := itm.2 j d hd
      refine .inr ⟨hgo, fun σ' H' => ∃ G3 S3 n3, Rel c G3 S3 σ' H' ∧ S3[i]? = some none ∧ NAt c G3 S3 σ' H' i n3 ∧ Ex G0 G3 ∧ Frm (gs ++ as) S σ H0 S3 σ' H' ∧ PostNs c (gs ++ as) i G S σ H Dn (nForF ga F (ds.drop (j + 1)) S3 n3), fun σ' H' q => ⟨ds.length - (j + 1), by omega, rfl, hlt, q⟩, fun x H2 hx => ?_⟩
      obtain ⟨G2, sp2, hd2⟩ := hy x H2 hx
      have r2 := r1.grow sp2
      have na2 := na1.grow sp2
      refine ⟨cut S1 σ1 H2, G2, G2, S1, d, r2.reb, hd2, ?_⟩
      have p1 : PostNs c (gs ++ as) i G S σ H Dn ((ga d S1).nox >>= fun S2 => F S2 n1 >>= fun z => nForF ga F (ds.drop (j + 1)) z.1 z.2) := p1
      cases e1 : ga d S1 with
      | exc x => rw [e1] at p1; exact p1.elim
      | fail => rw [e1] at p1; exact p1.elim
      | ok S2 =>
        rw [e1] at p1
        have p1 : PostNs c (gs ++ as) i G S σ H Dn (F S2 n1 >>= fun z => nForF ga F (ds.drop (j + 1)) z.1 z.2) := p1
        intro G3 σ3 H3 e3 r3 f3
        have f03 : Frm (gs ++ as) S σ H0 S2 σ3 H3 := (f1.trans ((Frm.step (as := []) r1 sp2).trans f3)).mono (fun i q => by simp only [List.mem_append, List.not_mem_nil, false_or] at q ⊢; rcases q with q | q; exact q; exact .inl q)
        have g03 : Ex G0 G3 := (ex1.trans sp2.g).trans e3.g
        refine ⟨G3, S2, n1, r2.unreb r3, by rw [f3.sl i hgi hgi2]; exact hS1, na2.reb r2 r3 (f3.sg i hgi), ?_⟩
        cases e2 : F S2 n1 with
        | exc x => rw [e2] at p1; exact p1.elim
        | fail => rw [e2] at p1; exact p1.elim
        | ok z =>
          rw [e2] at p1
          exact fun G4 σ4 H4 e4 r4 h4 n4 f4 => ⟨G4, z.1, z.2, r4, h4, n4, g03.trans e4, (f03.trans f4).mono (fun i q => by simp only [List.mem_append] at q ⊢; rcases q with q | q; exact q; exact .inr q), p1⟩
    · have hj : j = ds.length := by omega
      subst hj
      rw [List.drop_length] at p1
      exact .inl ⟨itm.1 _ (Nat.le_refl _), p1 G1 σ1 H1 (sp.g.trans ex1) r1 hS1 na1 fm⟩
end
end M
set_option Elab.async false
set_option linter.all false
set_option maxRecDepth 100000
set_option maxHeartbeats 4000000
namespace M
open PySem L2 PySem.Spec PyProof.Rows
section
variable {k : Kn} {G H : Hp}
theorem EnR.snoc {d : D} {b : Addr} {o : HO} (q : H b = some o) (r : Cont k G d o) : ∀ {es : List (Bool × D)} {vs : List V} {bs : List Addr}, EnR k G H es vs bs → EnR k G H (es ++ [(true, d)]) (vs ++ [.ref b]) (bs ++ [b])
  | _, _, _, .nil => .ow q r .nil
  | _, _, _, .st a t => .st a (EnR.snoc q r t)
  | _, _, _, .ow a b t => .ow a b (EnR.snoc q r t)
theorem putK_new {kvs : List (Key × V)} {q : Key} {v : V} (h : ∀ p ∈ kvs, p.1 ≠ q) : putK kvs q v = kvs ++ [(q, v)] := by
  unfold putK
  rw [if_neg]
  simp only [List.any_eq_true, decide_eq_true_eq, not_exists, not_and]
  exact fun p hp => h p hp
end
section
variable {X : Cx} {c : Cf} {kd k1 k2 k3 : Kd} {a b e kx : Expr} {f g h : FE} {t u : FT} {pos apos cpos spos p' : Pos} {fr : Bool} {as bs : List Nat} {s r : FS} {F F1 F2 : FN} {Z : FNR} {st : Stmt} {sts : List Stmt} {x : Str} {i : Nat}
def sNest (f : Env → R Nd) (i : Nat) (z : FNR) : FS := fun S => (f S).nox >>= fun n => z (S.set i none) n
theorem b_nest {f : Env → R Nd} (h1 : PSE X c i st f) (h2 : PBR X c fr as i sts Z) : PB' X c fr (i :: as) (st :: sts) (sNest f i Z) :=
  pssI (pss_cons h1 h2) fun Dn σ H ⟨G, S, rel, p⟩ => ⟨G, S, rel, by
    have p : PostS c fr (i :: as) G S σ H Dn ((f S).nox >>= fun n => Z (S.set i none) n) := p
    cases e1 : f S with
    | exc x => rw [e1] at p; exact p.elim
    | fail => rw [e1] at p; exact p.elim
    | ok n =>
      rw [e1] at p
      intro G1 σ1 H1 ex r1 n1 f1
      refine ⟨G1, S.set i none, n, r1, ?_, n1, PostS.mv (as := [i]) (bs := as) ex f1 (fun i => by simp) p⟩
      obtain ⟨t, vs, bs, h1, _⟩ := n1.ex
      have hl := (List.getElem?_eq_some_iff.mp h1).1
      rw [← r1.len, List.length_set] at hl
      exact List.getElem?_set_self hl⟩
def tNewL : TE := fun σ H Q => ∀ q, H q = none → Q (.ref q) (upd H q (.lst []))
theorem pe_newL : PE X (.List [] pos) tNewL := peI (pe_lst pa_nil) fun σ H Q h => ⟨Nat.zero_le _, h⟩
def nDcEnd (qs : List Key) (ps : List (D × D)) : R Nd := match keysOf dkK ps with
  | some rs => if (qs ++ rs.map (·.1)).Nodup ∧ (qs ++ rs.map (·.1)).length ≤ 900 then .ok ⟨.dic (qs ++ rs.map (·.1)), (qs ++ rs.map (·.1)).map fun _ => (true, .lst [])⟩ else .fail
  | none => .fail
def nDc (i : Nat) (fi : FI) (ga : FG) (t : FT) (fk : FE) (vs : List Nat) : Env → R Nd := fun S => if i < S.length then (fi S).nox >>= fun ds => dcF ga t fk eN (wipeS S vs) ds >>= fun ps => nDcEnd [] ps else .fail
theorem ndc_key {G H : Hp} {S : Env} {σ : L2.St} {Dn : Ends} {qs : List Key} {y : D} {ps : List (D × D)} (p : PostEn c i G S σ H Dn (nDcEnd qs ((y, .non) :: ps))) :
    ∃ q, keyD y = some q ∧ q ∉ qs ∧ qs.length < 901 ∧ PostEn c i G S σ H Dn (nDcEnd (qs ++ [q]) ps) := by
  unfold nDcEnd at p
  simp only [keysOf] at p
  cases e1 : dkK.key y with
  | none => rw [e1] at p; exact p.elim
  | some q =>
    cases e2 : keysOf dkK ps with
    | none => rw [e1, e2] at p; exact p.elim
    | some rs =>
      rw [e1, e2] at p
      have em : List.map (fun x : Key × D => x.1) ((q, D.non) :: rs) = q :: rs.map (·.1) := rfl
      dsimp only at p
      rw [em] at p
      by_cases hl : (qs ++ q :: rs.map (·.1)).Nodup ∧ (qs ++ q :: rs.map (·.1)).length ≤ 900
      · rw [if_pos hl] at p
        refine ⟨q, e1, ?_, by have := hl.2; rw [List.length_append] at this; omega, ?_⟩
        · intro hq
          exact (List.nodup_append.mp hl.1).2.2 q hq q (by simp) rfl
        unfold nDcEnd
        rw [e2]
        dsimp only
        have e : qs ++ [q] ++ rs.map (·.1) = qs ++ q :: rs.map (·.1) := by simp
        rw [e, if_pos hl]
        exact p
      · rw [if_neg hl] at p; exact p.elim
theorem ndc_go {ki gs vs : List Nat} {fi : FI} {ga : FG} {fk : FE} {σ : L2.St} {H : Hp} {Dn : Ends} {gi : TG} {tt : TT} {tk tv : TE} (hg : ∀ v σ H Q, RdG c.nx gs ga v σ H Q → gi v σ H Q) (ht : ∀ σ H Q, RdT c.nx t σ H Q → tt σ H Q)
    (hk : ∀ σ H Q, RdE c.nx .st fk σ H Q → tk σ H Q) (hv : ∀ σ H Q, tNewL σ H Q → tv σ H Q) (hgs : ∀ i, i ∈ gs → i ∈ vs) (q : RdEn c i (nDc i fi ga t fk vs) Dn σ H) : tAsg (tDcG dkK (RdI c ki fi) gi tt tk tv vs) (gName i) Dn σ H := by
  obtain ⟨G, S, rel, p⟩ := q
  refine ⟨G, S, rel, ?_⟩
  have p : PostEn c i G S σ H Dn (if i < S.length then (fi S).nox >>= fun ds => dcF ga t fk eN (wipeS S vs) ds >>= fun ps => nDcEnd [] ps else .fail) := p
  by_cases hiS : i < S.length
  case neg => rw [if_neg hiS] at p; exact p.elim
  rw [if_pos hiS] at p
  cases e0 : fi S with
  | exc x => rw [e0] at p; exact p.elim
  | fail => rw [e0] at p; exact p.elim
  | ok ds =>
    rw [e0, R.nox_ok, R.ok_bind] at p
    intro J G1 H1 sp it Dl hD
    have relb := ((rel.grow sp).wipe vs).cw (W := liftX E0)
    have hD0 : H Dl = none := sp.h.free hD
    refine ⟨fun j m H2 => m = ds.length - j ∧ j ≤ ds.length ∧ ∃ G2 qs bs, Step G1 H1 G2 H2 ∧ G2 Dl = none ∧ H2 Dl = some (.dK (qs.zip (bs.map V.ref))) ∧ qs.length = bs.length ∧ EnR c.k G2 H2 (qs.map fun _ => (true, .lst [])) (bs.map V.ref) bs ∧ (Dl :: bs).Nodup ∧ (∀ x, x ∈ bs → G2 x = none ∧ H1 x = none) ∧
        PostEn c i G S σ H Dn (dcF ga t fk eN (wipeS S vs) (ds.drop j) >>= fun ps => nDcEnd qs ps),
      ⟨_, rfl, Nat.zero_le _, G1, [], [], Step.new' sp.gh hD, sp.gh.free hD, upd_same, rfl, .nil, by simp, (fun x hx => by cases hx), by simpa using p⟩, ?_⟩
    rintro j m H2 ⟨rfl, hle, G2, qs, bs, sp2, hGD, hHD, hql, hen, hnd, hbs, p2⟩
    have rel2 : Rel c.nx G2 (wipeS S vs) (L2.wipe σ vs) H2 := relb.grow sp2
    have itm := it G2 H2 sp2.g sp2.gh fun j hj x ow => by
      obtain ⟨_, _, o, _, ho, _⟩ := (rel.grow sp).own ow
      rw [ho, sp2.h _ _ ho]
    have nD : ∀ {G6 H6 : Hp}, Step G2 H2 G6 H6 → G6 Dl = none ∧ H6 Dl = some (.dK (qs.zip (bs.map V.ref))) ∧ EnR c.k G6 H6 (qs.map fun _ => (true, .lst [])) (bs.map V.ref) bs ∧ ∀ x, x ∈ bs → G6 x = none ∧ H1 x = none := fun {G6 H6} z => by
      have fz : ∀ x o, G2 x = none → H2 x = some o → G6 x = none := fun x o h1 h2 => by
        cases q : G6 x with
        | none => rfl
        | some o2 =>
          rcases z.gr _ _ q with w | w
          · rw [h1] at w; cases w
          · rw [h2] at w; cases w
      refine ⟨fz _ _ hGD hHD, z.h _ _ hHD, hen.keep z.g fun b hb => ?_, fun x hx => ?_⟩
      · obtain ⟨o, e⟩ := hen.live b hb
        rw [e, z.h _ _ e]
      · obtain ⟨o, e⟩ := hen.live x hx
        exact ⟨fz _ _ (hbs x hx).1 e, (hbs x hx).2⟩
    by_cases hlt : j < ds.length
    · obtain ⟨d, hd⟩ : ∃ d, ds[j]? = some d := ⟨ds[j], List.getElem?_eq_getElem hlt⟩
      have hdrop : ds.drop j = d :: ds.drop (j + 1) := by
        rw [List.drop_eq_getElem_cons hlt]; congr 1; rw [List.getElem?_eq_getElem hlt] at hd; exact Option.some.inj hd
      rw [hdrop] at p2
      obtain ⟨hgo, hy⟩ := itm.2 j d hd
      refine .inr ⟨hgo, fun H' => ∃ G3 qs bs, Step G1 H1 G3 H' ∧ G3 Dl = none ∧ H' Dl = some (.dK (qs.zip (bs.map V.ref))) ∧ qs.length = bs.length ∧ EnR c.k G3 H' (qs.map fun _ => (true, .lst [])) (bs.map V.ref) bs ∧ (Dl :: bs).Nodup ∧ (∀ x, x ∈ bs → G3 x = none ∧ H1 x = none) ∧
        PostEn c i G S σ H Dn (dcF ga t fk eN (wipeS S vs) (ds.drop (j + 1)) >>= fun ps => nDcEnd qs ps), fun H' ⟨G3, r3⟩ => ⟨_, by omega, rfl, hlt, G3, r3⟩, fun x H3 hx => ?_⟩
      obtain ⟨G3, sp3, hd3⟩ := hy x H3 hx
      refine hg x _ H3 _ ⟨G3, wipeS S vs, d, rel2.grow sp3, hd3, ?_⟩
      unfold dcF at p2
      cases e1 : ga d (wipeS S vs) with
      | exc x => rw [e1] at p2; exact p2.elim
      | fail => rw [e1] at p2; exact p2.elim
      | ok S1 =>
        rw [e1, R.nox_ok, R.ok_bind] at p2
        intro G4 σ4 H4 sp4 rel4 f4
        refine ⟨wipe_eq (by rw [f4.len, wipe_length]) fun j hj => f4.sg j fun z => hj (hgs j z), ht σ4 H4 _ ⟨G4, S1, rel4, ?_⟩⟩
        cases e2 : t S1 with
        | exc x => rw [e2] at p2; exact p2.elim
        | fail => rw [e2] at p2; exact p2.elim
        | ok b =>
          rw [e2, R.nox_ok, R.ok_bind] at p2
          intro G5 H5 sp5
          have spA : Step G2 H2 G5 H5 := (sp3.trans sp4).trans sp5
          cases b with
          | false =>
            rw [if_neg Bool.false_ne_true] at p2 ⊢
            obtain ⟨z1, z2, z3, z4⟩ := nD spA
            exact ⟨G5, qs, bs, sp2.trans spA, z1, z2, hql, z3, hnd, z4, p2⟩
          | true =>
            rw [if_pos rfl] at p2 ⊢
            refine hk σ4 H5 _ ⟨G5, S1, rel4.grow sp5, ?_⟩
            cases e3 : fk S1 with
            | exc x => rw [e3] at p2; exact p2.elim
            | fail => rw [e3] at p2; exact p2.elim
            | ok y =>
              rw [e3, R.nox_ok, R.ok_bind] at p2
              intro v G6 H6 sp6 ry
              have ry : RD c.k G6 y v := ry
              refine hv σ4 H6 _ fun l hl => ?_
              have spB := spA.trans sp6
              obtain ⟨z1, z2, z3, z4⟩ := nD spB
              have p2 : PostEn c i G S σ H Dn ((dcF ga t fk eN (wipeS S vs) (ds.drop (j + 1)) >>= fun ys => R.ok ((y, D.non) :: ys)) >>= fun ps => nDcEnd qs ps) := p2
              cases e4 : dcF ga t fk eN (wipeS S vs) (ds.drop (j + 1)) with
              | exc x => exact absurd e4 (dcF_exc _)
              | fail => rw [e4] at p2; exact p2.elim
              | ok ps =>
                rw [e4] at p2
                obtain ⟨qk, hqk, hqn, hql2, p3⟩ := ndc_key (ps := ps) p2
                have hz : (qs.zip (bs.map V.ref)).length < sizeLine := by
                  have h2 : (901 : Nat) < sizeLine := by rw [sizeLine_eq]; decide
                  rw [List.length_zip]; exact Nat.lt_of_le_of_lt (Nat.min_le_left _ _) (by omega)
                have gl : G6 l = none := sp6.gh.free hl
                have hlD : l ≠ Dl := fun z => by rw [z, z2] at hl; cases hl
                have hDl : (upd H6 l (.lst [])) Dl = some (.dK (qs.zip (bs.map V.ref))) := by rw [upd_ne (Ne.symm hlD)]; exact z2
                have ex6 : Ex G6 (upd H6 l (.lst [])) := sp6.gh.upd gl
                refine ⟨_, dkK.put ex6 hqk ry hDl hz, ?_⟩
                rw [show dkK.ho (putK (qs.zip (bs.map V.ref)) qk (.ref l)) = .dK (qs.zip (bs.map V.ref) ++ [(qk, .ref l)]) from by
                  rw [putK_new fun p hp e => hqn (by rw [← e]; exact (List.of_mem_zip hp).1)]; rfl]
                have ez : qs.zip (bs.map V.ref) ++ [(qk, V.ref l)] = (qs ++ [qk]).zip ((bs ++ [l]).map V.ref) := by
                  rw [List.map_append, List.zip_append (by rw [List.length_map]; exact hql)]; rfl
                rw [ez]
                have w := sp2.trans spB
                have hl1 : H1 l = none := w.h.free hl
                have spC : Step G1 H1 G6 (upd (upd H6 l (.lst [])) Dl (.dK ((qs ++ [qk]).zip ((bs ++ [l]).map V.ref)))) := ⟨w.g, (w.h.upd hl1).upd hD, (w.gh.upd gl).upd z1, w.gr⟩
                have nb : ∀ x, x ∈ bs → x ≠ l ∧ x ≠ Dl := fun x hx => ⟨fun z => (by obtain ⟨o, e⟩ := z3.live x hx; rw [z, hl] at e; cases e), fun z => (List.nodup_cons.mp hnd).1 (by rw [← z]; exact hx)⟩
                have hkeep : EnR c.k G6 (upd (upd H6 l (.lst [])) Dl (.dK ((qs ++ [qk]).zip ((bs ++ [l]).map V.ref)))) (qs.map fun _ => (true, .lst [])) (bs.map V.ref) bs := z3.keep (Ex.refl _) fun x hx => by rw [upd_ne (nb x hx).2, upd_ne (nb x hx).1]
                refine ⟨G6, qs ++ [qk], bs ++ [l], spC, z1, upd_same, by rw [List.length_append, List.length_append, hql]; rfl, ?_, ?_, fun x hx => ?_, ?_⟩
                · have e5 : (bs ++ [l]).map V.ref = bs.map V.ref ++ [V.ref l] := by rw [List.map_append]; rfl
                  have e6 : ((qs ++ [qk]).map fun _ => ((true, D.lst []) : Bool × D)) = (qs.map fun _ => (true, D.lst [])) ++ [(true, D.lst [])] := by rw [List.map_append]; rfl
                  rw [e6]
                  refine Eq.mp (congrArg (fun z => EnR c.k G6 (upd (upd H6 l (.lst [])) Dl (.dK ((qs ++ [qk]).zip ((bs ++ [l]).map V.ref)))) _ z _) e5.symm) ?_
                  exact hkeep.snoc (by rw [upd_ne hlD]; exact upd_same) (.lst .nil)
                · rw [List.nodup_cons, List.nodup_append]
                  obtain ⟨d1, d2⟩ := List.nodup_cons.mp hnd
                  exact ⟨fun hm => by rcases List.mem_append.mp hm with h | h; exact d1 h; rw [List.mem_singleton] at h; exact hlD h.symm, d2, by simp, fun x hx y hy z => by rw [List.mem_singleton] at hy; exact (nb x hx).1 (by rw [z, hy])⟩
                · rcases List.mem_append.mp hx with h | h
                  · exact z4 x h
                  · rw [List.mem_singleton] at h; subst h; exact ⟨gl, hl1⟩
                · rw [R.ok_bind]; exact p3
    · have hj : j = ds.length := by omega
      subst hj
      rw [List.drop_length] at p2
      refine .inl ⟨itm.1 _ (Nat.le_refl _), ?_⟩
      have p2 : PostEn c i G S σ H Dn (nDcEnd qs []) := p2
      unfold nDcEnd at p2
      simp only [keysOf, List.map_nil, List.append_nil] at p2
      by_cases hl : qs.Nodup ∧ qs.length ≤ 900
      · rw [if_pos hl] at p2
        have w := sp.trans sp2
        show Dn.nx (σ.set i (some (.ref Dl))) H2
        have fresh : ∀ x, x ∈ Dl :: bs → G2 x = none ∧ c.H0 x = none ∧ ∀ j, ¬ OwnAt (S.set i none) (σ.set i (some (.ref Dl))) j x := fun x hx => by
          have hx2 : G2 x = none ∧ H x = none := by
            rcases List.mem_cons.mp hx with rfl | hx
            · exact ⟨hGD, hD0⟩
            · exact ⟨(hbs x hx).1, sp.h.free (hbs x hx).2⟩
          exact ⟨hx2.1, rel.st.h.free hx2.2, fun j ow => by
            obtain ⟨_, _, o, _, ho, _⟩ := rel.own (own_blur ow).1
            rw [hx2.2] at ho; cases ho⟩
        refine p2 G2 _ H2 w.g ((rel.grow w).blur i _) ⟨Dl, bs.map V.ref, bs, List.getElem?_set_self (by rw [← rel.len]; exact hiS), hHD, ?_, hen, hnd, fresh⟩ ⟨List.length_set .., fun j hj => List.getElem?_set_ne (fun z => hj (by simp [z])), fun j hj _ => List.getElem?_set_ne (fun z => hj (by simp [z])), fun j x _ _ ow => ?_⟩
        · show qs.length = (qs.map _).length
          rw [List.length_map]
        · obtain ⟨_, _, o, _, ho, _⟩ := rel.own ow
          rw [ho, w.h _ _ ho]
      · rw [if_neg hl] at p2; exact p2.elim
theorem en_dc (i : Nat) {tg : Expr} {py lp : Pos} {y : Str} {kx iter : Expr} {ifs : List Expr} {scope : Scope} (own : List (Str × Nat)) {ki gs : List Nat} {fi : FI} {ga : FG} {fk : FE} (hu : X.A.units + 64 < cLine) (hc : X.calm = true) (hN : X.N.Nodup) (hi : PI' X c ki tg iter fi) (ok : BlkOk X.N X.env.scope scope own)
    (hg : ∀ (s : Shared) (H : Hp) (C : Addr) (cl : List (Str × Addr)) (fp : List Addr), PG' (X.blk s H scope (compEnvC scope cl C X.env) fp) c.nx gs tg ga) (ht : ∀ (s : Shared) (H : Hp) (C : Addr) (cl : List (Str × Addr)) (fp : List Addr), PTs' (X.blk s H scope (compEnvC scope cl C X.env) fp) c.nx ifs t)
    (hk : ∀ (s : Shared) (H : Hp) (C : Addr) (cl : List (Str × Addr)) (fp : List Addr), PE' (X.blk s H scope (compEnvC scope cl C X.env) fp) c.nx .st kx fk)
    (hy : X.N[i]? = some y := by rfl) (hyl : X.env.scope.names.lookup y = some .local := by rfl) (hsw : swapsWith (.DictComp kx (.List [] lp) [⟨tg, iter, ifs, 0⟩] scope pos) (some (.Name y py)) spos.line X.env = pure true := by exact swT_dc rfl rfl rfl (by decide +kernel))
    (hgs : ∀ i, i ∈ gs → i ∈ own.map (·.2) := by decide) (hs : ∀ x, foldedSetIterable iter X.env x = pure x := by intro _; rfl) :
    PSE X c i (.Assign [.Name y py] (.DictComp kx (.List [] lp) [⟨tg, iter, ifs, 0⟩] scope pos) spos) (nDc i fi ga t fk (own.map (·.2))) :=
  psI (ps_setDcG dkK hu hc hN hy hyl hsw hi ok hg ht hk (fun _ _ _ _ _ => pe_newL) hs) fun Dn σ H q => ndc_go (fun _ _ _ _ z => z) (fun _ _ _ z => z) (fun _ _ _ z => z) (fun _ _ _ z => z) hgs q
abbrev FAN := Env → R (List (Bool × D))
variable {keys : List (Option Expr)} {values : List Expr} {ks : List Str} {fa : FAN}
end
end M
set_option Elab.async false
set_option linter.all false
set_option maxRecDepth 100000
set_option maxHeartbeats 4000000
namespace M
open PySem L2
section
variable {X : Cx} {c : Cf} {kd k1 k2 k3 : Kd} {a b e kx : Expr} {f g h : FE} {t u : FT} {pos apos cpos spos p' : Pos} {fr : Bool} {as bs : List Nat} {s r : FS} {F F1 F2 : FN} {Z : FNR} {st : Stmt} {sts : List Stmt} {x : Str} {i : Nat}
end
end M
set_option Elab.async false
set_option linter.all false
set_option maxRecDepth 100000
set_option maxHeartbeats 4000000
namespace M
open PySem L2
end M
set_option Elab.async false
set_option linter.all false
set_option maxRecDepth 100000
set_option maxHeartbeats 4000000
namespace M
open PySem L2
def sFzL (i : Nat) (s : FS) : FS := fun S => match S[i]? with
  | some (some ⟨true, .dic ks ds⟩) => s (S.set i (some ⟨false, .dkf ks ds⟩))
  | _ => .fail
section
variable {X : Cx} {c : Cf} {kd k1 k2 k3 : Kd} {a b e tg : Expr} {f g h : FE} {t u : FT} {pos : Pos} {fr : Bool} {as bs : List Nat} {s r : FS} {st : Stmt}
theorem Rel.lck {G H : Hp} {S : Env} {σ : L2.St} (r : Rel c G S σ H) {i : Nat} {ks : List Key} {ds : List D} {t : Addr} {vs : List V} {od : Obj} (hS : S[i]? = some (some ⟨true, .dic ks ds⟩)) (e : σ[i]? = some (some (.ref t))) (g : G t = none) (h0 : c.H0 t = none) (hl : ks.length = ds.length) (rr : RDs c.k G ds vs) :
    Rel c (upd G t (.frz od (.dK (ks.zip vs)))) (S.set i (some ⟨false, .dkf ks ds⟩)) σ (upd H t (.frz od (.dK (ks.zip vs)))) := by
  have ex : Ex G (upd G t (.frz od (.dK (ks.zip vs)))) := Ex.new g
  have hi : i < S.length := (List.getElem?_eq_some_iff.mp hS).1
  have ow : OwnAt S σ i t := ⟨⟨_, hS⟩, e⟩
  refine ⟨⟨r.st.g.trans ex, fun b u q => by rw [upd_ne (ne_of_none q h0)]; exact r.st.h b u q, fun b u q => ?_, fun b u q => ?_⟩, by rw [List.length_set]; exact r.len, fun j d' q => ?_, fun j d' q => ?_, fun j l b q1 q2 => ?_⟩
  · by_cases hb : b = t
    · subst hb; rw [upd_same] at q ⊢; exact q
    · rw [upd_ne hb] at q ⊢; exact r.st.gh b u q
  · by_cases hb : b = t
    · subst hb; exact .inr h0
    · rw [upd_ne hb] at q; exact r.st.gr b u q
  · by_cases hj : i = j
    · subst hj
      rw [List.getElem?_set_self hi] at q; cases q
      exact ⟨_, e, .dkf upd_same hl (rr.mono ex)⟩
    · rw [List.getElem?_set_ne hj] at q
      obtain ⟨v, e', q'⟩ := r.fz j d' q
      exact ⟨v, e', q'.mono ex⟩
  · by_cases hj : i = j
    · subst hj
      rw [List.getElem?_set_self hi] at q; cases q
    · rw [List.getElem?_set_ne hj] at q
      obtain ⟨b, u, e', g', h0', ho', ct'⟩ := r.ow j d' q
      have hb : b ≠ t := fun z => hj (r.nd i j t ow ⟨⟨d', q⟩, by rw [← z]; exact e'⟩)
      exact ⟨b, u, e', by rw [upd_ne hb]; exact g', h0', by rw [upd_ne hb]; exact ho', ct'.mono ex⟩
  · have back : ∀ {m : Nat}, OwnAt (S.set i (some ⟨false, .dkf ks ds⟩)) σ m b → OwnAt S σ m b := fun {m} hm => by
      obtain ⟨⟨d', q⟩, z⟩ := hm
      by_cases hj : i = m
      · subst hj; rw [List.getElem?_set_self hi] at q; cases q
      · rw [List.getElem?_set_ne hj] at q; exact ⟨⟨d', q⟩, z⟩
    exact r.nd j l b (back q1) (back q2)
theorem s_fzL (i : Nat) (h1 : PS' X c fr as st s) : PS' X c fr (i :: as) st (sFzL i s) := by
  refine ⟨fun pins s0 σ H D I ⟨G, S, rel, p⟩ => ?_⟩
  unfold sFzL at p
  split at p
  · rename_i ks ds hS
    obtain ⟨t, o, e, hg, h0, ho, ct⟩ := rel.ow i _ hS
    cases ct with
    | @dic _ _ vs hl rr =>
      obtain ⟨od, I1⟩ := I.lock ho trivial
      have ow : OwnAt S σ i t := ⟨⟨_, hS⟩, e⟩
      refine h1.run pins s0 σ _ D I1 ⟨_, _, rel.lck hS e hg h0 hl rr, PostS.mv (as := [i]) (bs := as) (Ex.new hg) ⟨rfl, fun _ _ => rfl, fun j hj _ => ?_, fun j x hj _ oj => ?_⟩ (fun j q => by simpa using q) p⟩
      · exact List.getElem?_set_ne (fun z => hj (by simp [z]))
      · exact upd_ne (show x ≠ t from fun z => hj (by
          have : i = j := rel.nd i j t ow (by rw [← z]; exact oj)
          simp [this]))
  · exact p.elim
def keyB : Key → D
  | .inl i => .int i
  | .inr x => .str x
theorem keyB_rd {k : Kn} {G : Hp} (q : Key) : RD k G (keyB q) (kV q) := by
  cases q with
  | inl i => exact .int i
  | inr x => exact .str x
def keysF : D → R (List D)
  | .dkf ks _ => .ok (ks.map keyB)
  | _ => .fail
theorem i_keysF (he : PE' X c .st e f) : PI' X c [] tg e (fun S => f S >>= keysF) :=
  piI (pi_keys he) fun σ H Rq ⟨G, S, rel, p⟩ => by
    have p : PostI c [] G S σ H Rq (f S >>= keysF) := p
    refine ⟨G, S, rel, ?_⟩
    cases e1 : f S with
    | exc x => rw [e1] at p; exact p
    | fail => rw [e1] at p; exact p
    | ok d =>
      rw [e1] at p
      intro v G' H' sp q
      cases d with
      | dkf ks ds =>
        have q : RD c.k G' (.dkf ks ds) v := q
        cases q with
        | @dkf _ _ t o vs hh hl rr =>
          have hlen : (ks.zip vs).length = ks.length := by rw [List.length_zip, ← rr.length, ← hl, Nat.min_self]
          refine ⟨t, o, rfl, .inl ⟨_, sp.gh _ _ hh, p _ G' H' sp fun G2 H2 e1 e2 _ => ?_⟩⟩
          have h2 := e2 _ _ (e1 _ _ hh)
          refine ⟨fun j hj => ?_, fun j d hd => ?_⟩
          · rw [List.length_map] at hj
            exact ⟨h2, by rw [hlen]; exact hj⟩
          · rw [List.getElem?_map] at hd
            obtain ⟨q, hq, rfl⟩ := Option.map_eq_some_iff.mp hd
            have hj := (List.getElem?_eq_some_iff.mp hq).1
            refine ⟨⟨h2, by rw [hlen]; exact hj⟩, ?_⟩
            rintro x H3 ⟨rfl, kk, vv, hkv, rfl⟩
            have : (ks.zip vs)[j]? = some (q, vs[j]'(by rw [← rr.length, ← hl]; exact hj)) := by
              rw [List.getElem?_zip_eq_some]
              exact ⟨hq, List.getElem?_eq_getElem _⟩
            rw [this] at hkv; cases hkv
            exact ⟨G2, Step.refl e2, keyB_rd q⟩
      | _ => exact p.elim
end
end M
set_option Elab.async false
set_option linter.all false
set_option maxRecDepth 100000
set_option maxHeartbeats 4000000
namespace M
open PySem
section
variable {prog : Program} {w : World} {A : Around} {R : GenEnd} {Y : Protocol} {n : Nat} {s₀ : Shared} {c : Code} {fs : List Frame} {s : Shared} {env : PySem.Env} {K : Flow → Sem Fin} {J : Value → Sem Fin} {gd : Bool → Bool} {lv : List Value → List Value}
end
end M
set_option Elab.async false
set_option linter.all false
set_option maxRecDepth 100000
set_option maxHeartbeats 4000000
namespace M
open PySem L2 PySem.Spec PyProof.Rows
section
variable {X : Cx}
end
end M
set_option Elab.async false
set_option linter.all false
set_option maxRecDepth 100000
set_option maxHeartbeats 4000000
namespace M
open PySem L2
abbrev FY := Env → R (Fl × Env × List D)
section
variable {X : Cx} {c : Cf} {k1 : Kd} {e : Expr} {f : FE} {pos : Pos} {as bs : List Nat} {s : FS} {y z : FY} {st : Stmt} {sts : List Stmt}
end
end M
set_option Elab.async false
set_option linter.all false
set_option maxRecDepth 100000
set_option maxHeartbeats 4000000
namespace M
open PySem L2
def PostGn (k : Kn) (G0 H : Hp) (Q : List V → Hp → Prop) (E : XK) : R (List D) → Prop
  | .ok ds => ds.length ≤ sizeLine ∧ ∀ vs G' H', Step G0 H G' H' → RDs k G' ds vs → Q vs H'
  | .exc x => PXs ⟨k, H, G0, liftX E⟩ x
  | .fail => False
def SpGn (k : Kn) (n : Nat) (den : List D → R (List D)) : SpG := fun vs H Q E => vs.length = n ∧ ∃ G0 ds, Ex G0 H ∧ RDs k G0 ds vs ∧ PostGn k G0 H Q E (den ds)
section
variable {P : Program} {w : World} {K : PySem.W.Frag} {mg : Str → Option Value} {base : Heap}
end
end M
set_option Elab.async false
set_option linter.all false
set_option maxRecDepth 100000
set_option maxHeartbeats 4000000
namespace M
open PySem L2
structure GMethod (P : Program) (w : World) (K : PySem.W.Frag) (mg : Str → Option Value) (base : Heap) (k : Kn) (lv : Nat) (ci : Nat) (m : Str) (n : Nat) (den : List D → R (List D)) : Prop where
  ex : ∃ (C f : Addr) (fd : FuncData) (ps nm : List Str), ps.length = n ∧ k.cl ci = some (C, nm) ∧ m ∉ nm ∧ Cls K C ∧ Meth K C m f ∧ GFn P w K mg base lv f fd ps (SpGn k n den) ∧ Binds K fd ps []
section
variable {X : Cx} {c : Cf} {e o : Expr} {f : FE} {pos apos pos' : Pos} {den : List D → R (List D)}
def lstE (out : List D) : R D := if out.length ≤ sizeLine then .ok (.lst out) else .fail
def eLM (ci : Nat) (den : List D → R (List D)) (f : FE) (fa : FA) : FE := fun S => f S >>= fun o => if o.isObj ci then fa S >>= fun ds => (den (o :: ds)).nox >>= fun out => lstE out else .fail
end
end M
set_option Elab.async false
set_option linter.all false
set_option maxRecDepth 100000
set_option maxHeartbeats 4000000
namespace M
open PySem L2 PyProof.Rows
def KwT {α : Type} (D : Addr) : List (Str × Value) → Sem α → Sem α → Prop
  | [], t, r => t = r
  | q :: l, t, r => ∃ (β γ : Type) (k1 : Option Value → Sem β) (k2 : β → Sem γ) (k3 : γ → Sem α) (a : β), t = ((nsGet D q.1 >>= k1) >>= k2) >>= k3 ∧ k1 (some q.2) = pure a ∧ KwT D l (k2 a >>= k3) r
theorem KwT.run {α : Type} {K : PySem.W.Frag} {M : Model} {A : Around} {D : Addr} {Q : α → Shared → Prop} {E : Value → Shared → Prop} {s : Shared} (X : K.In s.heap) {r : Sem α} (h : wpAny M A r Q E s) : ∀ {l : List (Str × Value)} {t : Sem α}, (∀ q ∈ l, PySem.W.nsIn K D q.1 = some (some q.2)) → KwT D l t r → wpAny M A t Q E s
  | [], t, _, e => by cases (show t = r from e); exact h
  | q :: l, t, hl, ⟨β, γ, k1, k2, k3, a, e1, e2, e3⟩ => by
    have ih := KwT.run X h (fun p hp => hl p (List.mem_cons_of_mem _ hp)) e3
    have l1 : PySem.W.Looks M s.heap (nsGet D q.1 >>= k1) a := (PySem.W.looks_nsIn X (hl q (List.mem_cons_self ..))).andThen (PySem.W.Looks.of_pure e2)
    rw [e1, bind_assoc]
    exact wpAny_bind (l1.here ih)
section
variable {K : PySem.W.Frag} {x qual : Str} {params : Arguments} {body : List Stmt} {scope : Scope} {dvs : List V} {kws : List (Str × V)} {f : Addr} {fd : FuncData} {ps : List Str} {pv : Str}
end
def FnStar (P : Program) (w : World) (K : PySem.W.Frag) (mg : Str → Option Value) (base : Heap) (CX : CXT) (lv : Nat) (f : Addr) (m : Nat) (ks : List Str) (gV : List V → List V → List V) (sp : Sp) : Prop :=
  ∀ (A : Around) (outer : List PySem.Env) (s : Shared) (H : Hp) (us rs ws : List Value) (vs xs zs : List V) (Q : VK) (E : XK), Room lv A → Env0 P w K mg base A outer s H → Vals vs us → Vals xs rs → Vals zs ws → us.length = m → ws.length = ks.length → xs.length ≤ sizeLine →
    (∀ p, H p = none → sp (gV vs zs ++ [.ref p]) (upd H p (.tup xs)) Q E) → codeAny (model P w) A (.call (.ref f) ⟨us ++ rs, ks.zip ws⟩) (CR CX outer P w H s Q E) s
section
variable {CX : CXT} {P : Program} {w : World} {K : PySem.W.Frag} {mg : Str → Option Value} {base : Heap} {k : Nat} {x qual : Str} {params : Arguments} {body : List Stmt} {scope : Scope} {dvs : List V} {kws : List (Str × V)} {f : Addr} {fd : FuncData} {N ps : List Str} {pv : Str} {sp : Sp}
end
def mergeK {α : Type} : List Bool → List α → List α → List α
  | true :: bs, _ :: ds, g :: gs => g :: mergeK bs ds gs
  | false :: bs, d :: ds, gs => d :: mergeK bs ds gs
  | _, _, _ => []
structure MakerXS (P : Program) (w : World) (K : PySem.W.Frag) (mg : Str → Option Value) (base : Heap) (k : Kn) (lv : Nat) (x : Str) (ci n : Nat) (mask : List Bool) (ks : List Str) (dd : List D) (den : List D → R D) : Prop where
  ex : ∃ (C f : Addr) (nm : List Str) (dvs : List V), k.cl ci = some (C, nm) ∧ Mk K C f ∧ mg x = some (.ref C) ∧ (∀ G, RDs k G dd dvs) ∧ dd.length = mask.length ∧ (mask.filter id).length = ks.length ∧
    FnStar P w K mg base (L2N.CX P w) lv f (n + 1) ks (fun vs zs => vs ++ mergeK mask dvs zs) (SpN k ci (n + 1 + mask.length + 1) den)
section
variable {X : Cx} {c : Cf} {kd k1 k2 k3 : Kd} {a b e o : Expr} {f g h : FE} {pos apos : Pos} {fr : Bool} {x : Str} {den : List D → R D} {ci : Nat}
end
end M
namespace M
open PySem L2
end M
set_option Elab.async false
set_option linter.all false
set_option maxRecDepth 100000
set_option maxHeartbeats 4000000
namespace M
open PySem L2
section
variable {X : Cx} {c : Cf} {kd k1 k2 k3 : Kd} {e : Expr} {f g h : FE} {pos : Pos} {fr : Bool} {as bs : List Nat} {s r : FS} {x : Str}
end
end M
set_option Elab.async false
set_option linter.all false
set_option maxRecDepth 100000
set_option maxHeartbeats 4000000
namespace M
open PySem PySem.Spec PyProof.Rows L2
section
variable {X : Cx} {o : Expr} {p pos apos mpos : Pos} {td : TE}
end
end M
set_option Elab.async false
set_option linter.all false
set_option maxRecDepth 100000
set_option maxHeartbeats 4000000
namespace M
open PySem L2 PySem.W PySem.Calls PyProof.Rows
section
variable {prog : Program} {w : World} {A : Around} {E : Value → Shared → Prop} {s : Shared} {l : Addr}
theorem sum_tupG {xs : Array (Int × Tok)} {Q : Value → Shared → Prop} (hh : A.handled = none) (hl : s.heap.IsTuple l (intItems xs))
    (h : ∀ h' tk t', (∀ b o, s.heap.get? b = some o → h'.get? b = some o) → Q (.int (preSum (numAt xs) xs.size) t') { s with heap := h', toks := tk }) :
    wpAny (model prog w) A (call (.builtin "sum") [.ref l]) Q E s := by
  obtain ⟨ol, hol, _⟩ := id hl
  have hlt : l < s.heap.objs.size := Heap.lt_size hol
  refine call_sum_walkG (wpAny_pyIter_tuple hl ?_)
  refine ⟨_, _, _, _, _, _, numAt xs, rfl, Walks.tuple (A := A.in1) hh _ l (Nat.ne_of_lt hlt) (intItems xs), ⟨⟨_, Heap.get?_push_size _ rfl, rfl, rfl⟩, hl.push _⟩, fun b hb => ?_, (fun _ _ => intItems_at), fun h' tk t' hk => ?_⟩
  · show b < (s.heap.push _).objs.size
    rw [Heap.size_push]
    rcases List.mem_cons.mp hb with rfl | hb
    · exact Nat.lt_succ_self _
    · rcases List.mem_cons.mp hb with rfl | hb
      · exact Nat.lt_succ_of_lt hlt
      · cases hb
  · have hold : ∀ c o, s.heap.get? c = some o → h'.get? c = some o := fun c o e => by
      refine hk c o (fun hm => ?_) (Heap.get?_push_of_some _ e)
      rcases List.mem_cons.mp hm with e1 | hm
      · have := Heap.lt_size e; rw [e1] at this; exact Nat.lt_irrefl _ this
      · cases hm
    have := h h' tk t' hold
    simpa [intItems] using this
theorem sumT_raw {its : List Value} {ns : List Int} {Q : Value → Shared → Prop} (hh : A.handled = none) (hl : s.heap.IsTuple l its.toArray) (hi : IntsAre its ns)
    (h : ∀ h' tk t', (∀ b o, s.heap.get? b = some o → h'.get? b = some o) → Q (.int ns.sum t') { s with heap := h', toks := tk }) : wpAny (model prog w) A (call (.builtin "sum") [.ref l]) Q E s := by
  obtain ⟨xs, e⟩ := hi.allInts.items
  have hn : numsOf (intItems xs).toList = ns := by rw [← e]; exact hi.numsOf
  rw [nums_intItems] at hn
  rw [e] at hl
  refine sum_tupG hh hl fun h' tk t' hk => ?_
  have := h h' tk t' hk
  rw [preSum_eq, List.take_of_length_le (by simp), hn]; exact this
end
section
variable {X : Cx} {k : Kn}
def rSumT (K : PySem.W.Frag) : List V → Hp → VK → Prop := fun vs H Q => ∃ (a : Addr) (ns : List Int), vs = [V.ref a] ∧ SqT K H a (ns.map V.int) ∧ Q (.int ns.sum) H
theorem cr_sumT (hc : X.calm = true) : CallR X (.builtin "sum") (rSumT X.K) := by
  intro pins s σ H vs us Q I r h
  obtain ⟨a, ns, rfl, hs, q⟩ := h
  obtain ⟨its, rv, hl, _⟩ := I.tuple hs
  rw [Vals.ref1 r]
  exact sumT_raw (I.ok.hd hc) hl rv.ints fun h' tk t' hk => ⟨.int _, H, I.kept hk, ⟨_, rfl⟩, q⟩
def sumAD : D → R D
  | .lst ds => match asI ds with | some ns => .ok (.int ns.sum) | none => .fail
  | .tup ds => match asI ds with | some ns => .ok (.int ns.sum) | none => .fail
  | _ => .fail
theorem c_sumA (hk : k.K = X.K) (hc : X.calm = true) : ClR X k (.builtin "sum") .st (f1 sumAD) := cl1 ((cr_sum hc).or (cr_sumT hc)) fun G H x v d e n hg Q p => by
  cases x <;> simp only [sumAD] at hg <;> first | (cases hg; done) | skip
  · split at hg
    · rename_i ns hn
      cases hg; obtain ⟨a, vs, rfl, ha, r⟩ := n.tup
      have := asI_of r hn; subst this
      exact .inr ⟨a, ns, rfl, hk ▸ e.sqT ha.t, p _ G H (Step.refl e) (.int _)⟩
    · cases hg
  · split at hg
    · rename_i ns hn
      cases hg; obtain ⟨a, vs, rfl, ha, r⟩ := n.lst e
      have := asI_of r hn; subst this
      exact .inl ⟨a, ns, rfl, SqL.of ha, p _ G H (Step.refl e) (.int _)⟩
    · cases hg
end
end M
set_option Elab.async false
set_option linter.all false
set_option maxRecDepth 100000
set_option maxHeartbeats 4000000
namespace Pf
open PySem L2 M
structure Bt (mg : Str → Option Value) : Prop where
  abs : mg "abs" = none
  bool : mg "bool" = none
  dict : mg "dict" = none
  int : mg "int" = none
  isinstance : mg "isinstance" = none
  len : mg "len" = none
  list : mg "list" = none
  min : mg "min" = none
  range : mg "range" = none
  set : mg "set" = none
  sorted : mg "sorted" = none
  sum : mg "sum" = none
  tuple : mg "tuple" = none
section
variable {P : Program} {w : World} {K : PySem.W.Frag} {mg : Str → Option Value} {base : Heap} {cl : Nat → Option (Addr × List Str)}
def m_check_supply : FS :=
    (sSeq (sIf (tNo (tB' (e3 leD leD (eI (1)) (eW 0) (eG gv_MOST_STATES)))) (sExc0 202) sNil)
    (sSeq (sIf (tO (tNo (tT' (eW 2))) (tO (tB' (e2 ltD (e1 lenSetD (eW 2)) (eC (f1 lenD) (aC (eW 2) aN)))) (tO (tB' (e2 ltD (e2 ixA (eW 2) (eI (0))) (eI (0)))) (tB' (e2 geD (e2 ixA (eW 2) (e1 negD (eI (1)))) (eW 0)))))) (sExc0 202) sNil)
    (sSeq (sIf (tB' (e2 ltD (e1 lenSetD (eW 1)) (eC (f1 lenD) (aC (eW 1) aN)))) (sExc0 202) sNil)
    (sSeq (sFor (fun S => (eV 1) S >>= itemsD) (gT 3 (gsC (gN 3) (gsC (gN 4) (gsC (gN 5) gsN)))) (sIf (tO (tNo (tB' (e3 leD ltD (eI (0)) (eW 3) (eW 0)))) (tO (tNo (tB' (e3 leD ltD (eI (0)) (eW 5) (eW 0)))) (tB' (e2 notInA (eW 4) (eT (aC (eI (0)) (aC (eI (1)) aN))))))) (sExc0 202) sNil))
    (sIf (tB' (e2 ltD (lenScK (fun S => (eV 1) S >>= itemsD) (gT 3 (gsC (gN 3) (gsC (gN 4) (gsC (gN 5) gsN)))) tY (eV 3) [3, 4, 5]) (eW 0))) (sExc0 202) sNil)))))
def d_check_supply : List D → R D := runF false 6 m_check_supply
theorem sc_check_supply : FnScope ["size", "steps", "starts", "state", "bit", "ahead"] ["size", "steps", "starts"] (defScope st_check_supply) := ⟨rfl, rfl, rfl, by decide +kernel, rfl, by decide +kernel, by decide +kernel⟩
theorem ok_check_supply {f : Addr} {fd : FuncData} (F : FunD K "check_supply" "check_supply" (defArgs st_check_supply) (defBody st_check_supply) (defScope st_check_supply) [] [] f fd) (mgf : mg "check_supply" = some (.ref f)) (B : Bt mg) (g_MOST_STATES : Gc mg ⟨K, cl⟩ "MOST_STATES" gv_MOST_STATES) (R_InvalidSupply : RaO K mg ⟨K, cl⟩ "InvalidSupply" 202) : CalleeX P w K mg base ⟨K, cl⟩ 1 "check_supply" 3 false d_check_supply := by
  have nd : (["size", "steps", "starts", "state", "bit", "ahead"] : List Str).Nodup := sc_check_supply.nd
  have z := fn_okX (P := P) (w := w) (mg := mg) (base := base) (k := ⟨K, cl⟩) (fr := false) (lv := 0) (as := _) (s := m_check_supply) F sc_check_supply fun cdv A outer sh H G0 E hr tk => by
    have hu := hr.units
    have hu5 := hr.units5
    exact (b_cons (s_if (d_not (d_tch (o_le) (o_le) d_int (d_w 0) (d_g g_MOST_STATES))) (b_one (s_raise0 R_InvalidSupply rfl tk)) b_nil)
    (b_cons (s_if (d_pw (d_or (d_not (d_tt rfl (d_w 2))) (d_or (d_tc (o_lt) (d_lenSet rfl rfl hu B.len B.set (d_w 2)) (d_bltn (c_len rfl) B.len (d_ab (d_w 2) d_an))) (d_or (d_tc (o_lt) (d_ix (o_ixA rfl hu5) (d_w 2) d_int) d_int) (d_or1 (d_tc (o_ge) (d_ix (o_ixA rfl hu5) (d_w 2) (d_un o_neg d_int)) (d_w 0))))))) (b_one (s_raise0 R_InvalidSupply rfl tk)) b_nil)
    (b_cons (s_if (d_tc (o_lt) (d_lenSet rfl rfl hu B.len B.set (d_w 1)) (d_bltn (c_len rfl) B.len (d_ab (d_w 1) d_an))) (b_one (s_raise0 R_InvalidSupply rfl tk)) b_nil)
    (b_cons (s_for (L2.passes_of rfl) rfl (i_seq rfl (d_v 1)) (g_t rfl rfl (gs_c (g_n 3 nd) (gs_c (g_n 4 nd) (gs_c (g_n 5 nd) gs_n)))) (b_one (s_if (d_pw (d_or (d_not (d_tch (o_le) (o_lt) d_int (d_w 3) (d_w 0))) (d_or (d_not (d_tch (o_le) (o_lt) d_int (d_w 5) (d_w 0))) (d_or1 (d_tc (o_notinA rfl hu5) (d_w 4) (d_tup (d_ac d_int (d_ac d_int d_an)))))))) (b_one (s_raise0 R_InvalidSupply rfl tk)) b_nil)))
    (b_one (s_if (d_tc (o_lt) (d_lenScK [("state", 3), ("bit", 4), ("ahead", 5)] rfl hu B.len rfl nd (i_seq rfl (d_v 1)) (blkOk_by (N := ["size", "steps", "starts", "state", "bit", "ahead"]) (sc := (defScope st_check_supply)) (by decide +kernel)) (fun _ _ _ _ _ => (g_t rfl rfl (gs_c (g_n 3 nd) (gs_c (g_n 4 nd) (gs_c (g_n 5 nd) gs_n))))) (fun _ _ _ _ _ => ts_n) (fun _ _ _ _ _ => (d_v 3))) (d_w 0)) (b_one (s_raise0 R_InvalidSupply rfl tk)) b_nil))))))
  exact ⟨f, fd, ["size", "steps", "starts"], rfl, z, mgf, F.kp, F.bindsN fun _ _ _ _ _ _ us hl => match us, hl with | [_, _, _], _ => rfl⟩
def m_moves_of : FS :=
    (sSeq (sOwn 1 (fun _ => .ok (.dit [] [])))
    (sSeq (sFor (fun S => (eV 0) S >>= itemsD) (gT 3 (gsC (gN 2) (gsC (gN 3) (gsC (gN 4) gsN)))) (sPutA 1 (eT (aC (eV 2) (aC (eV 3) aN))) (e2 addD (eGet2 (eW 1) (eT (aC (eV 2) (aC (eV 3) aN))) (eT aN)) (eT (aC (eV 4) aN)))))
    (sRetO 1)))
def d_moves_of : List D → R D := fun ds => (runF true 5 m_moves_of ds).nox
theorem sc_moves_of : FnScope ["steps", "found", "state", "bit", "ahead"] ["steps"] (defScope st_moves_of) := ⟨rfl, rfl, rfl, by decide +kernel, rfl, by decide +kernel, by decide +kernel⟩
theorem ok_moves_of {f : Addr} {fd : FuncData} (F : FunD K "moves_of" "moves_of" (defArgs st_moves_of) (defBody st_moves_of) (defScope st_moves_of) [] [] f fd) (mgf : mg "moves_of" = some (.ref f)) (B : Bt mg)  : Callee P w K mg base ⟨K, cl⟩ 1 "moves_of" 1 true d_moves_of := by
  have nd : (["steps", "found", "state", "bit", "ahead"] : List Str).Nodup := sc_moves_of.nd
  have z := fn_ok (P := P) (w := w) (mg := mg) (base := base) (k := ⟨K, cl⟩) (fr := true) (lv := 0) (as := [1, 2, 3, 4, 1001]) (s := m_moves_of) F sc_moves_of fun cdv A outer sh H G0 hr => by
    have hu := hr.units
    have hu5 := hr.units5
    exact (b_cons (s_own 1 nd d_dnewT)
    (b_cons (s_for PassesOwn.never rfl (i_seq rfl (d_v 0)) (g_t rfl rfl (gs_c (g_n 2 nd) (gs_c (g_n 3 nd) (gs_c (g_n 4 nd) gs_n)))) (b_one (s_putA 1 hu (d_op (o_add rfl) (d_get2A hu (d_w 1) (d_tup (d_ac (d_v 2) (d_ac (d_v 3) d_an))) (d_tup d_an)) (d_tup (d_ac (d_v 4) d_an))) (d_tup (d_ac (d_v 2) (d_ac (d_v 3) d_an))))))
    (b_one (s_retO 1))))
  exact ⟨f, fd, ["steps"], rfl, z, mgf, F.kp, F.bindsN fun _ _ _ _ _ _ us hl => match us, hl with | [_], _ => rfl⟩
def m_Supply : FS :=
    (sSeq (sFldN 3 0 0 (eV 1))
    (sSeq (sFldN 3 0 1 (eC (f1 tupD) (aC (eC (f1 srtAD) (aC (lcE (fun S => (eV 2) S >>= itemsD) (gN 4) tY (eC (f1 tupD) (aC (eW 4) aN)) [4]) aN)) aN)))
    (sSeq (sFldN 3 0 2 (eC (f1 tupD) (aC (eC (f1 srtAD) (aC (eW 3) aN)) aN)))
    (sSeq (sDrop (eCX d_check_supply (aC (eV 1) (aC (e1 (fldD 3 1) (eW 0)) (aC (e1 (fldD 3 2) (eW 0)) aN)))))
    (sFldN 3 0 3 (eC d_moves_of (aC (e1 (fldD 3 1) (eW 0)) aN)))))))
def d_Supply : List D → R D := runN 5 3 m_Supply
theorem sc_Supply : FnScope ["self", "size", "steps", "starts", "step"] ["self", "size", "steps", "starts"] (defScope st_Supply) := ⟨rfl, rfl, rfl, by decide +kernel, rfl, by decide +kernel, by decide +kernel⟩
theorem ok_Supply {C f : Addr} {fd : FuncData} {dvs : List V} (hdd : ∀ G, RDs ⟨K, cl⟩ G [.tup [.int 0]] dvs) (F : FunD K "__init__" "Supply.__init__" (defArgs st_Supply) (defBody st_Supply) (defScope st_Supply) [] ((["starts"] : List Str).zip dvs) f fd) (hcl : cl 3 = some (C, (["size", "steps", "starts", "moves"] : List Str))) (mk : Mk K C f) (mgf : mg "Supply" = some (.ref C)) (B : Bt mg) (C_Supply : ClsI K ⟨K, cl⟩ 3 (["size", "steps", "starts", "moves"] : List Str)) (h_check_supply : CalleeX P w K mg base ⟨K, cl⟩ 1 "check_supply" 3 false d_check_supply) (h_moves_of : Callee P w K mg base ⟨K, cl⟩ 1 "moves_of" 1 true d_moves_of) : MakerXD P w K mg base ⟨K, cl⟩ 2 "Supply" 3 2 [.tup [.int 0]] d_Supply := by
  have nd : (["self", "size", "steps", "starts", "step"] : List Str).Nodup := sc_Supply.nd
  have z := init_okX (P := P) (w := w) (mg := mg) (base := base) (k := ⟨K, cl⟩) (ci := 3) (lv := 1) (as := [1000, 1000, 1000, 1000]) (s := m_Supply) F sc_Supply (by decide) fun cdv A outer sh H H0 G0 E hr tk => by
    have hu := hr.units
    have hu5 := hr.units5
    exact (b_cons (s_fld 3 0 0 C_Supply rfl (d_v 1))
    (b_cons (s_fld 3 0 1 C_Supply rfl (d_btyp (c_tup rfl) B.tuple (d_ab (d_bltn (c_srtA rfl hu) B.sorted (d_ab (d_lc [("step", 4)] rfl nd (i_seq rfl (d_v 2)) (blkOk_by (N := ["self", "size", "steps", "starts", "step"]) (sc := (defScope st_Supply)) (by decide +kernel)) (fun _ _ _ _ _ => (g_n 4 nd)) (fun _ _ _ _ _ => ts_n) (fun _ _ _ _ _ => (d_btyp (c_tup rfl) B.tuple (d_ab (d_w 4) d_an)))) d_an)) d_an)))
    (b_cons (s_fld 3 0 2 C_Supply rfl (d_btyp (c_tup rfl) B.tuple (d_ab (d_bltn (c_srtA rfl hu) B.sorted (d_ab (d_w 3) d_an)) d_an)))
    (b_cons (s_drop (d_callXS h_check_supply hr (by decide) tk (d_ac (d_v 1) (d_ac (d_fld 3 1 C_Supply rfl (d_w 0)) (d_ac (d_fld 3 2 C_Supply rfl (d_w 0)) d_an))) (len_c (len_c (len_c len_n)))))
    (b_one (s_fld 3 0 3 C_Supply rfl (d_z (d_callF (h_moves_of.at hr (by decide)) (d_ac (d_fld 3 1 C_Supply rfl (d_w 0)) d_an) (len_c len_n)))))))))
  have hl0 : dvs.length = 1 := (hdd (fun _ => none)).length.symm
  obtain ⟨ds, hv, hb⟩ := F.binds0 (ps := ["self", "size", "steps", "starts"]) 3 (by intro h; have := congrArg List.length h; simp [hl0] at this) (by simp [hl0]) (match dvs, hl0 with | [_], _ => fun D doc pm an cdv ct us ks l1 l2 => match us, ks, l1, l2 with | [_, _, _], [_], _, _ => ⟨_, _, _, _, _, _, rfl, rfl, rfl⟩)
  exact ⟨C, f, fd, ["self", "size", "steps", "starts"], (["size", "steps", "starts", "moves"] : List Str), dvs, ds, hcl, mk, z, mgf, hb, (match dvs, hl0, hv with | [_], _, hv => hv), hdd⟩
theorem okk_Supply {C f : Addr} {fd : FuncData} {dvs : List V} (hdd : ∀ G, RDs ⟨K, cl⟩ G [.tup [.int 0]] dvs) (F : FunD K "__init__" "Supply.__init__" (defArgs st_Supply) (defBody st_Supply) (defScope st_Supply) [] ((["starts"] : List Str).zip dvs) f fd) (hcl : cl 3 = some (C, (["size", "steps", "starts", "moves"] : List Str))) (mk : Mk K C f) (mgf : mg "Supply" = some (.ref C)) (B : Bt mg) (C_Supply : ClsI K ⟨K, cl⟩ 3 (["size", "steps", "starts", "moves"] : List Str)) (h_check_supply : CalleeX P w K mg base ⟨K, cl⟩ 1 "check_supply" 3 false d_check_supply) (h_moves_of : Callee P w K mg base ⟨K, cl⟩ 1 "moves_of" 1 true d_moves_of) : MakerXK P w K mg base ⟨K, cl⟩ 2 "Supply" 3 2 ["starts"] d_Supply := by
  have nd : (["self", "size", "steps", "starts", "step"] : List Str).Nodup := sc_Supply.nd
  have z := init_okX (P := P) (w := w) (mg := mg) (base := base) (k := ⟨K, cl⟩) (ci := 3) (lv := 1) (as := [1000, 1000, 1000, 1000]) (s := m_Supply) F sc_Supply (by decide) fun cdv A outer sh H H0 G0 E hr tk => by
    have hu := hr.units
    have hu5 := hr.units5
    exact (b_cons (s_fld 3 0 0 C_Supply rfl (d_v 1))
    (b_cons (s_fld 3 0 1 C_Supply rfl (d_btyp (c_tup rfl) B.tuple (d_ab (d_bltn (c_srtA rfl hu) B.sorted (d_ab (d_lc [("step", 4)] rfl nd (i_seq rfl (d_v 2)) (blkOk_by (N := ["self", "size", "steps", "starts", "step"]) (sc := (defScope st_Supply)) (by decide +kernel)) (fun _ _ _ _ _ => (g_n 4 nd)) (fun _ _ _ _ _ => ts_n) (fun _ _ _ _ _ => (d_btyp (c_tup rfl) B.tuple (d_ab (d_w 4) d_an)))) d_an)) d_an)))
    (b_cons (s_fld 3 0 2 C_Supply rfl (d_btyp (c_tup rfl) B.tuple (d_ab (d_bltn (c_srtA rfl hu) B.sorted (d_ab (d_w 3) d_an)) d_an)))
    (b_cons (s_drop (d_callXS h_check_supply hr (by decide) tk (d_ac (d_v 1) (d_ac (d_fld 3 1 C_Supply rfl (d_w 0)) (d_ac (d_fld 3 2 C_Supply rfl (d_w 0)) d_an))) (len_c (len_c (len_c len_n)))))
    (b_one (s_fld 3 0 3 C_Supply rfl (d_z (d_callF (h_moves_of.at hr (by decide)) (d_ac (d_fld 3 1 C_Supply rfl (d_w 0)) d_an) (len_c len_n)))))))))
  have hl0 : dvs.length = 1 := (hdd (fun _ => none)).length.symm
  obtain ⟨mv, kb⟩ := F.kbinds0 (ps := ["self", "size", "steps", "starts"]) 3 ["starts"] [] (fun us _ ws => us ++ ws) (by intro h; have := congrArg List.length h; simp [hl0] at this) (fun q hq => nomatch hq) (fun r1 _ r3 => r1.append r3) (fun _ _ _ _ _ _ us mv ws l1 l2 l3 => match us, mv, ws, l1, l2, l3 with | [_, _, _], [], [_], _, _, _ => rfl)
  exact ⟨C, f, fd, ["self", "size", "steps", "starts"], (["size", "steps", "starts", "moves"] : List Str), _, hcl, mk, z, mgf, kb⟩
def m_Supply_reached : FS :=
    (sSeq (sOwn 1 (eC (f1 lstD) (aC (e1 (fldD 3 2) (eW 0)) aN)))
    (sSeq (sOwn 2 (fun _ => .ok (.dic [] [])))
    (sSeq (sFor (fun S => eO 1 S >>= itemsD) (gN 3) (sPutA 2 (eW 3) (eB true)))
    (sSeq (sSet 4 (eI (0)))
    (sSeq (whileF (tB' (e2 ltD (eW 4) (eC (f1 lenD) (aC (eW 1) aN)))) (sSeq (sFor (fun S => (eT (aC (eI (0)) (aC (eI (1)) aN))) S >>= itemsD) (gN 5) (sFor (fun S => (eGet2 (e1 (fldD 3 3) (eW 0)) (eT (aC (e2 ixA (eW 1) (eW 4)) (aC (eV 5) aN))) (eT aN)) S >>= itemsD) (gN 6) (sIf (tB' (e2 notInA (eW 6) (eW 2))) (sSeq (sPutA 2 (eW 6) (eB true))
    (sApp 1 (eV 6))) sNil)))
    (sAugI 4 addD (eI (1)))) 200)
    (sRet (eC (f1 tupD) (aC (eC (f1 srtAD) (aC (eW 1) aN)) aN))))))))
def d_Supply_reached : List D → R D := fun ds => (runF false 7 m_Supply_reached ds).nox
theorem sc_Supply_reached : FnScope ["self", "found", "seen", "state", "at", "bit", "then"] ["self"] (defScope st_Supply_reached) := ⟨rfl, rfl, rfl, by decide +kernel, rfl, by decide +kernel, by decide +kernel⟩
theorem ok_Supply_reached {C f : Addr} {fd : FuncData} (F : FunD K "reached" "Supply.reached" (defArgs st_Supply_reached) (defBody st_Supply_reached) (defScope st_Supply_reached) [] [] f fd) (hcl : cl 3 = some (C, (["size", "steps", "starts", "moves"] : List Str))) (mc : Cls K C) (mk : Meth K C "reached" f) (B : Bt mg) (C_Supply : ClsI K ⟨K, cl⟩ 3 (["size", "steps", "starts", "moves"] : List Str)) : Method P w K mg base ⟨K, cl⟩ 1 3 "reached" 1 false d_Supply_reached := by
  have nd : (["self", "found", "seen", "state", "at", "bit", "then"] : List Str).Nodup := sc_Supply_reached.nd
  have z := fn_ok (P := P) (w := w) (mg := mg) (base := base) (k := ⟨K, cl⟩) (fr := false) (lv := 0) (as := [1, 2, 3, 1002, 4, 5, 6, 1002, 1001, 4]) (s := m_Supply_reached) F sc_Supply_reached fun cdv A outer sh H G0 hr => by
    have hu := hr.units
    have hu5 := hr.units5
    exact (b_cons (s_own 1 nd (d_btyp (c_lst rfl) B.list (d_ab (d_fld 3 2 C_Supply rfl (d_w 0)) d_an)))
    (b_cons (s_own 2 nd d_dnewK)
    (b_cons (s_for PassesOwn.never rfl (i_own 1) (g_n 3 nd) (b_one (s_putA 2 hu d_bl (d_w 3))))
    (b_cons (s_set 4 nd d_int)
    (b_cons (s_while 200 PassesOwn.never (d_tc (o_lt) (d_w 4) (d_bltn (c_len rfl) B.len (d_ab (d_w 1) d_an))) (b_cons (s_for PassesOwn.never rfl (i_seq rfl (d_tup (d_ac d_int (d_ac d_int d_an)))) (g_n 5 nd) (b_one (s_for PassesOwn.never rfl (i_seq rfl (d_get2A hu (d_fld 3 3 C_Supply rfl (d_w 0)) (d_tup (d_ac (d_ix (o_ixA rfl hu5) (d_w 1) (d_w 4)) (d_ac (d_v 5) d_an))) (d_tup d_an))) (g_n 6 nd) (b_one (s_if (d_tc (o_notinA rfl hu5) (d_w 6) (d_w 2)) (b_cons (s_putA 2 hu d_bl (d_w 6))
    (b_one (s_app 1 (d_v 6)))) b_nil)))))
    (b_one (s_aug 4 i_add nd d_int))))
    (b_one (s_ret (d_btyp (c_tup rfl) B.tuple (d_ab (d_bltn (c_srtA rfl hu) B.sorted (d_ab (d_w 1) d_an)) d_an)))))))))
  exact ⟨C, f, fd, ["self"], (["size", "steps", "starts", "moves"] : List Str), rfl, hcl, by decide, mc, mk, z, F.bindsN fun _ _ _ _ _ _ us hl => match us, hl with | [_], _ => rfl⟩
def m_moves_from : FS :=
    (sNest (nDc 2 (fun S => (eM 3 d_Supply_reached (eV 0) fun _ => .ok []) S >>= itemsD) (gN 1) tY (eV 1) [1]) 2
    (nThen (nFor (fun S => (e1 (fldD 3 1) (eW 0)) S >>= itemsD) (gT 3 (gsC (gN 1) (gsC (gN 3) (gsC (gN 4) gsN)))) (nIf (tnIn (eW 1)) (nApp (eW 1) (eT (aC (eV 3) (aC (eV 4) aN)))) nNil))
    (nEnd 2 (sFzL 2 (sRet (eV 2))))))
def d_moves_from : List D → R D := fun ds => (runF false 5 m_moves_from ds).nox
theorem sc_moves_from : FnScope ["supply", "state", "table", "bit", "then"] ["supply"] (defScope st_moves_from) := ⟨rfl, rfl, rfl, by decide +kernel, rfl, by decide +kernel, by decide +kernel⟩
theorem ok_moves_from {f : Addr} {fd : FuncData} (F : FunD K "moves_from" "moves_from" (defArgs st_moves_from) (defBody st_moves_from) (defScope st_moves_from) [] [] f fd) (mgf : mg "moves_from" = some (.ref f)) (B : Bt mg) (h_Supply_reached : Method P w K mg base ⟨K, cl⟩ 1 3 "reached" 1 false d_Supply_reached) (C_Supply : ClsI K ⟨K, cl⟩ 3 (["size", "steps", "starts", "moves"] : List Str)) : Callee P w K mg base ⟨K, cl⟩ 2 "moves_from" 1 false d_moves_from := by
  have nd : (["supply", "state", "table", "bit", "then"] : List Str).Nodup := sc_moves_from.nd
  have z := fn_ok (P := P) (w := w) (mg := mg) (base := base) (k := ⟨K, cl⟩) (fr := false) (lv := 1) (as := [2, 1, 3, 4, 2, 2]) (s := m_moves_from) F sc_moves_from fun cdv A outer sh H G0 hr => by
    have hu := hr.units
    have hu5 := hr.units5
    exact (b_nest (en_dc 2 [("state", 1)] hu rfl nd (i_seq rfl (d_meth0S 3 h_Supply_reached hr (by decide) (d_v 0))) (blkOk_by (N := ["supply", "state", "table", "bit", "then"]) (sc := (defScope st_moves_from)) (by decide +kernel)) (fun _ _ _ _ _ => (g_n 1 nd)) (fun _ _ _ _ _ => ts_n) (fun _ _ _ _ _ => (d_v 1)))
    (r_cons (n_for PassesOwn.never rfl (i_seq rfl (d_fld 3 1 C_Supply rfl (d_w 0))) (fun H0 G0 => (g_t rfl rfl (gs_c (g_n 1 nd) (gs_c (g_n 3 nd) (gs_c (g_n 4 nd) gs_n))))) (n_one (n_if (tn_in hu (d_w 1)) (n_one (n_app hu (d_w 1) (d_tup (d_ac (d_v 3) (d_ac (d_v 4) d_an))))) n_nil)))
    (r_end (b_one (s_fzL 2 (s_ret (d_v 2)))))))
  exact ⟨f, fd, ["supply"], rfl, z, mgf, F.kp, F.bindsN fun _ _ _ _ _ _ us hl => match us, hl with | [_], _ => rfl⟩
def m_word_to : FS :=
    (sSeq (sSet 2 (eC d_moves_from (aC (eV 0) aN)))
    (sSeq (sOwn 3 (fun _ => .ok (.dic [] [])))
    (sSeq (sFor (fun S => (e1 (fldD 3 2) (eW 0)) S >>= itemsD) (gN 4) (sPutA 3 (eW 4) eN))
    (sSeq (sSet 5 (eC (f1 lstD) (aC (e1 (fldD 3 2) (eW 0)) aN)))
    (sSeq (whileF (tT' (eW 5)) (sSeq (sOwn 6 (eL aN))
    (sSeq (sFor (fun S => (eC (f1 lstD) (aC (eW 5) aN)) S >>= itemsD) (gN 4) (sFor (fun S => (e2 ixA (eW 2) (eW 4)) S >>= itemsD) (gT 2 (gsC (gN 7) (gsC (gN 8) gsN))) (sIf (tB' (e2 notInA (eW 8) (eW 3))) (sSeq (sPutA 3 (eW 8) (eT (aC (eV 4) (aC (eV 7) aN))))
    (sApp 6 (eV 8))) sNil)))
    (sFz 6 (sSet 5 (eV 6))))) 300)
    (sSeq (sOwn 9 (eL aN))
    (sSeq (whileF (tB' (e2 isntD (e2 ixA (eW 3) (eW 1)) eN)) (sSeq (sAsg (gT 2 (gsC (gN 1) (gsC (gN 7) gsN))) (e2 ixA (eW 3) (eW 1)))
    (sApp 9 (eV 7))) 300)
    (sRet (eC (f1 tupD) (aC (e1 revD (eW 9)) aN))))))))))
def d_word_to : List D → R D := fun ds => (runF false 10 m_word_to ds).nox
theorem sc_word_to : FnScope ["supply", "goal", "table", "came", "state", "level", "later", "bit", "then", "word"] ["supply", "goal"] (defScope st_word_to) := ⟨rfl, rfl, rfl, by decide +kernel, rfl, by decide +kernel, by decide +kernel⟩
theorem ok_word_to {f : Addr} {fd : FuncData} (F : FunD K "word_to" "word_to" (defArgs st_word_to) (defBody st_word_to) (defScope st_word_to) [] [] f fd) (mgf : mg "word_to" = some (.ref f)) (B : Bt mg) (h_moves_from : Callee P w K mg base ⟨K, cl⟩ 2 "moves_from" 1 false d_moves_from) (C_Supply : ClsI K ⟨K, cl⟩ 3 (["size", "steps", "starts", "moves"] : List Str)) : Callee P w K mg base ⟨K, cl⟩ 3 "word_to" 2 false d_word_to := by
  have nd : (["supply", "goal", "table", "came", "state", "level", "later", "bit", "then", "word"] : List Str).Nodup := sc_word_to.nd
  have z := fn_ok (P := P) (w := w) (mg := mg) (base := base) (k := ⟨K, cl⟩) (fr := false) (lv := 2) (as := [2, 3, 4, 1003, 5, 6, 4, 7, 8, 1003, 1006, 6, 5, 9, 1, 7, 1009]) (s := m_word_to) F sc_word_to fun cdv A outer sh H G0 hr => by
    have hu := hr.units
    have hu5 := hr.units5
    exact (b_cons (s_set 2 nd (d_callS (h_moves_from.at hr (by decide)) (d_ac (d_v 0) d_an) (len_c len_n)))
    (b_cons (s_own 3 nd d_dnewK)
    (b_cons (s_for PassesOwn.never rfl (i_seq rfl (d_fld 3 2 C_Supply rfl (d_w 0))) (g_n 4 nd) (b_one (s_putA 3 hu d_non (d_w 4))))
    (b_cons (s_set 5 nd (d_z (d_btyp (c_lst rfl) B.list (d_ab (d_fld 3 2 C_Supply rfl (d_w 0)) d_an))))
    (b_cons (s_while 300 PassesOwn.never (d_tt rfl (d_w 5)) (b_cons (s_own 6 nd (d_lst d_an))
    (b_cons (s_for PassesOwn.never rfl (i_seq rfl (d_z (d_btyp (c_lst rfl) B.list (d_ab (d_w 5) d_an)))) (g_n 4 nd) (b_one (s_for PassesOwn.never rfl (i_seq rfl (d_ix (o_ixA rfl hu5) (d_w 2) (d_w 4))) (g_t rfl rfl (gs_c (g_n 7 nd) (gs_c (g_n 8 nd) gs_n))) (b_one (s_if (d_tc (o_notinA rfl hu5) (d_w 8) (d_w 3)) (b_cons (s_putA 3 hu (d_tup (d_ac (d_v 4) (d_ac (d_v 7) d_an))) (d_w 8))
    (b_one (s_app 6 (d_v 8)))) b_nil)))))
    (b_one (s_fz 6 (s_set 5 nd (d_v 6)))))))
    (b_cons (s_own 9 nd (d_lst d_an))
    (b_cons (s_while 300 PassesOwn.never (d_tc (o_isnt) (d_ix (o_ixA rfl hu5) (d_w 3) (d_w 1)) d_non) (b_cons (s_asg (d_ix (o_ixA rfl hu5) (d_w 3) (d_w 1)) (g_t rfl rfl (gs_c (g_n 1 nd) (gs_c (g_n 7 nd) gs_n))))
    (b_one (s_app 9 (d_v 7)))))
    (b_one (s_ret (d_btyp (c_tup rfl) B.tuple (d_ab (d_rev (d_w 9)) d_an)))))))))))
  exact ⟨f, fd, ["supply", "goal"], rfl, z, mgf, F.kp, F.bindsN fun _ _ _ _ _ _ us hl => match us, hl with | [_, _], _ => rfl⟩
def m_lowest : FS :=
    (sSeq (sPar [2, 3] (aC (eV 0) (aC (eV 1) aN)))
    (sSeq (whileF (tB' (e2 gtD (eW 3) (eI (0)))) (sPar [2, 3] (aC (eV 3) (aC (e2 modD (eC (f1 intD) (aC (eW 2) aN)) (eW 3)) aN))) 300)
    (sRet (eT (aC (e2 fdivD (eW 0) (eW 2)) (aC (e2 fdivD (eW 1) (eW 2)) aN))))))
def d_lowest : List D → R D := fun ds => (runF false 4 m_lowest ds).nox
theorem sc_lowest : FnScope ["part", "whole", "a", "b"] ["part", "whole"] (defScope st_lowest) := ⟨rfl, rfl, rfl, by decide +kernel, rfl, by decide +kernel, by decide +kernel⟩
theorem ok_lowest {f : Addr} {fd : FuncData} (F : FunD K "lowest" "lowest" (defArgs st_lowest) (defBody st_lowest) (defScope st_lowest) [] [] f fd) (mgf : mg "lowest" = some (.ref f)) (B : Bt mg)  : Callee P w K mg base ⟨K, cl⟩ 1 "lowest" 2 false d_lowest := by
  have nd : (["part", "whole", "a", "b"] : List Str).Nodup := sc_lowest.nd
  have z := fn_ok (P := P) (w := w) (mg := mg) (base := base) (k := ⟨K, cl⟩) (fr := false) (lv := 0) (as := [2, 3, 2, 3]) (s := m_lowest) F sc_lowest fun cdv A outer sh H G0 hr => by
    have hu := hr.units
    have hu5 := hr.units5
    exact (b_cons (s_par2 2 3 nd (d_ac (d_v 0) (d_ac (d_v 1) d_an)))
    (b_cons (s_while 300 PassesOwn.never (d_tc (o_gt) (d_w 3) d_int) (b_one (s_par2 2 3 nd (d_ac (d_v 3) (d_ac (d_op (o_mod) (d_btyp (c_int) B.int (d_ab (d_w 2) d_an)) (d_w 3)) d_an)))))
    (b_one (s_ret (d_tup (d_ac (d_op (o_fdiv) (d_w 0) (d_w 2)) (d_ac (d_op (o_fdiv) (d_w 1) (d_w 2)) d_an)))))))
  exact ⟨f, fd, ["part", "whole"], rfl, z, mgf, F.kp, F.bindsN fun _ _ _ _ _ _ us hl => match us, hl with | [_, _], _ => rfl⟩
def m_Rate : FS :=
    (sSeq (sFldN 5 0 0 (eV 1))
    (sSeq (sFldN 5 0 1 (eV 2))
    (sSeq (sFldN 5 0 2 (eV 3))
    (sSeq (sFldN 5 0 3 (eV 4))
    (sFldN 5 0 4 (eV 5))))))
def d_Rate : List D → R D := fun ds => (runN 6 5 m_Rate ds).nox
theorem sc_Rate : FnScope ["self", "given", "ticks", "lead", "loop", "numbers"] ["self", "given", "ticks", "lead", "loop", "numbers"] (defScope st_Rate) := ⟨rfl, rfl, rfl, by decide +kernel, rfl, by decide +kernel, by decide +kernel⟩
theorem ok_Rate {C f : Addr} {fd : FuncData} (F : FunD K "__init__" "Rate.__init__" (defArgs st_Rate) (defBody st_Rate) (defScope st_Rate) [] [] f fd) (hcl : cl 5 = some (C, (["given", "ticks", "lead", "loop", "numbers"] : List Str))) (mk : Mk K C f) (mgf : mg "Rate" = some (.ref C)) (B : Bt mg) (C_Rate : ClsI K ⟨K, cl⟩ 5 (["given", "ticks", "lead", "loop", "numbers"] : List Str)) : Maker P w K mg base ⟨K, cl⟩ 1 "Rate" 5 5 d_Rate := by
  have nd : (["self", "given", "ticks", "lead", "loop", "numbers"] : List Str).Nodup := sc_Rate.nd
  have z := init_ok (P := P) (w := w) (mg := mg) (base := base) (k := ⟨K, cl⟩) (ci := 5) (lv := 0) (as := [1000, 1000, 1000, 1000, 1000]) (s := m_Rate) F sc_Rate (by decide) fun cdv A outer sh H H0 G0 hr => by
    have hu := hr.units
    have hu5 := hr.units5
    exact (b_cons (s_fld 5 0 0 C_Rate rfl (d_v 1))
    (b_cons (s_fld 5 0 1 C_Rate rfl (d_v 2))
    (b_cons (s_fld 5 0 2 C_Rate rfl (d_v 3))
    (b_cons (s_fld 5 0 3 C_Rate rfl (d_v 4))
    (b_one (s_fld 5 0 4 C_Rate rfl (d_v 5)))))))
  exact ⟨C, f, fd, ["self", "given", "ticks", "lead", "loop", "numbers"], (["given", "ticks", "lead", "loop", "numbers"] : List Str), rfl, hcl, mk, z, mgf, F.bindsN fun _ _ _ _ _ _ us hl => match us, hl with | [_, _, _, _, _, _], _ => rfl⟩
def m_some_loop : FS :=
    (sSeq (sOwn 2 (fun _ => .ok (.dic [] [])))
    (sSeq (sOwn 3 (eL aN))
    (sSeq (whileF (tB' (e2 notInA (eW 1) (eW 2))) (sSeq (sPutA 2 (eW 1) (eC (f1 lenD) (aC (eW 3) aN)))
    (sSeq (sAsg (gT 2 (gsC (gN 4) (gsC (gN 5) gsN))) (e2 ixA (e2 ixA (eW 0) (eW 1)) (eI (0))))
    (sSeq (sApp 3 (eT (aC (eV 1) (aC (eV 4) aN))))
    (sSet 1 (eV 5))))) 300)
    (sRet (eSl (eW 3) (oS (e2 ixA (eW 2) (eW 1))) oN)))))
def d_some_loop : List D → R D := fun ds => (runF false 6 m_some_loop ds).nox
theorem sc_some_loop : FnScope ["table", "state", "places", "row", "bit", "then"] ["table", "state"] (defScope st_some_loop) := ⟨rfl, rfl, rfl, by decide +kernel, rfl, by decide +kernel, by decide +kernel⟩
theorem ok_some_loop {f : Addr} {fd : FuncData} (F : FunD K "some_loop" "some_loop" (defArgs st_some_loop) (defBody st_some_loop) (defScope st_some_loop) [] [] f fd) (mgf : mg "some_loop" = some (.ref f)) (B : Bt mg)  : Callee P w K mg base ⟨K, cl⟩ 1 "some_loop" 2 false d_some_loop := by
  have nd : (["table", "state", "places", "row", "bit", "then"] : List Str).Nodup := sc_some_loop.nd
  have z := fn_ok (P := P) (w := w) (mg := mg) (base := base) (k := ⟨K, cl⟩) (fr := false) (lv := 0) (as := [2, 3, 1002, 4, 5, 1003, 1]) (s := m_some_loop) F sc_some_loop fun cdv A outer sh H G0 hr => by
    have hu := hr.units
    have hu5 := hr.units5
    exact (b_cons (s_own 2 nd d_dnewK)
    (b_cons (s_own 3 nd (d_lst d_an))
    (b_cons (s_while 300 PassesOwn.never (d_tc (o_notinA rfl hu5) (d_w 1) (d_w 2)) (b_cons (s_putA 2 hu (d_bltn (c_len rfl) B.len (d_ab (d_w 3) d_an)) (d_w 1))
    (b_cons (s_asg (d_ix (o_ixA rfl hu5) (d_ix (o_ixA rfl hu5) (d_w 0) (d_w 1)) d_int) (g_t rfl rfl (gs_c (g_n 4 nd) (gs_c (g_n 5 nd) gs_n))))
    (b_cons (s_app 3 (d_tup (d_ac (d_v 1) (d_ac (d_v 4) d_an))))
    (b_one (s_set 1 nd (d_v 5)))))))
    (b_one (s_ret (d_sl rfl (d_w 3) (d_os (d_ix (o_ixA rfl hu5) (d_w 2) (d_w 1))) d_on))))))
  exact ⟨f, fd, ["table", "state"], rfl, z, mgf, F.kp, F.bindsN fun _ _ _ _ _ _ us hl => match us, hl with | [_, _], _ => rfl⟩
def m_mean_of : FS :=
    (sRet (eC d_lowest (aC (eC (f1 sumAD) (aC (lcE (fun S => (eV 0) S >>= itemsD) (gT 2 (gsC (gN 1) (gsC (gN 2) gsN))) tY (eV 2) [1, 2]) aN)) (aC (eC (f1 lenD) (aC (eW 0) aN)) aN))))
def d_mean_of : List D → R D := fun ds => (runF false 3 m_mean_of ds).nox
theorem sc_mean_of : FnScope ["loop", "state", "bit"] ["loop"] (defScope st_mean_of) := ⟨rfl, rfl, rfl, by decide +kernel, rfl, by decide +kernel, by decide +kernel⟩
theorem ok_mean_of {f : Addr} {fd : FuncData} (F : FunD K "mean_of" "mean_of" (defArgs st_mean_of) (defBody st_mean_of) (defScope st_mean_of) [] [] f fd) (mgf : mg "mean_of" = some (.ref f)) (B : Bt mg) (h_lowest : Callee P w K mg base ⟨K, cl⟩ 1 "lowest" 2 false d_lowest) : Callee P w K mg base ⟨K, cl⟩ 2 "mean_of" 1 false d_mean_of := by
  have nd : (["loop", "state", "bit"] : List Str).Nodup := sc_mean_of.nd
  have z := fn_ok (P := P) (w := w) (mg := mg) (base := base) (k := ⟨K, cl⟩) (fr := false) (lv := 1) (as := []) (s := m_mean_of) F sc_mean_of fun cdv A outer sh H G0 hr => by
    have hu := hr.units
    have hu5 := hr.units5
    exact (b_one (s_ret (d_callS (h_lowest.at hr (by decide)) (d_ac (d_bltn (c_sumA rfl rfl) B.sum (d_ab (d_lc [("state", 1), ("bit", 2)] rfl nd (i_seq rfl (d_v 0)) (blkOk_by (N := ["loop", "state", "bit"]) (sc := (defScope st_mean_of)) (by decide +kernel)) (fun _ _ _ _ _ => (g_t rfl rfl (gs_c (g_n 1 nd) (gs_c (g_n 2 nd) gs_n)))) (fun _ _ _ _ _ => ts_n) (fun _ _ _ _ _ => (d_v 2))) d_an)) (d_ac (d_bltn (c_len rfl) B.len (d_ab (d_w 0) d_an)) d_an)) (len_c (len_c len_n)))))
  exact ⟨f, fd, ["loop"], rfl, z, mgf, F.kp, F.bindsN fun _ _ _ _ _ _ us hl => match us, hl with | [_], _ => rfl⟩
def m_loop_behind : FS :=
    (sSeq (sFor (fun S => (aC (eC (f1 lenD) (aC (eW 0) aN)) aN) S >>= rng1) (gN 2) (sSet 1 (e2 ixA (e2 ixA (eW 0) (eW 1)) (eI (0)))))
    (sSeq (sOwn 3 (eL (aC (e2 ixA (eW 0) (eW 1)) aN)))
    (sSeq (whileF (tB' (e2 neD (e2 ixA (e2 ixA (eW 3) (e1 negD (eI (1)))) (eI (0))) (eW 1))) (sApp 3 (e2 ixA (eW 0) (e2 ixA (e2 ixA (eW 3) (e1 negD (eI (1)))) (eI (0))))) 300)
    (sRet (e1 revD (eW 3))))))
def d_loop_behind : List D → R D := fun ds => (runF false 4 m_loop_behind ds).nox
theorem sc_loop_behind : FnScope ["came", "state", "turn", "row"] ["came", "state"] (defScope st_loop_behind) := ⟨rfl, rfl, rfl, by decide +kernel, rfl, by decide +kernel, by decide +kernel⟩
theorem ok_loop_behind {f : Addr} {fd : FuncData} (F : FunD K "loop_behind" "loop_behind" (defArgs st_loop_behind) (defBody st_loop_behind) (defScope st_loop_behind) [] [] f fd) (mgf : mg "loop_behind" = some (.ref f)) (B : Bt mg)  : Callee P w K mg base ⟨K, cl⟩ 1 "loop_behind" 2 false d_loop_behind := by
  have nd : (["came", "state", "turn", "row"] : List Str).Nodup := sc_loop_behind.nd
  have z := fn_ok (P := P) (w := w) (mg := mg) (base := base) (k := ⟨K, cl⟩) (fr := false) (lv := 0) (as := [2, 1, 3, 1003]) (s := m_loop_behind) F sc_loop_behind fun cdv A outer sh H G0 hr => by
    have hu := hr.units
    have hu5 := hr.units5
    exact (b_cons (s_for PassesOwn.never rfl (i_rng1 B.range (d_ab (d_bltn (c_len rfl) B.len (d_ab (d_w 0) d_an)) d_an)) (g_n 2 nd) (b_one (s_set 1 nd (d_ix (o_ixA rfl hu5) (d_ix (o_ixA rfl hu5) (d_w 0) (d_w 1)) d_int))))
    (b_cons (s_own 3 nd (d_lst (d_ac (d_ix (o_ixA rfl hu5) (d_w 0) (d_w 1)) d_an)))
    (b_cons (s_while 300 PassesOwn.never (d_tc (o_ne rfl hu) (d_ix (o_ixA rfl hu5) (d_ix (o_ixA rfl hu5) (d_w 3) (d_un o_neg d_int)) d_int) (d_w 1)) (b_one (s_app 3 (d_ix (o_ixA rfl hu5) (d_w 0) (d_ix (o_ixA rfl hu5) (d_ix (o_ixA rfl hu5) (d_w 3) (d_un o_neg d_int)) d_int)))))
    (b_one (s_ret (d_z (d_rev (d_w 3))))))))
  exact ⟨f, fd, ["came", "state"], rfl, z, mgf, F.kp, F.bindsN fun _ _ _ _ _ _ us hl => match us, hl with | [_, _], _ => rfl⟩
def m_lesser_loop : FS :=
    (sSeq (sOwn 3 (fun _ => .ok (.dic [] [])))
    (sSeq (sOwn 4 (fun _ => .ok (.dic [] [])))
    (sSeq (sFor (fun S => (eV 0) S >>= keysF) (gN 5) (sSeq (sPutA 3 (eW 5) (eI (0)))
    (sPutA 4 (eW 5) eN)))
    (sSeq (sFor (fun S => (aC (eC (f1 lenD) (aC (eW 0) aN)) aN) S >>= rng1) (gN 6) (sSeq (sOwn 7 (eL aN))
    (sSeq (sFor (fun S => (eV 0) S >>= keysF) (gN 5) (sFor (fun S => (e2 ixA (eW 0) (eW 5)) S >>= itemsD) (gT 2 (gsC (gN 8) (gsC (gN 9) gsN))) (sSeq (sSet 10 (e2 subD (e2 addD (e2 ixA (eW 3) (eW 5)) (e2 mulD (eW 2) (eW 8))) (eW 1)))
    (sIf (tB' (e2 ltD (eW 10) (e2 ixA (eW 3) (eW 9)))) (sSeq (sPutA 3 (eW 9) (eV 10))
    (sSeq (sPutA 4 (eW 9) (eT (aC (eV 5) (aC (eV 8) aN))))
    (sApp 7 (eV 9)))) sNil))))
    (sIf (tNo (tT' (eW 7))) (sFz 3 (sRet (eT (aC (eV 3) (aC eN aN))))) sNil))))
    (sFz 4 (sRet (eT (aC eN (aC (eC d_loop_behind (aC (eV 4) (aC (e2 ixA (eW 7) (e1 negD (eI (1)))) aN))) aN)))))))))
def d_lesser_loop : List D → R D := fun ds => (runF false 11 m_lesser_loop ds).nox
theorem sc_lesser_loop : FnScope ["table", "given", "ticks", "numbers", "came", "state", "turn", "lowered", "bit", "then", "number"] ["table", "given", "ticks"] (defScope st_lesser_loop) := ⟨rfl, rfl, rfl, by decide +kernel, rfl, by decide +kernel, by decide +kernel⟩
theorem ok_lesser_loop {f : Addr} {fd : FuncData} (F : FunD K "lesser_loop" "lesser_loop" (defArgs st_lesser_loop) (defBody st_lesser_loop) (defScope st_lesser_loop) [] [] f fd) (mgf : mg "lesser_loop" = some (.ref f)) (B : Bt mg) (h_loop_behind : Callee P w K mg base ⟨K, cl⟩ 1 "loop_behind" 2 false d_loop_behind) : Callee P w K mg base ⟨K, cl⟩ 2 "lesser_loop" 3 false d_lesser_loop := by
  have nd : (["table", "given", "ticks", "numbers", "came", "state", "turn", "lowered", "bit", "then", "number"] : List Str).Nodup := sc_lesser_loop.nd
  have z := fn_ok (P := P) (w := w) (mg := mg) (base := base) (k := ⟨K, cl⟩) (fr := false) (lv := 1) (as := [3, 4, 5, 1003, 1004, 6, 7, 5, 8, 9, 10, 1003, 1004, 1007, 3, 4]) (s := m_lesser_loop) F sc_lesser_loop fun cdv A outer sh H G0 hr => by
    have hu := hr.units
    have hu5 := hr.units5
    exact (b_cons (s_own 3 nd d_dnewK)
    (b_cons (s_own 4 nd d_dnewK)
    (b_cons (s_for PassesOwn.never rfl (i_keysF (d_v 0)) (g_n 5 nd) (b_cons (s_putA 3 hu d_int (d_w 5))
    (b_one (s_putA 4 hu d_non (d_w 5)))))
    (b_cons (s_for PassesOwn.never rfl (i_rng1 B.range (d_ab (d_bltn (c_len rfl) B.len (d_ab (d_w 0) d_an)) d_an)) (g_n 6 nd) (b_cons (s_own 7 nd (d_lst d_an))
    (b_cons (s_for PassesOwn.never rfl (i_keysF (d_v 0)) (g_n 5 nd) (b_one (s_for PassesOwn.never rfl (i_seq rfl (d_ix (o_ixA rfl hu5) (d_w 0) (d_w 5))) (g_t rfl rfl (gs_c (g_n 8 nd) (gs_c (g_n 9 nd) gs_n))) (b_cons (s_set 10 nd (d_op (o_sub) (d_op (o_add rfl) (d_ix (o_ixA rfl hu5) (d_w 3) (d_w 5)) (d_op (o_mul rfl) (d_w 2) (d_w 8))) (d_w 1)))
    (b_one (s_if (d_tc (o_lt) (d_w 10) (d_ix (o_ixA rfl hu5) (d_w 3) (d_w 9))) (b_cons (s_putA 3 hu (d_v 10) (d_w 9))
    (b_cons (s_putA 4 hu (d_tup (d_ac (d_v 5) (d_ac (d_v 8) d_an))) (d_w 9))
    (b_one (s_app 7 (d_v 9))))) b_nil))))))
    (b_one (s_if (d_not (d_tt rfl (d_w 7))) (b_one (s_fz 3 (s_ret (d_tup (d_ac (d_v 3) (d_ac d_non d_an)))))) b_nil)))))
    (b_one (s_fz 4 (s_ret (d_tup (d_ac d_non (d_ac (d_callS (h_loop_behind.at hr (by decide)) (d_ac (d_v 4) (d_ac (d_ix (o_ixA rfl hu5) (d_w 7) (d_un o_neg d_int)) d_an)) (len_c (len_c len_n))) d_an))))))))))
  exact ⟨f, fd, ["table", "given", "ticks"], rfl, z, mgf, F.kp, F.bindsN fun _ _ _ _ _ _ us hl => match us, hl with | [_, _, _], _ => rfl⟩
def m_rate : FS :=
    (sSeq (sSet 1 (eC d_moves_from (aC (eV 0) aN)))
    (sSeq (sSet 2 (eC d_some_loop (aC (eV 1) (aC (e2 ixA (e1 (fldD 3 2) (eW 0)) (eI (0))) aN))))
    (whileF (tT' (eB true)) (sSeq (sAsg (gT 2 (gsC (gN 3) (gsC (gN 4) gsN))) (eC d_mean_of (aC (eV 2) aN)))
    (sSeq (sAsg (gT 2 (gsC (gN 5) (gsC (gN 6) gsN))) (eC d_lesser_loop (aC (eV 1) (aC (eV 3) (aC (eV 4) aN)))))
    (sSeq (sIf (tB' (e2 isD (eW 6) eN)) (sSeq (sSet 7 (eC d_word_to (aC (eV 0) (aC (e2 ixA (e2 ixA (eW 2) (eI (0))) (eI (0))) aN))))
    (sRet (eC d_Rate (aC (eV 3) (aC (eV 4) (aC (eV 7) (aC (eC (f1 tupD) (aC (lcE (fun S => (eV 2) S >>= itemsD) (gT 2 (gsC (gN 8) (gsC (gN 9) gsN))) tY (eV 9) [8, 9]) aN)) (aC (eV 5) aN)))))))) sNil)
    (sSet 2 (eV 6))))) 20000)))
def d_rate : List D → R D := fun ds => (runF false 10 m_rate ds).nox
theorem sc_rate : FnScope ["supply", "table", "loop", "given", "ticks", "numbers", "lesser", "lead", "state", "bit"] ["supply"] (defScope st_rate) := ⟨rfl, rfl, rfl, by decide +kernel, rfl, by decide +kernel, by decide +kernel⟩
theorem ok_rate {f : Addr} {fd : FuncData} (F : FunD K "rate" "rate" (defArgs st_rate) (defBody st_rate) (defScope st_rate) [] [] f fd) (mgf : mg "rate" = some (.ref f)) (B : Bt mg) (h_moves_from : Callee P w K mg base ⟨K, cl⟩ 2 "moves_from" 1 false d_moves_from) (h_some_loop : Callee P w K mg base ⟨K, cl⟩ 1 "some_loop" 2 false d_some_loop) (C_Supply : ClsI K ⟨K, cl⟩ 3 (["size", "steps", "starts", "moves"] : List Str)) (h_mean_of : Callee P w K mg base ⟨K, cl⟩ 2 "mean_of" 1 false d_mean_of) (h_lesser_loop : Callee P w K mg base ⟨K, cl⟩ 2 "lesser_loop" 3 false d_lesser_loop) (h_word_to : Callee P w K mg base ⟨K, cl⟩ 3 "word_to" 2 false d_word_to) (h_Rate : Maker P w K mg base ⟨K, cl⟩ 1 "Rate" 5 5 d_Rate) : Callee P w K mg base ⟨K, cl⟩ 4 "rate" 1 false d_rate := by
  have nd : (["supply", "table", "loop", "given", "ticks", "numbers", "lesser", "lead", "state", "bit"] : List Str).Nodup := sc_rate.nd
  have z := fn_ok (P := P) (w := w) (mg := mg) (base := base) (k := ⟨K, cl⟩) (fr := false) (lv := 3) (as := [1, 2, 3, 4, 5, 6, 7, 2]) (s := m_rate) F sc_rate fun cdv A outer sh H G0 hr => by
    have hu := hr.units
    have hu5 := hr.units5
    exact (b_cons (s_set 1 nd (d_callS (h_moves_from.at hr (by decide)) (d_ac (d_v 0) d_an) (len_c len_n)))
    (b_cons (s_set 2 nd (d_callS (h_some_loop.at hr (by decide)) (d_ac (d_v 1) (d_ac (d_ix (o_ixA rfl hu5) (d_fld 3 2 C_Supply rfl (d_w 0)) d_int) d_an)) (len_c (len_c len_n))))
    (b_one (s_while 20000 PassesOwn.never (d_tt rfl d_bl) (b_cons (s_asg (d_callS (h_mean_of.at hr (by decide)) (d_ac (d_v 2) d_an) (len_c len_n)) (g_t rfl rfl (gs_c (g_n 3 nd) (gs_c (g_n 4 nd) gs_n))))
    (b_cons (s_asg (d_callS (h_lesser_loop.at hr (by decide)) (d_ac (d_v 1) (d_ac (d_v 3) (d_ac (d_v 4) d_an))) (len_c (len_c (len_c len_n)))) (g_t rfl rfl (gs_c (g_n 5 nd) (gs_c (g_n 6 nd) gs_n))))
    (b_cons (s_if (d_tc (o_is) (d_w 6) d_non) (b_cons (s_set 7 nd (d_callS (h_word_to.at hr (by decide)) (d_ac (d_v 0) (d_ac (d_ix (o_ixA rfl hu5) (d_ix (o_ixA rfl hu5) (d_w 2) d_int) d_int) d_an)) (len_c (len_c len_n))))
    (b_one (s_ret (d_z (d_maker h_Rate hr (by decide) (d_ac (d_v 3) (d_ac (d_v 4) (d_ac (d_v 7) (d_ac (d_btyp (c_tup rfl) B.tuple (d_ab (d_lc [("state", 8), ("bit", 9)] rfl nd (i_seq rfl (d_v 2)) (blkOk_by (N := ["supply", "table", "loop", "given", "ticks", "numbers", "lesser", "lead", "state", "bit"]) (sc := (defScope st_rate)) (by decide +kernel)) (fun _ _ _ _ _ => (g_t rfl rfl (gs_c (g_n 8 nd) (gs_c (g_n 9 nd) gs_n)))) (fun _ _ _ _ _ => ts_n) (fun _ _ _ _ _ => (d_v 9))) d_an)) (d_ac (d_v 5) d_an))))) (len_c (len_c (len_c (len_c (len_c len_n)))))))))) b_nil)
    (b_one (s_set 2 nd (d_v 6))))))))))
  exact ⟨f, fd, ["supply"], rfl, z, mgf, F.kp, F.bindsN fun _ _ _ _ _ _ us hl => match us, hl with | [_], _ => rfl⟩
def m__law_number : FS :=
    (sSeq (sIf (tB' (e2 ltD (eW 1) (eC (f1 lenD) (aC (eW 0) aN)))) (sRet (eC (f1 absD) (aC (eC (f1 intD) (aC (e2 ixA (eW 0) (eW 1)) aN)) aN))) sNil)
    (sSeq (sSet 2 (eI (0)))
    (sSeq (sIf (tB' (e2 gtD (eC (f1 lenD) (aC (eW 0) aN)) (eI (0)))) (sSet 2 (eC (f1 absD) (aC (eC (f1 intD) (aC (e2 ixA (eW 0) (e1 negD (eI (1)))) aN)) aN))) sNil)
    (sSeq (sSet 3 (e2 modD (eC (f1 intD) (aC (e2 addD (e2 addD (e2 mulD (e2 modD (eC (f1 intD) (aC (eW 2) aN)) (eI (10007))) (eI (31))) (e2 mulD (eW 1) (eI (17)))) (eI (5))) aN)) (eI (10007))))
    (sSeq (sFor (fun S => (aC (e2 addD (e2 subD (eW 1) (eC (f1 lenD) (aC (eW 0) aN))) (eI (1))) aN) S >>= rng1) (gN 4) (sSet 2 (e2 fdivD (eW 2) (eI (1000003)))))
    (sSeq (sIf (tB' (e2 gtD (eW 2) (eI (0)))) (sRet (e2 modD (eC (f1 intD) (aC (eW 2) aN)) (eI (1000003)))) sNil)
    (sSeq (sSet 3 (e2 modD (eC (f1 intD) (aC (e2 addD (e2 mulD (eW 3) (eW 3)) (eW 1)) aN)) (eI (9973))))
    (sRet (e2 modD (eC (f1 intD) (aC (e2 addD (e2 mulD (eW 3) (eW 3)) (eW 1)) aN)) (eI (9949)))))))))))
def d__law_number : List D → R D := fun ds => (runF false 5 m__law_number ds).nox
theorem sc__law_number : FnScope ["_law_script", "_law_at", "_law_rest", "_law_mixed", "_law_turn"] ["_law_script", "_law_at"] (defScope st__law_number) := ⟨rfl, rfl, rfl, by decide +kernel, rfl, by decide +kernel, by decide +kernel⟩
theorem ok__law_number {f : Addr} {fd : FuncData} (F : FunD K "_law_number" "_law_number" (defArgs st__law_number) (defBody st__law_number) (defScope st__law_number) [] [] f fd) (mgf : mg "_law_number" = some (.ref f)) (B : Bt mg)  : Callee P w K mg base ⟨K, cl⟩ 1 "_law_number" 2 false d__law_number := by
  have nd : (["_law_script", "_law_at", "_law_rest", "_law_mixed", "_law_turn"] : List Str).Nodup := sc__law_number.nd
  have z := fn_ok (P := P) (w := w) (mg := mg) (base := base) (k := ⟨K, cl⟩) (fr := false) (lv := 0) (as := [2, 2, 3, 4, 2, 3]) (s := m__law_number) F sc__law_number fun cdv A outer sh H G0 hr => by
    have hu := hr.units
    have hu5 := hr.units5
    exact (b_cons (s_if (d_tc (o_lt) (d_w 1) (d_bltn (c_len rfl) B.len (d_ab (d_w 0) d_an))) (b_one (s_ret (d_bltn (c_abs) B.abs (d_ab (d_btyp (c_int) B.int (d_ab (d_ix (o_ixA rfl hu5) (d_w 0) (d_w 1)) d_an)) d_an)))) b_nil)
    (b_cons (s_set 2 nd d_int)
    (b_cons (s_if (d_tc (o_gt) (d_bltn (c_len rfl) B.len (d_ab (d_w 0) d_an)) d_int) (b_one (s_set 2 nd (d_bltn (c_abs) B.abs (d_ab (d_btyp (c_int) B.int (d_ab (d_ix (o_ixA rfl hu5) (d_w 0) (d_un o_neg d_int)) d_an)) d_an)))) b_nil)
    (b_cons (s_set 3 nd (d_op (o_mod) (d_btyp (c_int) B.int (d_ab (d_op (o_add rfl) (d_op (o_add rfl) (d_op (o_mul rfl) (d_op (o_mod) (d_btyp (c_int) B.int (d_ab (d_w 2) d_an)) d_int) d_int) (d_op (o_mul rfl) (d_w 1) d_int)) d_int) d_an)) d_int))
    (b_cons (s_for PassesOwn.never rfl (i_rng1 B.range (d_ab (d_op (o_add rfl) (d_op (o_sub) (d_w 1) (d_bltn (c_len rfl) B.len (d_ab (d_w 0) d_an))) d_int) d_an)) (g_n 4 nd) (b_one (s_set 2 nd (d_op (o_fdiv) (d_w 2) d_int))))
    (b_cons (s_if (d_tc (o_gt) (d_w 2) d_int) (b_one (s_ret (d_op (o_mod) (d_btyp (c_int) B.int (d_ab (d_w 2) d_an)) d_int))) b_nil)
    (b_cons (s_set 3 nd (d_op (o_mod) (d_btyp (c_int) B.int (d_ab (d_op (o_add rfl) (d_op (o_mul rfl) (d_w 3) (d_w 3)) (d_w 1)) d_an)) d_int))
    (b_one (s_ret (d_op (o_mod) (d_btyp (c_int) B.int (d_ab (d_op (o_add rfl) (d_op (o_mul rfl) (d_w 3) (d_w 3)) (d_w 1)) d_an)) d_int))))))))))
  exact ⟨f, fd, ["_law_script", "_law_at"], rfl, z, mgf, F.kp, F.bindsN fun _ _ _ _ _ _ us hl => match us, hl with | [_, _], _ => rfl⟩
def m__law_machine : FS :=
    (sSeq (sOwn 5 (eL aN))
    (sSeq (sFor (fun S => (aC (eW 2) aN) S >>= rng1) (gN 6) (sSeq (sSet 7 (eC d__law_number (aC (eV 0) (aC (e2 addD (eW 1) (eW 6)) aN))))
    (sFor (fun S => (aC (eW 3) aN) S >>= rng1) (gN 8) (sIf (tO (tB' (e2 eqD (eW 8) (eI (0)))) (tB' (e2 gtD (eW 7) (eI (0))))) (sSeq (sSet 9 (e2 modD (eC (f1 intD) (aC (eW 7) aN)) (e2 mulD (eI (3)) (eW 2))))
    (sSeq (sSet 7 (e2 fdivD (eW 7) (e2 mulD (eI (3)) (eW 2))))
    (sSeq (sSet 10 (eT (aC (eV 6) (aC (eC (f1 intD) (aC (e2 neD (e2 gtD (e2 modD (eC (f1 intD) (aC (eW 9) aN)) (eI (3))) (eI (0))) (eW 4)) aN)) (aC (e2 modD (eC (f1 intD) (aC (e2 addD (e2 addD (e2 fdivD (eW 9) (eI (3))) (eW 6)) (eI (1))) aN)) (eW 2)) aN)))))
    (sIf (tB' (e2 notInA (eW 10) (eW 5))) (sApp 5 (eV 10)) sNil)))) sNil))))
    (sRet (eC (f1 srtAD) (aC (eW 5) aN)))))
def d__law_machine : List D → R D := fun ds => (runF false 11 m__law_machine ds).nox
theorem sc__law_machine : FnScope ["_law_script", "_law_first", "_law_size", "_law_turns", "_law_flip", "_law_steps", "_law_state", "_law_rest", "_law_turn", "_law_digit", "_law_step"] ["_law_script", "_law_first", "_law_size", "_law_turns", "_law_flip"] (defScope st__law_machine) := ⟨rfl, rfl, rfl, by decide +kernel, rfl, by decide +kernel, by decide +kernel⟩
theorem ok__law_machine {f : Addr} {fd : FuncData} (F : FunD K "_law_machine" "_law_machine" (defArgs st__law_machine) (defBody st__law_machine) (defScope st__law_machine) [] [] f fd) (mgf : mg "_law_machine" = some (.ref f)) (B : Bt mg) (h__law_number : Callee P w K mg base ⟨K, cl⟩ 1 "_law_number" 2 false d__law_number) : Callee P w K mg base ⟨K, cl⟩ 2 "_law_machine" 5 false d__law_machine := by
  have nd : (["_law_script", "_law_first", "_law_size", "_law_turns", "_law_flip", "_law_steps", "_law_state", "_law_rest", "_law_turn", "_law_digit", "_law_step"] : List Str).Nodup := sc__law_machine.nd
  have z := fn_ok (P := P) (w := w) (mg := mg) (base := base) (k := ⟨K, cl⟩) (fr := false) (lv := 1) (as := [5, 6, 7, 8, 9, 7, 10, 1005]) (s := m__law_machine) F sc__law_machine fun cdv A outer sh H G0 hr => by
    have hu := hr.units
    have hu5 := hr.units5
    exact (b_cons (s_own 5 nd (d_lst d_an))
    (b_cons (s_for PassesOwn.never rfl (i_rng1 B.range (d_ab (d_w 2) d_an)) (g_n 6 nd) (b_cons (s_set 7 nd (d_callS (h__law_number.at hr (by decide)) (d_ac (d_v 0) (d_ac (d_op (o_add rfl) (d_w 1) (d_w 6)) d_an)) (len_c (len_c len_n))))
    (b_one (s_for PassesOwn.never rfl (i_rng1 B.range (d_ab (d_w 3) d_an)) (g_n 8 nd) (b_one (s_if (d_pw (d_or (d_tc (o_eq rfl hu) (d_w 8) d_int) (d_or1 (d_tc (o_gt) (d_w 7) d_int)))) (b_cons (s_set 9 nd (d_op (o_mod) (d_btyp (c_int) B.int (d_ab (d_w 7) d_an)) (d_op (o_mul rfl) d_int (d_w 2))))
    (b_cons (s_set 7 nd (d_op (o_fdiv) (d_w 7) (d_op (o_mul rfl) d_int (d_w 2))))
    (b_cons (s_set 10 nd (d_tup (d_ac (d_v 6) (d_ac (d_btyp (c_int) B.int (d_ab (d_cmp (o_ne rfl hu) (d_cmp (o_gt) (d_op (o_mod) (d_btyp (c_int) B.int (d_ab (d_w 9) d_an)) d_int) d_int) (d_w 4)) d_an)) (d_ac (d_op (o_mod) (d_btyp (c_int) B.int (d_ab (d_op (o_add rfl) (d_op (o_add rfl) (d_op (o_fdiv) (d_w 9) d_int) (d_w 6)) d_int) d_an)) (d_w 2)) d_an)))))
    (b_one (s_if (d_tc (o_notinA rfl hu5) (d_w 10) (d_w 5)) (b_one (s_app 5 (d_v 10))) b_nil))))) b_nil))))))
    (b_one (s_ret (d_z (d_bltn (c_srtA rfl hu) B.sorted (d_ab (d_w 5) d_an)))))))
  exact ⟨f, fd, ["_law_script", "_law_first", "_law_size", "_law_turns", "_law_flip"], rfl, z, mgf, F.kp, F.bindsN fun _ _ _ _ _ _ us hl => match us, hl with | [_, _, _, _, _], _ => rfl⟩
def m__law_ring : FS :=
    (sSeq (sOwn 2 (eL aN))
    (sSeq (sSet 3 (eV 0))
    (sSeq (sFor (fun S => (aC (eW 1) aN) S >>= rng1) (gN 4) (sSeq (sSet 5 (e2 ixA (eL (aC (eI (1)) (aC (eI (0)) (aC (eI (1)) (aC (eI (2)) aN))))) (e2 modD (eC (f1 intD) (aC (eW 4) aN)) (eI (4)))))
    (sSeq (sIf (tB' (e2 gtD (eW 3) (eI (0)))) (sSeq (sSet 5 (e2 modD (eC (f1 intD) (aC (eW 3) aN)) (eI (3))))
    (sSet 3 (e2 fdivD (eW 3) (eI (3))))) sNil)
    (sExt 2 (lcE (fun S => (eT (aC (eI (0)) (aC (eI (1)) aN))) S >>= itemsD) (gN 6) (tB' (e2 inA (eW 5) (eT (aC (eV 6) (aC (eI (2)) aN))))) (eT (aC (eV 4) (aC (eV 6) (aC (e2 modD (eC (f1 intD) (aC (e2 addD (eW 4) (eI (1))) aN)) (eW 1)) aN)))) [6])))))
    (sFz 2 (sRet (eV 2))))))
def d__law_ring : List D → R D := fun ds => (runF false 7 m__law_ring ds).nox
theorem sc__law_ring : FnScope ["_law_number_here", "_law_size", "_law_steps", "_law_rest", "_law_state", "_law_digit", "_law_tick"] ["_law_number_here", "_law_size"] (defScope st__law_ring) := ⟨rfl, rfl, rfl, by decide +kernel, rfl, by decide +kernel, by decide +kernel⟩
theorem ok__law_ring {f : Addr} {fd : FuncData} (F : FunD K "_law_ring" "_law_ring" (defArgs st__law_ring) (defBody st__law_ring) (defScope st__law_ring) [] [] f fd) (mgf : mg "_law_ring" = some (.ref f)) (B : Bt mg)  : Callee P w K mg base ⟨K, cl⟩ 1 "_law_ring" 2 false d__law_ring := by
  have nd : (["_law_number_here", "_law_size", "_law_steps", "_law_rest", "_law_state", "_law_digit", "_law_tick"] : List Str).Nodup := sc__law_ring.nd
  have z := fn_ok (P := P) (w := w) (mg := mg) (base := base) (k := ⟨K, cl⟩) (fr := false) (lv := 0) (as := [2, 3, 4, 5, 5, 3, 1002, 2]) (s := m__law_ring) F sc__law_ring fun cdv A outer sh H G0 hr => by
    have hu := hr.units
    have hu5 := hr.units5
    exact (b_cons (s_own 2 nd (d_lst d_an))
    (b_cons (s_set 3 nd (d_v 0))
    (b_cons (s_for PassesOwn.never rfl (i_rng1 B.range (d_ab (d_w 1) d_an)) (g_n 4 nd) (b_cons (s_set 5 nd (d_ix (o_ixA rfl hu5) (d_lst (d_ac d_int (d_ac d_int (d_ac d_int (d_ac d_int d_an))))) (d_op (o_mod) (d_btyp (c_int) B.int (d_ab (d_w 4) d_an)) d_int)))
    (b_cons (s_if (d_tc (o_gt) (d_w 3) d_int) (b_cons (s_set 5 nd (d_op (o_mod) (d_btyp (c_int) B.int (d_ab (d_w 3) d_an)) d_int))
    (b_one (s_set 3 nd (d_op (o_fdiv) (d_w 3) d_int)))) b_nil)
    (b_one (s_ext 2 (d_lc [("_law_tick", 6)] rfl nd (i_seq rfl (d_tup (d_ac d_int (d_ac d_int d_an)))) (blkOk_by (N := ["_law_number_here", "_law_size", "_law_steps", "_law_rest", "_law_state", "_law_digit", "_law_tick"]) (sc := (defScope st__law_ring)) (by decide +kernel)) (fun _ _ _ _ _ => (g_n 6 nd)) (fun _ _ _ _ _ => (ts_1 (d_tc (o_inA rfl hu5) (d_w 5) (d_tup (d_ac (d_v 6) (d_ac d_int d_an)))))) (fun _ _ _ _ _ => (d_tup (d_ac (d_v 4) (d_ac (d_v 6) (d_ac (d_op (o_mod) (d_btyp (c_int) B.int (d_ab (d_op (o_add rfl) (d_w 4) d_int) d_an)) (d_w 1)) d_an)))))))))))
    (b_one (s_fz 2 (s_ret (d_v 2)))))))
  exact ⟨f, fd, ["_law_number_here", "_law_size"], rfl, z, mgf, F.kp, F.bindsN fun _ _ _ _ _ _ us hl => match us, hl with | [_, _], _ => rfl⟩
def m__law_share : FS :=
    (sSeq (sOwn 2 (eL aN))
    (sSeq (sFor (fun S => (aC (eW 1) aN) S >>= rng1) (gN 3) (sExt 2 (lcE (fun S => (aC (e2 addD (eC (f2 min2D) (aC (eW 3) (aC (eW 0) aN))) (eI (1))) aN) S >>= rng1) (gN 4) (tB' (e2 leD (e2 subD (eW 0) (eW 4)) (e2 subD (eW 1) (eW 3)))) (eT (aC (eV 3) (aC (eV 4) aN))) [4])))
    (sSeq (sOwn 5 (eL aN))
    (sSeq (sFor (fun S => eO 2 S >>= itemsD) (gT 2 (gsC (gN 3) (gsC (gN 4) gsN))) (sFor (fun S => (eT (aC (eI (0)) (aC (eI (1)) aN))) S >>= itemsD) (gN 6) (sSeq (sSet 7 (eT (aC (e2 addD (eW 3) (eI (1))) (aC (eC (f2 min2D) (aC (e2 addD (eW 4) (eW 6)) (aC (eW 0) aN))) aN))))
    (sSeq (sIf (tB' (e2 eqD (eW 7) (eT (aC (eV 1) (aC (eV 0) aN))))) (sSet 7 (eT (aC (eI (0)) (aC (eI (0)) aN)))) sNil)
    (sIf (tB' (e2 inA (eW 7) (eW 2))) (sApp 5 (eT (aC (eIdx (eW 2) (eT (aC (eV 3) (aC (eV 4) aN)))) (aC (eV 6) (aC (eIdx (eW 2) (eW 7)) aN))))) sNil)))))
    (sFz 5 (sRet (eT (aC (eC (f1 lenD) (aC (eW 2) aN)) (aC (eV 5) aN)))))))))
def d__law_share : List D → R D := fun ds => (runF false 8 m__law_share ds).nox
theorem sc__law_share : FnScope ["_law_q", "_law_p", "_law_pairs", "_law_i", "_law_k", "_law_steps", "_law_tick", "_law_then"] ["_law_q", "_law_p"] (defScope st__law_share) := ⟨rfl, rfl, rfl, by decide +kernel, rfl, by decide +kernel, by decide +kernel⟩
theorem ok__law_share {f : Addr} {fd : FuncData} (F : FunD K "_law_share" "_law_share" (defArgs st__law_share) (defBody st__law_share) (defScope st__law_share) [] [] f fd) (mgf : mg "_law_share" = some (.ref f)) (B : Bt mg)  : Callee P w K mg base ⟨K, cl⟩ 1 "_law_share" 2 false d__law_share := by
  have nd : (["_law_q", "_law_p", "_law_pairs", "_law_i", "_law_k", "_law_steps", "_law_tick", "_law_then"] : List Str).Nodup := sc__law_share.nd
  have z := fn_ok (P := P) (w := w) (mg := mg) (base := base) (k := ⟨K, cl⟩) (fr := false) (lv := 0) (as := [2, 3, 1002, 5, 3, 4, 6, 7, 7, 1005, 5]) (s := m__law_share) F sc__law_share fun cdv A outer sh H G0 hr => by
    have hu := hr.units
    have hu5 := hr.units5
    exact (b_cons (s_own 2 nd (d_lst d_an))
    (b_cons (s_for PassesOwn.never rfl (i_rng1 B.range (d_ab (d_w 1) d_an)) (g_n 3 nd) (b_one (s_ext 2 (d_lc [("_law_k", 4)] rfl nd (i_rng1 B.range (d_ab (d_op (o_add rfl) (d_bltn (c_min2 rfl) B.min (d_ab (d_w 3) (d_ab (d_w 0) d_an))) d_int) d_an)) (blkOk_by (N := ["_law_q", "_law_p", "_law_pairs", "_law_i", "_law_k", "_law_steps", "_law_tick", "_law_then"]) (sc := (defScope st__law_share)) (by decide +kernel)) (fun _ _ _ _ _ => (g_n 4 nd)) (fun _ _ _ _ _ => (ts_1 (d_tc (o_le) (d_op (o_sub) (d_w 0) (d_w 4)) (d_op (o_sub) (d_w 1) (d_w 3))))) (fun _ _ _ _ _ => (d_tup (d_ac (d_v 3) (d_ac (d_v 4) d_an))))))))
    (b_cons (s_own 5 nd (d_lst d_an))
    (b_cons (s_for PassesOwn.never rfl (i_own 2) (g_t rfl rfl (gs_c (g_n 3 nd) (gs_c (g_n 4 nd) gs_n))) (b_one (s_for PassesOwn.never rfl (i_seq rfl (d_tup (d_ac d_int (d_ac d_int d_an)))) (g_n 6 nd) (b_cons (s_set 7 nd (d_tup (d_ac (d_op (o_add rfl) (d_w 3) d_int) (d_ac (d_bltn (c_min2 rfl) B.min (d_ab (d_op (o_add rfl) (d_w 4) (d_w 6)) (d_ab (d_w 0) d_an))) d_an))))
    (b_cons (s_if (d_tc (o_eq rfl hu) (d_w 7) (d_tup (d_ac (d_v 1) (d_ac (d_v 0) d_an)))) (b_one (s_set 7 nd (d_tup (d_ac d_int (d_ac d_int d_an))))) b_nil)
    (b_one (s_if (d_tc (o_inA rfl hu5) (d_w 7) (d_w 2)) (b_one (s_app 5 (d_tup (d_ac (d_idx rfl hu5 (d_w 2) (d_tup (d_ac (d_v 3) (d_ac (d_v 4) d_an)))) (d_ac (d_v 6) (d_ac (d_idx rfl hu5 (d_w 2) (d_w 7)) d_an)))))) b_nil)))))))
    (b_one (s_fz 5 (s_ret (d_tup (d_ac (d_bltn (c_len rfl) B.len (d_ab (d_w 2) d_an)) (d_ac (d_v 5) d_an))))))))))
  exact ⟨f, fd, ["_law_q", "_law_p"], rfl, z, mgf, F.kp, F.bindsN fun _ _ _ _ _ _ us hl => match us, hl with | [_, _], _ => rfl⟩
def m__law_begins : FS :=
    (sSeq (sIf (tB' (e2 eqD (e2 modD (eC (f1 intD) (aC (eW 0) aN)) (eI (4))) (eI (2)))) (sRet (eT (aC (e2 subD (eW 1) (eI (1))) aN))) sNil)
    (sSeq (sIf (tA (tB' (e2 eqD (e2 modD (eC (f1 intD) (aC (eW 0) aN)) (eI (4))) (eI (3)))) (tB' (e2 gtD (eW 1) (eI (1))))) (sRet (eT (aC (eI (0)) (aC (e2 subD (eW 1) (eI (1))) aN)))) sNil)
    (sRet (eT (aC (eI (0)) aN)))))
def d__law_begins : List D → R D := fun ds => (runF false 2 m__law_begins ds).nox
theorem sc__law_begins : FnScope ["_law_number_here", "_law_size"] ["_law_number_here", "_law_size"] (defScope st__law_begins) := ⟨rfl, rfl, rfl, by decide +kernel, rfl, by decide +kernel, by decide +kernel⟩
theorem ok__law_begins {f : Addr} {fd : FuncData} (F : FunD K "_law_begins" "_law_begins" (defArgs st__law_begins) (defBody st__law_begins) (defScope st__law_begins) [] [] f fd) (mgf : mg "_law_begins" = some (.ref f)) (B : Bt mg)  : Callee P w K mg base ⟨K, cl⟩ 1 "_law_begins" 2 false d__law_begins := by
  have nd : (["_law_number_here", "_law_size"] : List Str).Nodup := sc__law_begins.nd
  have z := fn_ok (P := P) (w := w) (mg := mg) (base := base) (k := ⟨K, cl⟩) (fr := false) (lv := 0) (as := []) (s := m__law_begins) F sc__law_begins fun cdv A outer sh H G0 hr => by
    have hu := hr.units
    have hu5 := hr.units5
    exact (b_cons (s_if (d_tc (o_eq rfl hu) (d_op (o_mod) (d_btyp (c_int) B.int (d_ab (d_w 0) d_an)) d_int) d_int) (b_one (s_ret (d_tup (d_ac (d_op (o_sub) (d_w 1) d_int) d_an)))) b_nil)
    (b_cons (s_if (d_pw (d_and (d_tc (o_eq rfl hu) (d_op (o_mod) (d_btyp (c_int) B.int (d_ab (d_w 0) d_an)) d_int) d_int) (d_and1 (d_tc (o_gt) (d_w 1) d_int)))) (b_one (s_ret (d_tup (d_ac d_int (d_ac (d_op (o_sub) (d_w 1) d_int) d_an))))) b_nil)
    (b_one (s_ret (d_tup (d_ac d_int d_an))))))
  exact ⟨f, fd, ["_law_number_here", "_law_size"], rfl, z, mgf, F.kp, F.bindsN fun _ _ _ _ _ _ us hl => match us, hl with | [_, _], _ => rfl⟩
def m__law_drawn : FS :=
    (sSeq (sSet 1 (eC d__law_number (aC (eV 0) (aC (eI (0)) aN))))
    (sSeq (sSet 2 (e2 modD (eC (f1 intD) (aC (eW 1) aN)) (eI (8))))
    (sSeq (sSet 3 (e2 fdivD (eW 1) (eI (8))))
    (sSeq (sSet 4 (e2 ixA (eL (aC (eI (3)) (aC (eI (2)) (aC (eI (4)) (aC (eI (3)) (aC (eI (1)) (aC (eI (5)) (aC (eI (6)) aN)))))))) (e2 modD (eC (f1 intD) (aC (eW 3) aN)) (eI (7)))))
    (sSeq (sIf (tB' (e2 eqD (eW 2) (eI (5)))) (sSeq (sSet 5 (e2 addD (eI (1)) (e2 modD (eC (f1 intD) (aC (eW 3) aN)) (eI (8)))))
    (sAsg (gT 2 (gsC (gN 4) (gsC (gN 6) gsN))) (eC d__law_share (aC (e2 modD (eC (f1 intD) (aC (e2 fdivD (eW 3) (eI (8))) aN)) (e2 addD (eW 5) (eI (1)))) (aC (eV 5) aN))))) (sIf (tB' (e2 eqD (eW 2) (eI (6)))) (sSeq (sSet 4 (e2 addD (eI (2)) (e2 modD (eC (f1 intD) (aC (eW 3) aN)) (eI (5)))))
    (sSeq (sSet 6 (eC d__law_ring (aC (eC d__law_number (aC (eV 0) (aC (eI (2)) aN))) (aC (eV 4) aN))))
    (sSeq (sSet 7 (e2 modD (eC (f1 intD) (aC (eC d__law_number (aC (eV 0) (aC (eI (4)) aN))) aN)) (eW 4)))
    (sSeq (sSet 8 (eT (aC (eV 7) (aC (e2 modD (eC (f1 intD) (aC (eC d__law_number (aC (eV 0) (aC (eI (5)) aN))) aN)) (eI (2))) (aC (e2 modD (eC (f1 intD) (aC (eC d__law_number (aC (eV 0) (aC (eI (6)) aN))) aN)) (eW 4)) aN)))))
    (sIf (tA (tB' (e2 gtD (e2 modD (eC (f1 intD) (aC (eC d__law_number (aC (eV 0) (aC (eI (3)) aN))) aN)) (eI (3))) (eI (0)))) (tB' (e2 notInA (eW 8) (eW 6)))) (sSet 6 (e2 addD (eW 6) (eL (aC (eV 8) aN)))) sNil))))) (sIf (tB' (e2 eqD (eW 2) (eI (7)))) (sSeq (sSet 4 (e2 addD (eI (8)) (e2 modD (eC (f1 intD) (aC (eW 3) aN)) (eI (33)))))
    (sSeq (sIf (tB' (e2 eqD (e2 modD (eC (f1 intD) (aC (e2 fdivD (eW 3) (eI (33))) aN)) (eI (16))) (eI (1)))) (sSet 4 (e2 addD (eI (41)) (e2 modD (eC (f1 intD) (aC (e2 fdivD (eW 3) (eI (528))) aN)) (eI (60))))) sNil)
    (sSet 6 (eC d__law_ring (aC (eC d__law_number (aC (eV 0) (aC (eI (2)) aN))) (aC (eV 4) aN)))))) (sSet 6 (eC d__law_machine (aC (eV 0) (aC (eI (7)) (aC (eV 4) (aC (e2 ixA (eL (aC (eI (2)) (aC (eI (1)) (aC (eI (3)) (aC (eI (2)) aN))))) (e2 modD (eC (f1 intD) (aC (e2 fdivD (eW 3) (eI (7))) aN)) (eI (4)))) (aC (e2 eqD (e2 modD (eC (f1 intD) (aC (e2 fdivD (eW 3) (eI (28))) aN)) (eI (4))) (eI (1))) aN))))))))))
    (sSeq (sSet 9 (eC d__law_begins (aC (eC d__law_number (aC (eV 0) (aC (eI (1)) aN))) (aC (eV 4) aN))))
    (sSeq (sSet 10 (e2 modD (eC (f1 intD) (aC (e2 fdivD (eC d__law_number (aC (eV 0) (aC (eI (1)) aN))) (eI (4))) aN)) (eI (4))))
    (sSeq (sIf (tB' (e2 ltD (eW 10) (eI (2)))) (sSeq (sSet 6 (e2 addD (eW 6) (eL (aC (eT (aC (eV 4) (aC (eV 10) (aC (eV 4) aN)))) (aC (eT (aC (eV 4) (aC (e2 subD (eI (1)) (eW 10)) (aC (eI (0)) aN)))) aN)))))
    (sSet 4 (e2 addD (eW 4) (eI (1))))) sNil)
    (sRet (eT (aC (eV 4) (aC (eV 6) (aC (eV 9) aN)))))))))))))
def d__law_drawn : List D → R D := fun ds => (runF false 11 m__law_drawn ds).nox
theorem sc__law_drawn : FnScope ["_law_script", "_law_options", "_law_way", "_law_rest", "_law_size", "_law_p", "_law_steps", "_law_state", "_law_chord", "_law_begins_here", "_law_island"] ["_law_script"] (defScope st__law_drawn) := ⟨rfl, rfl, rfl, by decide +kernel, rfl, by decide +kernel, by decide +kernel⟩
theorem ok__law_drawn {f : Addr} {fd : FuncData} (F : FunD K "_law_drawn" "_law_drawn" (defArgs st__law_drawn) (defBody st__law_drawn) (defScope st__law_drawn) [] [] f fd) (mgf : mg "_law_drawn" = some (.ref f)) (B : Bt mg) (h__law_number : Callee P w K mg base ⟨K, cl⟩ 1 "_law_number" 2 false d__law_number) (h__law_share : Callee P w K mg base ⟨K, cl⟩ 1 "_law_share" 2 false d__law_share) (h__law_ring : Callee P w K mg base ⟨K, cl⟩ 1 "_law_ring" 2 false d__law_ring) (h__law_machine : Callee P w K mg base ⟨K, cl⟩ 2 "_law_machine" 5 false d__law_machine) (h__law_begins : Callee P w K mg base ⟨K, cl⟩ 1 "_law_begins" 2 false d__law_begins) : Callee P w K mg base ⟨K, cl⟩ 3 "_law_drawn" 1 false d__law_drawn := by
  have nd : (["_law_script", "_law_options", "_law_way", "_law_rest", "_law_size", "_law_p", "_law_steps", "_law_state", "_law_chord", "_law_begins_here", "_law_island"] : List Str).Nodup := sc__law_drawn.nd
  have z := fn_ok (P := P) (w := w) (mg := mg) (base := base) (k := ⟨K, cl⟩) (fr := false) (lv := 2) (as := [1, 2, 3, 4, 5, 4, 6, 4, 6, 7, 8, 6, 4, 4, 6, 6, 9, 10, 6, 4]) (s := m__law_drawn) F sc__law_drawn fun cdv A outer sh H G0 hr => by
    have hu := hr.units
    have hu5 := hr.units5
    exact (b_cons (s_set 1 nd (d_callS (h__law_number.at hr (by decide)) (d_ac (d_v 0) (d_ac d_int d_an)) (len_c (len_c len_n))))
    (b_cons (s_set 2 nd (d_op (o_mod) (d_btyp (c_int) B.int (d_ab (d_w 1) d_an)) d_int))
    (b_cons (s_set 3 nd (d_op (o_fdiv) (d_w 1) d_int))
    (b_cons (s_set 4 nd (d_ix (o_ixA rfl hu5) (d_lst (d_ac d_int (d_ac d_int (d_ac d_int (d_ac d_int (d_ac d_int (d_ac d_int (d_ac d_int d_an)))))))) (d_op (o_mod) (d_btyp (c_int) B.int (d_ab (d_w 3) d_an)) d_int)))
    (b_cons (s_if (d_tc (o_eq rfl hu) (d_w 2) d_int) (b_cons (s_set 5 nd (d_op (o_add rfl) d_int (d_op (o_mod) (d_btyp (c_int) B.int (d_ab (d_w 3) d_an)) d_int)))
    (b_one (s_asg (d_callS (h__law_share.at hr (by decide)) (d_ac (d_op (o_mod) (d_btyp (c_int) B.int (d_ab (d_op (o_fdiv) (d_w 3) d_int) d_an)) (d_op (o_add rfl) (d_w 5) d_int)) (d_ac (d_v 5) d_an)) (len_c (len_c len_n))) (g_t rfl rfl (gs_c (g_n 4 nd) (gs_c (g_n 6 nd) gs_n)))))) (b_one (s_if (d_tc (o_eq rfl hu) (d_w 2) d_int) (b_cons (s_set 4 nd (d_op (o_add rfl) d_int (d_op (o_mod) (d_btyp (c_int) B.int (d_ab (d_w 3) d_an)) d_int)))
    (b_cons (s_set 6 nd (d_callS (h__law_ring.at hr (by decide)) (d_ac (d_callS (h__law_number.at hr (by decide)) (d_ac (d_v 0) (d_ac d_int d_an)) (len_c (len_c len_n))) (d_ac (d_v 4) d_an)) (len_c (len_c len_n))))
    (b_cons (s_set 7 nd (d_op (o_mod) (d_btyp (c_int) B.int (d_ab (d_callS (h__law_number.at hr (by decide)) (d_ac (d_v 0) (d_ac d_int d_an)) (len_c (len_c len_n))) d_an)) (d_w 4)))
    (b_cons (s_set 8 nd (d_tup (d_ac (d_v 7) (d_ac (d_op (o_mod) (d_btyp (c_int) B.int (d_ab (d_callS (h__law_number.at hr (by decide)) (d_ac (d_v 0) (d_ac d_int d_an)) (len_c (len_c len_n))) d_an)) d_int) (d_ac (d_op (o_mod) (d_btyp (c_int) B.int (d_ab (d_callS (h__law_number.at hr (by decide)) (d_ac (d_v 0) (d_ac d_int d_an)) (len_c (len_c len_n))) d_an)) (d_w 4)) d_an)))))
    (b_one (s_if (d_pw (d_and (d_tc (o_gt) (d_op (o_mod) (d_btyp (c_int) B.int (d_ab (d_callS (h__law_number.at hr (by decide)) (d_ac (d_v 0) (d_ac d_int d_an)) (len_c (len_c len_n))) d_an)) d_int) d_int) (d_and1 (d_tc (o_notinA rfl hu5) (d_w 8) (d_w 6))))) (b_one (s_set 6 nd (d_op (o_add rfl) (d_w 6) (d_lst (d_ac (d_v 8) d_an))))) b_nil)))))) (b_one (s_if (d_tc (o_eq rfl hu) (d_w 2) d_int) (b_cons (s_set 4 nd (d_op (o_add rfl) d_int (d_op (o_mod) (d_btyp (c_int) B.int (d_ab (d_w 3) d_an)) d_int)))
    (b_cons (s_if (d_tc (o_eq rfl hu) (d_op (o_mod) (d_btyp (c_int) B.int (d_ab (d_op (o_fdiv) (d_w 3) d_int) d_an)) d_int) d_int) (b_one (s_set 4 nd (d_op (o_add rfl) d_int (d_op (o_mod) (d_btyp (c_int) B.int (d_ab (d_op (o_fdiv) (d_w 3) d_int) d_an)) d_int)))) b_nil)
    (b_one (s_set 6 nd (d_callS (h__law_ring.at hr (by decide)) (d_ac (d_callS (h__law_number.at hr (by decide)) (d_ac (d_v 0) (d_ac d_int d_an)) (len_c (len_c len_n))) (d_ac (d_v 4) d_an)) (len_c (len_c len_n))))))) (b_one (s_set 6 nd (d_callS (h__law_machine.at hr (by decide)) (d_ac (d_v 0) (d_ac d_int (d_ac (d_v 4) (d_ac (d_ix (o_ixA rfl hu5) (d_lst (d_ac d_int (d_ac d_int (d_ac d_int (d_ac d_int d_an))))) (d_op (o_mod) (d_btyp (c_int) B.int (d_ab (d_op (o_fdiv) (d_w 3) d_int) d_an)) d_int)) (d_ac (d_cmp (o_eq rfl hu) (d_op (o_mod) (d_btyp (c_int) B.int (d_ab (d_op (o_fdiv) (d_w 3) d_int) d_an)) d_int) d_int) d_an))))) (len_c (len_c (len_c (len_c (len_c len_n)))))))))))))
    (b_cons (s_set 9 nd (d_callS (h__law_begins.at hr (by decide)) (d_ac (d_callS (h__law_number.at hr (by decide)) (d_ac (d_v 0) (d_ac d_int d_an)) (len_c (len_c len_n))) (d_ac (d_v 4) d_an)) (len_c (len_c len_n))))
    (b_cons (s_set 10 nd (d_op (o_mod) (d_btyp (c_int) B.int (d_ab (d_op (o_fdiv) (d_callS (h__law_number.at hr (by decide)) (d_ac (d_v 0) (d_ac d_int d_an)) (len_c (len_c len_n))) d_int) d_an)) d_int))
    (b_cons (s_if (d_tc (o_lt) (d_w 10) d_int) (b_cons (s_set 6 nd (d_op (o_add rfl) (d_w 6) (d_lst (d_ac (d_tup (d_ac (d_v 4) (d_ac (d_v 10) (d_ac (d_v 4) d_an)))) (d_ac (d_tup (d_ac (d_v 4) (d_ac (d_op (o_sub) d_int (d_w 10)) (d_ac d_int d_an)))) d_an)))))
    (b_one (s_set 4 nd (d_op (o_add rfl) (d_w 4) d_int)))) b_nil)
    (b_one (s_ret (d_tup (d_ac (d_v 4) (d_ac (d_v 6) (d_ac (d_v 9) d_an))))))))))))))
  exact ⟨f, fd, ["_law_script"], rfl, z, mgf, F.kp, F.bindsN fun _ _ _ _ _ _ us hl => match us, hl with | [_], _ => rfl⟩
def m__law_reached : FS :=
    (sSeq (sOwn 3 (eC (f1 srtAD) (aC (eW 2) aN)))
    (sSeq (sFor (fun S => (aC (eW 0) aN) S >>= rng1) (gN 4) (sSeq (sSet 5 (eC (f1 lenD) (aC (eW 3) aN)))
    (sSeq (sFor (fun S => (eV 1) S >>= itemsD) (gT 3 (gsC (gN 6) (gsC (gN 7) (gsC (gN 8) gsN)))) (sIf (tA (tB' (e2 inA (eW 6) (eW 3))) (tB' (e2 notInA (eW 8) (eW 3)))) (sApp 3 (eV 8)) sNil))
    (sIf (tB' (e2 eqD (eC (f1 lenD) (aC (eW 3) aN)) (eW 5))) sBrk sNil))))
    (sRet (eC (f1 srtAD) (aC (eW 3) aN)))))
def d__law_reached : List D → R D := fun ds => (runF false 9 m__law_reached ds).nox
theorem sc__law_reached : FnScope ["_law_size", "_law_steps", "_law_begins_here", "_law_found", "_law_turn", "_law_known", "_law_state", "_law_tick", "_law_then"] ["_law_size", "_law_steps", "_law_begins_here"] (defScope st__law_reached) := ⟨rfl, rfl, rfl, by decide +kernel, rfl, by decide +kernel, by decide +kernel⟩
theorem ok__law_reached {f : Addr} {fd : FuncData} (F : FunD K "_law_reached" "_law_reached" (defArgs st__law_reached) (defBody st__law_reached) (defScope st__law_reached) [] [] f fd) (mgf : mg "_law_reached" = some (.ref f)) (B : Bt mg)  : Callee P w K mg base ⟨K, cl⟩ 1 "_law_reached" 3 false d__law_reached := by
  have nd : (["_law_size", "_law_steps", "_law_begins_here", "_law_found", "_law_turn", "_law_known", "_law_state", "_law_tick", "_law_then"] : List Str).Nodup := sc__law_reached.nd
  have z := fn_ok (P := P) (w := w) (mg := mg) (base := base) (k := ⟨K, cl⟩) (fr := false) (lv := 0) (as := [3, 4, 5, 6, 7, 8, 1003]) (s := m__law_reached) F sc__law_reached fun cdv A outer sh H G0 hr => by
    have hu := hr.units
    have hu5 := hr.units5
    exact (b_cons (s_own 3 nd (d_bltn (c_srtA rfl hu) B.sorted (d_ab (d_w 2) d_an)))
    (b_cons (s_for PassesOwn.never rfl (i_rng1 B.range (d_ab (d_w 0) d_an)) (g_n 4 nd) (b_cons (s_set 5 nd (d_bltn (c_len rfl) B.len (d_ab (d_w 3) d_an)))
    (b_cons (s_for PassesOwn.never rfl (i_seq rfl (d_v 1)) (g_t rfl rfl (gs_c (g_n 6 nd) (gs_c (g_n 7 nd) (gs_c (g_n 8 nd) gs_n)))) (b_one (s_if (d_pw (d_and (d_tc (o_inA rfl hu5) (d_w 6) (d_w 3)) (d_and1 (d_tc (o_notinA rfl hu5) (d_w 8) (d_w 3))))) (b_one (s_app 3 (d_v 8))) b_nil)))
    (b_one (s_if (d_tc (o_eq rfl hu) (d_bltn (c_len rfl) B.len (d_ab (d_w 3) d_an)) (d_w 5)) (b_one s_brk) b_nil)))))
    (b_one (s_ret (d_z (d_bltn (c_srtA rfl hu) B.sorted (d_ab (d_w 3) d_an)))))))
  exact ⟨f, fd, ["_law_size", "_law_steps", "_law_begins_here"], rfl, z, mgf, F.kp, F.bindsN fun _ _ _ _ _ _ us hl => match us, hl with | [_, _, _], _ => rfl⟩
def m__law_moves : FS :=
    (sSeq (sOwn 1 (fun _ => .ok (.dit [] [])))
    (sSeq (sFor (fun S => (eV 0) S >>= itemsD) (gT 3 (gsC (gN 2) (gsC (gN 3) (gsC (gN 4) gsN)))) (sPutA 1 (eT (aC (eV 2) (aC (eV 3) aN))) (e2 addD (eGet2 (eW 1) (eT (aC (eV 2) (aC (eV 3) aN))) (eL aN)) (eL (aC (eV 4) aN)))))
    (sFz 1 (sRet (eV 1)))))
def d__law_moves : List D → R D := fun ds => (runF false 5 m__law_moves ds).nox
theorem sc__law_moves : FnScope ["_law_steps", "_law_moves_here", "_law_state", "_law_tick", "_law_then"] ["_law_steps"] (defScope st__law_moves) := ⟨rfl, rfl, rfl, by decide +kernel, rfl, by decide +kernel, by decide +kernel⟩
theorem ok__law_moves {f : Addr} {fd : FuncData} (F : FunD K "_law_moves" "_law_moves" (defArgs st__law_moves) (defBody st__law_moves) (defScope st__law_moves) [] [] f fd) (mgf : mg "_law_moves" = some (.ref f)) (B : Bt mg)  : Callee P w K mg base ⟨K, cl⟩ 1 "_law_moves" 1 false d__law_moves := by
  have nd : (["_law_steps", "_law_moves_here", "_law_state", "_law_tick", "_law_then"] : List Str).Nodup := sc__law_moves.nd
  have z := fn_ok (P := P) (w := w) (mg := mg) (base := base) (k := ⟨K, cl⟩) (fr := false) (lv := 0) (as := [1, 2, 3, 4, 1001, 1]) (s := m__law_moves) F sc__law_moves fun cdv A outer sh H G0 hr => by
    have hu := hr.units
    have hu5 := hr.units5
    exact (b_cons (s_own 1 nd d_dnewT)
    (b_cons (s_for PassesOwn.never rfl (i_seq rfl (d_v 0)) (g_t rfl rfl (gs_c (g_n 2 nd) (gs_c (g_n 3 nd) (gs_c (g_n 4 nd) gs_n)))) (b_one (s_putA 1 hu (d_op (o_add rfl) (d_get2A hu (d_w 1) (d_tup (d_ac (d_v 2) (d_ac (d_v 3) d_an))) (d_z (d_lst d_an))) (d_lst (d_ac (d_v 4) d_an))) (d_tup (d_ac (d_v 2) (d_ac (d_v 3) d_an))))))
    (b_one (s_fz 1 (s_ret (d_v 1))))))
  exact ⟨f, fd, ["_law_steps"], rfl, z, mgf, F.kp, F.bindsN fun _ _ _ _ _ _ us hl => match us, hl with | [_], _ => rfl⟩
def m__law_after : FS :=
    (sSeq (sOwn 3 (eL aN))
    (sSeq (sFor (fun S => (eV 1) S >>= itemsD) (gN 4) (sFor (fun S => (eGet2 (eW 0) (eT (aC (eV 4) (aC (eV 2) aN))) (eL aN)) S >>= itemsD) (gN 5) (sIf (tB' (e2 notInA (eW 5) (eW 3))) (sApp 3 (eV 5)) sNil)))
    (sRet (eC (f1 tupD) (aC (eC (f1 srtAD) (aC (eW 3) aN)) aN)))))
def d__law_after : List D → R D := fun ds => (runF false 6 m__law_after ds).nox
theorem sc__law_after : FnScope ["_law_moves_here", "_law_states", "_law_tick", "_law_found", "_law_state", "_law_then"] ["_law_moves_here", "_law_states", "_law_tick"] (defScope st__law_after) := ⟨rfl, rfl, rfl, by decide +kernel, rfl, by decide +kernel, by decide +kernel⟩
theorem ok__law_after {f : Addr} {fd : FuncData} (F : FunD K "_law_after" "_law_after" (defArgs st__law_after) (defBody st__law_after) (defScope st__law_after) [] [] f fd) (mgf : mg "_law_after" = some (.ref f)) (B : Bt mg)  : Callee P w K mg base ⟨K, cl⟩ 1 "_law_after" 3 false d__law_after := by
  have nd : (["_law_moves_here", "_law_states", "_law_tick", "_law_found", "_law_state", "_law_then"] : List Str).Nodup := sc__law_after.nd
  have z := fn_ok (P := P) (w := w) (mg := mg) (base := base) (k := ⟨K, cl⟩) (fr := false) (lv := 0) (as := [3, 4, 5, 1003]) (s := m__law_after) F sc__law_after fun cdv A outer sh H G0 hr => by
    have hu := hr.units
    have hu5 := hr.units5
    exact (b_cons (s_own 3 nd (d_lst d_an))
    (b_cons (s_for PassesOwn.never rfl (i_seq rfl (d_v 1)) (g_n 4 nd) (b_one (s_for PassesOwn.never rfl (i_seq rfl (d_get2A hu (d_w 0) (d_tup (d_ac (d_v 4) (d_ac (d_v 2) d_an))) (d_z (d_lst d_an)))) (g_n 5 nd) (b_one (s_if (d_tc (o_notinA rfl hu5) (d_w 5) (d_w 3)) (b_one (s_app 3 (d_v 5))) b_nil)))))
    (b_one (s_ret (d_btyp (c_tup rfl) B.tuple (d_ab (d_bltn (c_srtA rfl hu) B.sorted (d_ab (d_w 3) d_an)) d_an))))))
  exact ⟨f, fd, ["_law_moves_here", "_law_states", "_law_tick"], rfl, z, mgf, F.kp, F.bindsN fun _ _ _ _ _ _ us hl => match us, hl with | [_, _, _], _ => rfl⟩
def m__law_is_int : FS :=
    (sRet (eAnd (eC (f2 isiD) (aC (eW 0) (aC (eY "int") aN))) (eNot (eC (f2 isiD) (aC (eW 0) (aC (eY "bool") aN))))))
def d__law_is_int : List D → R D := fun ds => (runF false 1 m__law_is_int ds).nox
theorem sc__law_is_int : FnScope ["_law_told"] ["_law_told"] (defScope st__law_is_int) := ⟨rfl, rfl, rfl, by decide +kernel, rfl, by decide +kernel, by decide +kernel⟩
theorem ok__law_is_int {f : Addr} {fd : FuncData} (F : FunD K "_law_is_int" "_law_is_int" (defArgs st__law_is_int) (defBody st__law_is_int) (defScope st__law_is_int) [] [] f fd) (mgf : mg "_law_is_int" = some (.ref f)) (B : Bt mg)  : Callee P w K mg base ⟨K, cl⟩ 1 "_law_is_int" 1 false d__law_is_int := by
  have nd : (["_law_told"] : List Str).Nodup := sc__law_is_int.nd
  have z := fn_ok (P := P) (w := w) (mg := mg) (base := base) (k := ⟨K, cl⟩) (fr := false) (lv := 0) (as := []) (s := m__law_is_int) F sc__law_is_int fun cdv A outer sh H G0 hr => by
    have hu := hr.units
    have hu5 := hr.units5
    exact (b_one (s_ret (d_vand (d_bltn (c_isi rfl) B.isinstance (d_ab (d_w 0) (d_ab (d_ty "int" B.int) d_an))) (d_vone (d_vnot (d_bltn (c_isi rfl) B.isinstance (d_ab (d_w 0) (d_ab (d_ty "bool" B.bool) d_an))))))))
  exact ⟨f, fd, ["_law_told"], rfl, z, mgf, F.kp, F.bindsN fun _ _ _ _ _ _ us hl => match us, hl with | [_], _ => rfl⟩
def m__law_is_word : FS :=
    (sSeq (sIf (tNo (tT' (eC (f2 isiD) (aC (eW 0) (aC (eY "tuple") aN))))) (sRet (eB false)) sNil)
    (sSeq (sFor (fun S => (eV 0) S >>= itemsD) (gN 1) (sIf (tO (tNo (tT' (eC (f2 isiD) (aC (eW 1) (aC (eY "int") aN))))) (tO (tT' (eC (f2 isiD) (aC (eW 1) (aC (eY "bool") aN)))) (tB' (e2 notInA (eW 1) (eT (aC (eI (0)) (aC (eI (1)) aN))))))) (sRet (eB false)) sNil))
    (sRet (eB true))))
def d__law_is_word : List D → R D := fun ds => (runF false 2 m__law_is_word ds).nox
theorem sc__law_is_word : FnScope ["_law_told", "_law_tick"] ["_law_told"] (defScope st__law_is_word) := ⟨rfl, rfl, rfl, by decide +kernel, rfl, by decide +kernel, by decide +kernel⟩
theorem ok__law_is_word {f : Addr} {fd : FuncData} (F : FunD K "_law_is_word" "_law_is_word" (defArgs st__law_is_word) (defBody st__law_is_word) (defScope st__law_is_word) [] [] f fd) (mgf : mg "_law_is_word" = some (.ref f)) (B : Bt mg)  : Callee P w K mg base ⟨K, cl⟩ 1 "_law_is_word" 1 false d__law_is_word := by
  have nd : (["_law_told", "_law_tick"] : List Str).Nodup := sc__law_is_word.nd
  have z := fn_ok (P := P) (w := w) (mg := mg) (base := base) (k := ⟨K, cl⟩) (fr := false) (lv := 0) (as := [1]) (s := m__law_is_word) F sc__law_is_word fun cdv A outer sh H G0 hr => by
    have hu := hr.units
    have hu5 := hr.units5
    exact (b_cons (s_if (d_not (d_tt rfl (d_bltn (c_isi rfl) B.isinstance (d_ab (d_w 0) (d_ab (d_ty "tuple" B.tuple) d_an))))) (b_one (s_ret d_bl)) b_nil)
    (b_cons (s_for PassesOwn.never rfl (i_seq rfl (d_v 0)) (g_n 1 nd) (b_one (s_if (d_pw (d_or (d_not (d_tt rfl (d_bltn (c_isi rfl) B.isinstance (d_ab (d_w 1) (d_ab (d_ty "int" B.int) d_an))))) (d_or (d_tt rfl (d_bltn (c_isi rfl) B.isinstance (d_ab (d_w 1) (d_ab (d_ty "bool" B.bool) d_an)))) (d_or1 (d_tc (o_notinA rfl hu5) (d_w 1) (d_tup (d_ac d_int (d_ac d_int d_an)))))))) (b_one (s_ret d_bl)) b_nil)))
    (b_one (s_ret d_bl))))
  exact ⟨f, fd, ["_law_told"], rfl, z, mgf, F.kp, F.bindsN fun _ _ _ _ _ _ us hl => match us, hl with | [_], _ => rfl⟩
def m__law_bears : FS :=
    (sSeq (sPar [3, 4, 5] (aC (e1 (fldD 5 0) (eW 0)) (aC (e1 (fldD 5 1) (eW 0)) (aC (e1 (fldD 5 4) (eW 0)) aN))))
    (sSeq (sIf (tO (tNo (tT' (eC d__law_is_int (aC (eV 3) aN)))) (tO (tNo (tT' (eC d__law_is_int (aC (eV 4) aN)))) (tO (tNo (tB' (e3 leD leD (eI (0)) (eW 3) (eW 4)))) (tNo (tB' (e3 leD leD (eI (1)) (eW 4) (eC (f1 lenD) (aC (eW 2) aN)))))))) (sRet (eB false)) sNil)
    (sSeq (sFor (fun S => (aC (eI (2)) (aC (e2 addD (eW 4) (eI (1))) aN)) S >>= rng2) (gN 6) (sIf (tA (tB' (e2 eqD (e2 modD (eC (f1 intD) (aC (eW 3) aN)) (eW 6)) (eI (0)))) (tB' (e2 eqD (e2 modD (eC (f1 intD) (aC (eW 4) aN)) (eW 6)) (eI (0))))) (sRet (eB false)) sNil))
    (sSeq (sIf (tO (tNo (tT' (eC (f2 isiD) (aC (eW 5) (aC (eY "dict") aN))))) (tB' (e2 neD (eC (f1 lenD) (aC (eW 5) aN)) (eC (f1 lenD) (aC (eW 2) aN))))) (sRet (eB false)) sNil)
    (sSeq (sFor (fun S => (eV 2) S >>= itemsD) (gN 7) (sIf (tO (tB' (e2 notInA (eW 7) (eW 5))) (tNo (tT' (eC d__law_is_int (aC (e2 ixA (eW 5) (eW 7)) aN))))) (sRet (eB false)) sNil))
    (sSeq (sFor (fun S => (eV 1) S >>= itemsD) (gT 3 (gsC (gN 7) (gsC (gN 8) (gsC (gN 9) gsN)))) (sIf (tA (tB' (e2 inA (eW 7) (eW 5))) (tB' (e2 gtD (e2 ixA (eW 5) (eW 9)) (e2 subD (e2 addD (e2 ixA (eW 5) (eW 7)) (e2 mulD (eW 4) (eW 8))) (eW 3))))) (sRet (eB false)) sNil))
    (sRet (eB true))))))))
def d__law_bears : List D → R D := fun ds => (runF false 10 m__law_bears ds).nox
theorem sc__law_bears : FnScope ["_law_told", "_law_steps", "_law_states", "_law_given", "_law_ticks", "_law_numbers", "_law_k", "_law_state", "_law_tick", "_law_then"] ["_law_told", "_law_steps", "_law_states"] (defScope st__law_bears) := ⟨rfl, rfl, rfl, by decide +kernel, rfl, by decide +kernel, by decide +kernel⟩
theorem ok__law_bears {f : Addr} {fd : FuncData} (F : FunD K "_law_bears" "_law_bears" (defArgs st__law_bears) (defBody st__law_bears) (defScope st__law_bears) [] [] f fd) (mgf : mg "_law_bears" = some (.ref f)) (B : Bt mg) (C_Rate : ClsI K ⟨K, cl⟩ 5 (["given", "ticks", "lead", "loop", "numbers"] : List Str)) (h__law_is_int : Callee P w K mg base ⟨K, cl⟩ 1 "_law_is_int" 1 false d__law_is_int) : Callee P w K mg base ⟨K, cl⟩ 2 "_law_bears" 3 false d__law_bears := by
  have nd : (["_law_told", "_law_steps", "_law_states", "_law_given", "_law_ticks", "_law_numbers", "_law_k", "_law_state", "_law_tick", "_law_then"] : List Str).Nodup := sc__law_bears.nd
  have z := fn_ok (P := P) (w := w) (mg := mg) (base := base) (k := ⟨K, cl⟩) (fr := false) (lv := 1) (as := [3, 4, 5, 6, 7, 7, 8, 9]) (s := m__law_bears) F sc__law_bears fun cdv A outer sh H G0 hr => by
    have hu := hr.units
    have hu5 := hr.units5
    exact (b_cons (s_par3 3 4 5 nd (d_ac (d_fld 5 0 C_Rate rfl (d_w 0)) (d_ac (d_fld 5 1 C_Rate rfl (d_w 0)) (d_ac (d_fld 5 4 C_Rate rfl (d_w 0)) d_an))))
    (b_cons (s_if (d_pw (d_or (d_not (d_tt rfl (d_callS (h__law_is_int.at hr (by decide)) (d_ac (d_v 3) d_an) (len_c len_n)))) (d_or (d_not (d_tt rfl (d_callS (h__law_is_int.at hr (by decide)) (d_ac (d_v 4) d_an) (len_c len_n)))) (d_or (d_not (d_tch (o_le) (o_le) d_int (d_w 3) (d_w 4))) (d_or1 (d_not (d_tch (o_le) (o_le) d_int (d_w 4) (d_bltn (c_len rfl) B.len (d_ab (d_w 2) d_an))))))))) (b_one (s_ret d_bl)) b_nil)
    (b_cons (s_for PassesOwn.never rfl (i_rng2 B.range (d_ab d_int (d_ab (d_op (o_add rfl) (d_w 4) d_int) d_an))) (g_n 6 nd) (b_one (s_if (d_pw (d_and (d_tc (o_eq rfl hu) (d_op (o_mod) (d_btyp (c_int) B.int (d_ab (d_w 3) d_an)) (d_w 6)) d_int) (d_and1 (d_tc (o_eq rfl hu) (d_op (o_mod) (d_btyp (c_int) B.int (d_ab (d_w 4) d_an)) (d_w 6)) d_int)))) (b_one (s_ret d_bl)) b_nil)))
    (b_cons (s_if (d_pw (d_or (d_not (d_tt rfl (d_bltn (c_isi rfl) B.isinstance (d_ab (d_w 5) (d_ab (d_ty "dict" B.dict) d_an))))) (d_or1 (d_tc (o_ne rfl hu) (d_bltn (c_len rfl) B.len (d_ab (d_w 5) d_an)) (d_bltn (c_len rfl) B.len (d_ab (d_w 2) d_an)))))) (b_one (s_ret d_bl)) b_nil)
    (b_cons (s_for PassesOwn.never rfl (i_seq rfl (d_v 2)) (g_n 7 nd) (b_one (s_if (d_pw (d_or (d_tc (o_notinA rfl hu5) (d_w 7) (d_w 5)) (d_or1 (d_not (d_tt rfl (d_callS (h__law_is_int.at hr (by decide)) (d_ac (d_ix (o_ixA rfl hu5) (d_w 5) (d_w 7)) d_an) (len_c len_n))))))) (b_one (s_ret d_bl)) b_nil)))
    (b_cons (s_for PassesOwn.never rfl (i_seq rfl (d_v 1)) (g_t rfl rfl (gs_c (g_n 7 nd) (gs_c (g_n 8 nd) (gs_c (g_n 9 nd) gs_n)))) (b_one (s_if (d_pw (d_and (d_tc (o_inA rfl hu5) (d_w 7) (d_w 5)) (d_and1 (d_tc (o_gt) (d_ix (o_ixA rfl hu5) (d_w 5) (d_w 9)) (d_op (o_sub) (d_op (o_add rfl) (d_ix (o_ixA rfl hu5) (d_w 5) (d_w 7)) (d_op (o_mul rfl) (d_w 4) (d_w 8))) (d_w 3)))))) (b_one (s_ret d_bl)) b_nil)))
    (b_one (s_ret d_bl))))))))
  exact ⟨f, fd, ["_law_told", "_law_steps", "_law_states"], rfl, z, mgf, F.kp, F.bindsN fun _ _ _ _ _ _ us hl => match us, hl with | [_, _, _], _ => rfl⟩
def m__law_goes_round : FS :=
    (sSeq (sIf (tO (tNo (tT' (eC d__law_is_word (aC (e1 (fldD 5 2) (eW 0)) aN)))) (tO (tNo (tT' (eC d__law_is_word (aC (e1 (fldD 5 3) (eW 0)) aN)))) (tB' (e2 eqD (eC (f1 lenD) (aC (e1 (fldD 5 3) (eW 0)) aN)) (eI (0)))))) (sRet (eB false)) sNil)
    (sSeq (sIf (tB' (e2 neD (e2 mulD (eC (f1 sumAD) (aC (e1 (fldD 5 3) (eW 0)) aN)) (e1 (fldD 5 1) (eW 0))) (e2 mulD (e1 (fldD 5 0) (eW 0)) (eC (f1 lenD) (aC (e1 (fldD 5 3) (eW 0)) aN))))) (sRet (eB false)) sNil)
    (sSeq (sSet 3 (eC d__law_moves (aC (eV 1) aN)))
    (sSeq (sSet 4 (eC (f1 tupD) (aC (eC (f1 srtAD) (aC (eW 2) aN)) aN)))
    (sSeq (sFor (fun S => (e1 (fldD 5 2) (eW 0)) S >>= itemsD) (gN 5) (sSet 4 (eC d__law_after (aC (eV 3) (aC (eV 4) (aC (eV 5) aN))))))
    (sSeq (sFor (fun S => (eV 4) S >>= itemsD) (gN 6) (sSeq (sSet 7 (eT (aC (eV 6) aN)))
    (sSeq (sFor (fun S => (e1 (fldD 5 3) (eW 0)) S >>= itemsD) (gN 5) (sSet 7 (eC d__law_after (aC (eV 3) (aC (eV 7) (aC (eV 5) aN))))))
    (sIf (tB' (e2 inA (eW 6) (eW 7))) (sRet (eB true)) sNil))))
    (sRet (eB false))))))))
def d__law_goes_round : List D → R D := fun ds => (runF false 8 m__law_goes_round ds).nox
theorem sc__law_goes_round : FnScope ["_law_told", "_law_steps", "_law_begins_here", "_law_moves_here", "_law_here", "_law_tick", "_law_state", "_law_there"] ["_law_told", "_law_steps", "_law_begins_here"] (defScope st__law_goes_round) := ⟨rfl, rfl, rfl, by decide +kernel, rfl, by decide +kernel, by decide +kernel⟩
theorem ok__law_goes_round {f : Addr} {fd : FuncData} (F : FunD K "_law_goes_round" "_law_goes_round" (defArgs st__law_goes_round) (defBody st__law_goes_round) (defScope st__law_goes_round) [] [] f fd) (mgf : mg "_law_goes_round" = some (.ref f)) (B : Bt mg) (h__law_is_word : Callee P w K mg base ⟨K, cl⟩ 1 "_law_is_word" 1 false d__law_is_word) (C_Rate : ClsI K ⟨K, cl⟩ 5 (["given", "ticks", "lead", "loop", "numbers"] : List Str)) (h__law_moves : Callee P w K mg base ⟨K, cl⟩ 1 "_law_moves" 1 false d__law_moves) (h__law_after : Callee P w K mg base ⟨K, cl⟩ 1 "_law_after" 3 false d__law_after) : Callee P w K mg base ⟨K, cl⟩ 2 "_law_goes_round" 3 false d__law_goes_round := by
  have nd : (["_law_told", "_law_steps", "_law_begins_here", "_law_moves_here", "_law_here", "_law_tick", "_law_state", "_law_there"] : List Str).Nodup := sc__law_goes_round.nd
  have z := fn_ok (P := P) (w := w) (mg := mg) (base := base) (k := ⟨K, cl⟩) (fr := false) (lv := 1) (as := [3, 4, 5, 4, 6, 7, 5, 7]) (s := m__law_goes_round) F sc__law_goes_round fun cdv A outer sh H G0 hr => by
    have hu := hr.units
    have hu5 := hr.units5
    exact (b_cons (s_if (d_pw (d_or (d_not (d_tt rfl (d_callS (h__law_is_word.at hr (by decide)) (d_ac (d_fld 5 2 C_Rate rfl (d_w 0)) d_an) (len_c len_n)))) (d_or (d_not (d_tt rfl (d_callS (h__law_is_word.at hr (by decide)) (d_ac (d_fld 5 3 C_Rate rfl (d_w 0)) d_an) (len_c len_n)))) (d_or1 (d_tc (o_eq rfl hu) (d_bltn (c_len rfl) B.len (d_ab (d_fld 5 3 C_Rate rfl (d_w 0)) d_an)) d_int))))) (b_one (s_ret d_bl)) b_nil)
    (b_cons (s_if (d_tc (o_ne rfl hu) (d_op (o_mul rfl) (d_bltn (c_sumA rfl rfl) B.sum (d_ab (d_fld 5 3 C_Rate rfl (d_w 0)) d_an)) (d_fld 5 1 C_Rate rfl (d_w 0))) (d_op (o_mul rfl) (d_fld 5 0 C_Rate rfl (d_w 0)) (d_bltn (c_len rfl) B.len (d_ab (d_fld 5 3 C_Rate rfl (d_w 0)) d_an)))) (b_one (s_ret d_bl)) b_nil)
    (b_cons (s_set 3 nd (d_callS (h__law_moves.at hr (by decide)) (d_ac (d_v 1) d_an) (len_c len_n)))
    (b_cons (s_set 4 nd (d_btyp (c_tup rfl) B.tuple (d_ab (d_bltn (c_srtA rfl hu) B.sorted (d_ab (d_w 2) d_an)) d_an)))
    (b_cons (s_for PassesOwn.never rfl (i_seq rfl (d_fld 5 2 C_Rate rfl (d_w 0))) (g_n 5 nd) (b_one (s_set 4 nd (d_callS (h__law_after.at hr (by decide)) (d_ac (d_v 3) (d_ac (d_v 4) (d_ac (d_v 5) d_an))) (len_c (len_c (len_c len_n)))))))
    (b_cons (s_for PassesOwn.never rfl (i_seq rfl (d_v 4)) (g_n 6 nd) (b_cons (s_set 7 nd (d_tup (d_ac (d_v 6) d_an)))
    (b_cons (s_for PassesOwn.never rfl (i_seq rfl (d_fld 5 3 C_Rate rfl (d_w 0))) (g_n 5 nd) (b_one (s_set 7 nd (d_callS (h__law_after.at hr (by decide)) (d_ac (d_v 3) (d_ac (d_v 7) (d_ac (d_v 5) d_an))) (len_c (len_c (len_c len_n)))))))
    (b_one (s_if (d_tc (o_inA rfl hu5) (d_w 6) (d_w 7)) (b_one (s_ret d_bl)) b_nil)))))
    (b_one (s_ret d_bl))))))))
  exact ⟨f, fd, ["_law_told", "_law_steps", "_law_begins_here"], rfl, z, mgf, F.kp, F.bindsN fun _ _ _ _ _ _ us hl => match us, hl with | [_, _, _], _ => rfl⟩
def m__law_stays : FS :=
    (sSeq (sIf (tO (tB' (e2 neD (e1 (fldD 3 0) (eW 0)) (e2 ixA (eW 1) (eI (0))))) (tB' (e2 neD (e1 (fldD 3 1) (eW 0)) (eC (f1 tupD) (aC (eC (f1 srtAD) (aC (e2 ixA (eW 1) (eI (1))) aN)) aN))))) (sRet (eB false)) sNil)
    (sRet (e2 eqD (e1 (fldD 3 2) (eW 0)) (eC (f1 tupD) (aC (eC (f1 srtAD) (aC (e2 ixA (eW 1) (eI (2))) aN)) aN)))))
def d__law_stays : List D → R D := fun ds => (runF false 2 m__law_stays ds).nox
theorem sc__law_stays : FnScope ["_law_supply", "_law_row"] ["_law_supply", "_law_row"] (defScope st__law_stays) := ⟨rfl, rfl, rfl, by decide +kernel, rfl, by decide +kernel, by decide +kernel⟩
theorem ok__law_stays {f : Addr} {fd : FuncData} (F : FunD K "_law_stays" "_law_stays" (defArgs st__law_stays) (defBody st__law_stays) (defScope st__law_stays) [] [] f fd) (mgf : mg "_law_stays" = some (.ref f)) (B : Bt mg) (C_Supply : ClsI K ⟨K, cl⟩ 3 (["size", "steps", "starts", "moves"] : List Str)) : Callee P w K mg base ⟨K, cl⟩ 1 "_law_stays" 2 false d__law_stays := by
  have nd : (["_law_supply", "_law_row"] : List Str).Nodup := sc__law_stays.nd
  have z := fn_ok (P := P) (w := w) (mg := mg) (base := base) (k := ⟨K, cl⟩) (fr := false) (lv := 0) (as := []) (s := m__law_stays) F sc__law_stays fun cdv A outer sh H G0 hr => by
    have hu := hr.units
    have hu5 := hr.units5
    exact (b_cons (s_if (d_pw (d_or (d_tc (o_ne rfl hu) (d_fld 3 0 C_Supply rfl (d_w 0)) (d_ix (o_ixA rfl hu5) (d_w 1) d_int)) (d_or1 (d_tc (o_ne rfl hu) (d_fld 3 1 C_Supply rfl (d_w 0)) (d_btyp (c_tup rfl) B.tuple (d_ab (d_bltn (c_srtA rfl hu) B.sorted (d_ab (d_ix (o_ixA rfl hu5) (d_w 1) d_int) d_an)) d_an)))))) (b_one (s_ret d_bl)) b_nil)
    (b_one (s_ret (d_cmp (o_eq rfl hu) (d_fld 3 2 C_Supply rfl (d_w 0)) (d_btyp (c_tup rfl) B.tuple (d_ab (d_bltn (c_srtA rfl hu) B.sorted (d_ab (d_ix (o_ixA rfl hu5) (d_w 1) d_int) d_an)) d_an))))))
  exact ⟨f, fd, ["_law_supply", "_law_row"], rfl, z, mgf, F.kp, F.bindsN fun _ _ _ _ _ _ us hl => match us, hl with | [_, _], _ => rfl⟩
def m_law : FS :=
    (sSeq (sAsg (gT 3 (gsC (gN 1) (gsC (gN 2) (gsC (gN 3) gsN)))) (eC d__law_drawn (aC (eV 0) aN)))
    (sSeq (sSet 4 (lcE (fun S => (eV 2) S >>= itemsD) (gT 3 (gsC (gN 11) (gsC (gN 12) (gsC (gN 13) gsN)))) tY (eT (aC (eV 11) (aC (e2 subD (eI (1)) (eW 12)) (aC (eV 13) aN)))) [11, 12, 13]))
    (sSeq (sSet 5 (eC d__law_reached (aC (eV 1) (aC (eV 2) (aC (eV 3) aN)))))
    (sSeq (sSet 6 (eL (aC (eT (aC (eV 1) (aC (eV 2) (aC (eV 3) aN)))) (aC (eT (aC (eV 1) (aC (eV 4) (aC (eV 3) aN)))) aN))))
    (sSeq (sSet 7 (eL (aC (eCXK d_Supply (aC (eV 1) (aC (eC (f1 lstD) (aC (eW 2) aN)) aN)) (aC (eV 3) aN)) (aC (eCXK d_Supply (aC (eV 1) (aC (eC (f1 lstD) (aC (eW 4) aN)) aN)) (aC (eV 3) aN)) aN))))
    (sSeq (sOwn 8 (eL aN))
    (sSeq (sFor (fun S => (eT (aC (eI (0)) (aC (eI (1)) (aC (eI (0)) aN)))) S >>= itemsD) (gN 9) (sSeq (sSet 10 (eC d_rate (aC (e2 ixA (eW 7) (eW 9)) aN)))
    (sSeq (sIf (tO (tNo (tT' (eC d__law_bears (aC (eV 10) (aC (e2 ixA (e2 ixA (eW 6) (eW 9)) (eI (1))) (aC (eV 5) aN)))))) (tNo (tT' (eC d__law_goes_round (aC (eV 10) (aC (e2 ixA (e2 ixA (eW 6) (eW 9)) (eI (1))) (aC (eV 3) aN))))))) (sRet (eB false)) sNil)
    (sApp 8 (eT (aC (e1 (fldD 5 0) (eW 10)) (aC (e1 (fldD 5 1) (eW 10)) aN)))))))
    (sSeq (sIf (tB' (e2 neD (e2 ixA (eW 8) (eI (0))) (e2 ixA (eW 8) (eI (2))))) (sRet (eB false)) sNil)
    (sRet (eAnd (eC d__law_stays (aC (e2 ixA (eW 7) (eI (0))) (aC (e2 ixA (eW 6) (eI (0))) aN))) (eC d__law_stays (aC (e2 ixA (eW 7) (eI (1))) (aC (e2 ixA (eW 6) (eI (1))) aN)))))))))))))
def d_law : List D → R D := fun ds => (runF false 14 m_law ds).nox
theorem sc_law : FnScope ["_law_script", "_law_size", "_law_steps", "_law_begins_here", "_law_turned", "_law_states", "_law_rows", "_law_made", "_law_found", "_law_k", "_law_told", "_law_state", "_law_tick", "_law_then"] ["_law_script"] (defScope st_law) := ⟨rfl, rfl, rfl, by decide +kernel, rfl, by decide +kernel, by decide +kernel⟩
theorem ok_law {f : Addr} {fd : FuncData} (F : FunD K "law" "law" (defArgs st_law) (defBody st_law) (defScope st_law) [] [] f fd) (mgf : mg "law" = some (.ref f)) (B : Bt mg) (h__law_drawn : Callee P w K mg base ⟨K, cl⟩ 3 "_law_drawn" 1 false d__law_drawn) (h__law_reached : Callee P w K mg base ⟨K, cl⟩ 1 "_law_reached" 3 false d__law_reached) (mx_Supply : MakerXK P w K mg base ⟨K, cl⟩ 2 "Supply" 3 2 ["starts"] d_Supply) (h_rate : Callee P w K mg base ⟨K, cl⟩ 4 "rate" 1 false d_rate) (h__law_bears : Callee P w K mg base ⟨K, cl⟩ 2 "_law_bears" 3 false d__law_bears) (h__law_goes_round : Callee P w K mg base ⟨K, cl⟩ 2 "_law_goes_round" 3 false d__law_goes_round) (C_Rate : ClsI K ⟨K, cl⟩ 5 (["given", "ticks", "lead", "loop", "numbers"] : List Str)) (h__law_stays : Callee P w K mg base ⟨K, cl⟩ 1 "_law_stays" 2 false d__law_stays) : FnOk P w K mg base CX0 5 f fd ["_law_script"] (SpF ⟨K, cl⟩ false 1 d_law) := by
  have nd : (["_law_script", "_law_size", "_law_steps", "_law_begins_here", "_law_turned", "_law_states", "_law_rows", "_law_made", "_law_found", "_law_k", "_law_told", "_law_state", "_law_tick", "_law_then"] : List Str).Nodup := sc_law.nd
  have z := fn_ok (P := P) (w := w) (mg := mg) (base := base) (k := ⟨K, cl⟩) (fr := false) (lv := 4) (as := [1, 2, 3, 4, 5, 6, 7, 8, 9, 10, 1008]) (s := m_law) F sc_law fun cdv A outer sh H G0 hr => by
    have hu := hr.units
    have hu5 := hr.units5
    exact (b_cons (s_asg (d_callS (h__law_drawn.at hr (by decide)) (d_ac (d_v 0) d_an) (len_c len_n)) (g_t rfl rfl (gs_c (g_n 1 nd) (gs_c (g_n 2 nd) (gs_c (g_n 3 nd) gs_n)))))
    (b_cons (s_lcZ 4 [("_law_state", 11), ("_law_tick", 12), ("_law_then", 13)] rfl nd (i_seq rfl (d_v 2)) (blkOk_by (N := ["_law_script", "_law_size", "_law_steps", "_law_begins_here", "_law_turned", "_law_states", "_law_rows", "_law_made", "_law_found", "_law_k", "_law_told", "_law_state", "_law_tick", "_law_then"]) (sc := (defScope st_law)) (by decide +kernel)) (fun _ _ _ _ _ => (g_t rfl rfl (gs_c (g_n 11 nd) (gs_c (g_n 12 nd) (gs_c (g_n 13 nd) gs_n))))) (fun _ _ _ _ _ => ts_n) (fun _ _ _ _ _ => (d_tup (d_ac (d_v 11) (d_ac (d_op (o_sub) d_int (d_w 12)) (d_ac (d_v 13) d_an))))))
    (b_cons (s_set 5 nd (d_callS (h__law_reached.at hr (by decide)) (d_ac (d_v 1) (d_ac (d_v 2) (d_ac (d_v 3) d_an))) (len_c (len_c (len_c len_n)))))
    (b_cons (s_set 6 nd (d_z (d_lst (d_ac (d_tup (d_ac (d_v 1) (d_ac (d_v 2) (d_ac (d_v 3) d_an)))) (d_ac (d_tup (d_ac (d_v 1) (d_ac (d_v 4) (d_ac (d_v 3) d_an)))) d_an)))))
    (b_cons (s_set 7 nd (d_z (d_lst (d_ac (d_z (d_makerXK (ks := ["starts"]) mx_Supply hr (by decide) takes0 (d_ac (d_v 1) (d_ac (d_z (d_btyp (c_lst rfl) B.list (d_ab (d_w 2) d_an))) d_an)) (len_c (len_c len_n)) (d_kc (d_v 3) d_kn) (len_c len_n))) (d_ac (d_z (d_makerXK (ks := ["starts"]) mx_Supply hr (by decide) takes0 (d_ac (d_v 1) (d_ac (d_z (d_btyp (c_lst rfl) B.list (d_ab (d_w 4) d_an))) d_an)) (len_c (len_c len_n)) (d_kc (d_v 3) d_kn) (len_c len_n))) d_an)))))
    (b_cons (s_own 8 nd (d_lst d_an))
    (b_cons (s_for PassesOwn.never rfl (i_seq rfl (d_tup (d_ac d_int (d_ac d_int (d_ac d_int d_an))))) (g_n 9 nd) (b_cons (s_set 10 nd (d_callS (h_rate.at hr (by decide)) (d_ac (d_ix (o_ixA rfl hu5) (d_w 7) (d_w 9)) d_an) (len_c len_n)))
    (b_cons (s_if (d_pw (d_or (d_not (d_tt rfl (d_callS (h__law_bears.at hr (by decide)) (d_ac (d_v 10) (d_ac (d_ix (o_ixA rfl hu5) (d_ix (o_ixA rfl hu5) (d_w 6) (d_w 9)) d_int) (d_ac (d_v 5) d_an))) (len_c (len_c (len_c len_n)))))) (d_or1 (d_not (d_tt rfl (d_callS (h__law_goes_round.at hr (by decide)) (d_ac (d_v 10) (d_ac (d_ix (o_ixA rfl hu5) (d_ix (o_ixA rfl hu5) (d_w 6) (d_w 9)) d_int) (d_ac (d_v 3) d_an))) (len_c (len_c (len_c len_n))))))))) (b_one (s_ret d_bl)) b_nil)
    (b_one (s_app 8 (d_tup (d_ac (d_fld 5 0 C_Rate rfl (d_w 10)) (d_ac (d_fld 5 1 C_Rate rfl (d_w 10)) d_an))))))))
    (b_cons (s_if (d_tc (o_ne rfl hu) (d_ix (o_ixA rfl hu5) (d_w 8) d_int) (d_ix (o_ixA rfl hu5) (d_w 8) d_int)) (b_one (s_ret d_bl)) b_nil)
    (b_one (s_ret (d_vand (d_callS (h__law_stays.at hr (by decide)) (d_ac (d_ix (o_ixA rfl hu5) (d_w 7) d_int) (d_ac (d_ix (o_ixA rfl hu5) (d_w 6) d_int) d_an)) (len_c (len_c len_n))) (d_vone (d_callS (h__law_stays.at hr (by decide)) (d_ac (d_ix (o_ixA rfl hu5) (d_w 7) d_int) (d_ac (d_ix (o_ixA rfl hu5) (d_w 6) d_int) d_an)) (len_c (len_c len_n)))))))))))))))
  exact z
end
end Pf
set_option Elab.async false
set_option linter.all false
set_option maxRecDepth 100000
namespace Pf
open M PySem L2
def drawn (n : Nat) (d : D) : Prop := ∃ l : List Int, d = .lst (l.map .int) ∧ l.length = n ∧ ∀ x ∈ l, 0 ≤ x ∧ x < 720720
def EN : List Str := ["", "a", "b", "c", "ab", "ac", "bc", "abc"]
structure Nd (p : List Str) (due : Int) : Prop where
  ne : 1 ≤ p.length
  le : p.length ≤ 4
  lo : (p.length : Int) ≤ due
  hi : due ≤ 8
  en : ∀ e ∈ p, e ∈ EN
theorem drawn.ix {n : Nat} {d : D} (h : drawn n d) {i : Int} (h0 : 0 ≤ i) (h1 : i < n) : Ok (ixD d (.int i)) fun z => ∃ x : Int, z = .int x ∧ 0 ≤ x ∧ x < 720720 := by
  obtain ⟨l, rfl, hl, hm⟩ := h
  rw [k_ixL]
  obtain ⟨a, ha⟩ := atI_lt (xs := l.map D.int) h0 (by rw [List.length_map]; omega)
  obtain ⟨x, hx, rfl⟩ := List.mem_map.mp (atI_mem ha)
  exact ⟨_, ha, x, rfl, hm x hx⟩
theorem mod_b (x : Int) {m : Int} (h : 0 < m) : 0 ≤ x % m ∧ x % m < m := ⟨Int.emod_nonneg _ (by omega), Int.emod_lt_of_pos _ h⟩
theorem drawn.snoc {l : List Int} {n : Nat} {x : Int} (hm : l.length = n ∧ ∀ x ∈ l, 0 ≤ x ∧ x < 720720) (hx : 0 ≤ x ∧ x < 720720) : (l ++ [x]).length = n + 1 ∧ ∀ z ∈ l ++ [x], 0 ≤ z ∧ z < 720720 := by
  refine ⟨by simp [hm.1], fun z hz => ?_⟩
  rcases List.mem_append.mp hz with h | h
  · exact hm.2 z h
  · rw [List.mem_singleton] at h; subst h; exact hx
end Pf
set_option Elab.async false
set_option linter.all false
set_option maxRecDepth 100000
namespace Pf
open M PySem L2
mutual
theorem deq_self : ∀ (n : Nat) (d : D), dok n d = true → deq d d = true
  | _, .non, _ => by simp [deq]
  | _, .bl b, _ => by simp [deq]
  | _, .int b, _ => by simp [deq]
  | _, .str b, _ => by simp [deq]
  | n + 1, .tup xs, h => by simp only [dok] at h; simp only [deq]; exact deqs_self n xs h
  | n + 1, .lst xs, h => by simp only [dok] at h; simp only [deq]; exact deqs_self n xs h
  | 0, .tup xs, h => by simp [dok] at h
  | 0, .lst xs, h => by simp [dok] at h
  | n, .ty _, h => by cases n <;> simp [dok] at h
  | n, .dic _ _, h => by cases n <;> simp [dok] at h
  | n, .dit _ _, h => by cases n <;> simp [dok] at h
  | n, .obj _ _, h => by cases n <;> simp [dok] at h
  | n, .scr _, h => by cases n <;> simp [dok] at h
  | n, .cls _, h => by cases n <;> simp [dok] at h
theorem deqs_self : ∀ (n : Nat) (ds : List D), doks n ds = true → deqs ds ds = true
  | _, [], _ => by simp [deqs]
  | n, d :: ds, h => by
    simp only [doks, Bool.and_eq_true] at h
    simp only [deqs, Bool.and_eq_true]
    exact ⟨deq_self n d h.1, deqs_self n ds h.2⟩
end
theorem k_neS {d : D} (h : dok 60 d = true) {Q : D → Prop} : Ok (neD d d) Q ↔ Q (.bl false) := by
  have e : neD d d = .ok (.bl false) := by unfold neD; rw [h, deq_self 60 d h]; rfl
  rw [e, ok_ok]
theorem doks_map {α : Type} (f : α → D) (n : Nat) : ∀ (xs : List α), (∀ x ∈ xs, dok n (f x) = true) → doks n (xs.map f) = true
  | [], _ => by simp [doks]
  | x :: xs, h => by
    simp only [List.map_cons, doks, Bool.and_eq_true]
    exact ⟨h x (by simp), doks_map f n xs fun y hy => h y (by simp [hy])⟩
def sg (c : Nat) : Str := ⟨#[c]⟩
theorem k_ext {i : Nat} {f : FE} {S : M.Env} {QS : Fl × M.Env → Prop} : Ok (sExt i f S) QS ↔ Ok (ownL i S) fun ds => Ok (f S) fun d => ∃ es, d = .lst es ∧ ds.length + es.length ≤ sizeLine ∧ QS (.nx, S.set i (some ⟨true, .lst (ds ++ es)⟩)) := by
  unfold sExt
  rw [ok_bind]
  apply iff_of_eq
  congr 1
  funext ds
  rw [ok_bind]
  congr 1
  funext d
  refine propext ?_
  cases d with
  | lst es =>
    simp only [ok_if, ok_ok]
    exact ⟨fun h => ⟨es, rfl, h.1, h.2⟩, fun ⟨es', e, h⟩ => by cases e; exact h⟩
  | _ => simp only [ok_fail]; exact ⟨False.elim, fun ⟨_, e, _⟩ => nomatch e⟩
theorem k_while {t : FT} {s : FS} {n : Nat} {S : M.Env} {QS : Fl × M.Env → Prop} : Ok (whileF t s (n + 1) S) QS ↔ Ok (t S) fun b => (b = true → Ok (s S) fun z => match z.1 with
    | .nx => Ok (whileF t s n z.2) QS
    | .ct => Ok (whileF t s n z.2) QS
    | .bk => QS (.nx, z.2)
    | .rt d => QS (.rt d, z.2)) ∧ (b = false → QS (.nx, S)) := by
  show Ok (t S >>= _) QS ↔ _
  rw [ok_bind]
  apply iff_of_eq
  congr 1
  funext b
  refine propext ?_
  rw [ok_b, ok_ok, ok_bind]
  apply iff_of_eq
  congr 3
  funext z
  obtain ⟨fl, S'⟩ := z
  cases fl <;> simp [ok_ok]
theorem k_aug {i : Nat} {o : D → D → R D} {f : FE} {S : M.Env} {QS : Fl × M.Env → Prop} : Ok (sAugI i o f S) QS ↔ Ok (eV i S) fun x => Ok (f S) fun y => bothI x y = true ∧ Ok (o x y) fun d => QS (.nx, S.set i (some ⟨false, d⟩)) := by
  unfold sAugI; simp only [ok_bind, ok_nox, ok_if, ok_ok]
theorem bothI_i {a b : Int} : bothI (.int a) (.int b) = true := rfl
end Pf
set_option Elab.async false
set_option linter.all false
set_option maxRecDepth 100000
namespace Pf
open M PySem L2 PySem.W PyProof.Rows
theorem srt_map {α : Type} (f : α → D) (xs : List α) : srt (xs.map f) = (xs.mergeSort fun a b => dle (f a) (f b)).map f := by
  unfold srt
  rw [List.map_mergeSort (r := fun a b => dle (f a) (f b)) (s := dle) fun _ _ _ _ => rfl]
theorem k_runT {n : Nat} {s : FS} {ds : List D} {Q : D → Prop} (h : Ok (s (startS n ds)) fun z => ∃ d, z.1 = .rt d ∧ Q d) : Ok (runF true n s ds) Q := by
  unfold runF
  obtain ⟨⟨fl, S'⟩, e, d, he, q⟩ := h
  have he : fl = .rt d := he
  subst he
  rw [e]
  exact ⟨d, rfl, q⟩
theorem k_isL {xs : List D} {Q : D → Prop} : Ok (isiD (.lst xs) (.ty "list")) Q ↔ Q (.bl true) := by
  have e : isiD (.lst xs) (.ty "list") = .ok (.bl true) := by first | rfl | decide
  rw [e, ok_ok]
theorem k_isT {xs : List D} {Q : D → Prop} : Ok (isiD (.tup xs) (.ty "tuple")) Q ↔ Q (.bl true) := by
  have e : isiD (.tup xs) (.ty "tuple") = .ok (.bl true) := by first | rfl | decide
  rw [e, ok_ok]
theorem k_isS {x : Str} {Q : D → Prop} : Ok (isiD (.str x) (.ty "str")) Q ↔ Q (.bl true) := by
  have e : isiD (.str x) (.ty "str") = .ok (.bl true) := by first | rfl | decide
  rw [e, ok_ok]
end Pf
set_option Elab.async false
set_option linter.all false
set_option maxRecDepth 100000
namespace Pf
open M PySem L2 PySem.W PyProof.Rows
theorem ixA_l {xs : List D} {y : D} : ixA (.lst xs) y = ixD (.lst xs) y := rfl
theorem ixA_t {xs : List D} {y : D} : ixA (.tup xs) y = ixD (.tup xs) y := rfl
theorem ixA_c {xs : List Int} {y : D} : ixA (.scr xs) y = ixD (.scr xs) y := rfl
theorem inA_l {xs : List D} {y : D} : inA y (.lst xs) = inD y (.lst xs) := rfl
theorem inA_t {xs : List D} {y : D} : inA y (.tup xs) = inD y (.tup xs) := rfl
theorem inA_s {x : Str} {y : D} : inA y (.str x) = inD y (.str x) := rfl
theorem notInA_l {xs : List D} {y : D} : notInA y (.lst xs) = notInD y (.lst xs) := rfl
theorem notInA_t {xs : List D} {y : D} : notInA y (.tup xs) = notInD y (.tup xs) := rfl
theorem notInA_s {x : Str} {y : D} : notInA y (.str x) = notInD y (.str x) := rfl
theorem any_int (x : Int) : ∀ l : List Int, ((l.map D.int).any fun z => deq z (.int x)) = decide (x ∈ l)
  | [] => by simp
  | y :: l => by
    rw [List.map_cons, List.any_cons, any_int x l]
    have e : deq (.int y) (.int x) = decide (x = y) := by
      simp only [deq]
      by_cases h : x = y
      · subst h; simp
      · rw [decide_eq_false h]; exact beq_eq_false_iff_ne.mpr fun z => h z.symm
    rw [e]
    by_cases h : x = y <;> simp [h]
theorem flat_ints : ∀ l : List Int, (l.map D.int).all flatD = true
  | [] => rfl
  | y :: l => by rw [List.map_cons, List.all_cons, flat_ints l]; rfl
theorem k_inI {x : Int} {l : List Int} {Q : D → Prop} : Ok (inD (.int x) (.lst (l.map .int))) Q ↔ Q (.bl (decide (x ∈ l))) := by
  have e : inD (.int x) (.lst (l.map .int)) = .ok (.bl (decide (x ∈ l))) := by
    simp only [inD, inD', flat_ints, any_int, flatD, Bool.and_self, if_true]
  rw [e, ok_ok]
theorem k_inIT {x : Int} {l : List Int} {Q : D → Prop} : Ok (inD (.int x) (.tup (l.map .int))) Q ↔ Q (.bl (decide (x ∈ l))) := by
  have e : inD (.int x) (.tup (l.map .int)) = .ok (.bl (decide (x ∈ l))) := by
    simp only [inD, inD', flat_ints, any_int, flatD, Bool.and_self, if_true]
  rw [e, ok_ok]
theorem k_ninI {x : Int} {l : List Int} {Q : D → Prop} : Ok (notInD (.int x) (.lst (l.map .int))) Q ↔ Q (.bl (!decide (x ∈ l))) := by
  have e : notInD (.int x) (.lst (l.map .int)) = .ok (.bl (!decide (x ∈ l))) := by
    simp only [notInD, inD', flat_ints, any_int, flatD, Bool.and_self, if_true]
  rw [e, ok_ok]
theorem k_ninIT {x : Int} {l : List Int} {Q : D → Prop} : Ok (notInD (.int x) (.tup (l.map .int))) Q ↔ Q (.bl (!decide (x ∈ l))) := by
  have e : notInD (.int x) (.tup (l.map .int)) = .ok (.bl (!decide (x ∈ l))) := by
    simp only [notInD, inD', flat_ints, any_int, flatD, Bool.and_self, if_true]
  rw [e, ok_ok]
abbrev ile (a b : Int) : Bool := decide (a ≤ b)
theorem dle_int (a b : Int) : dle (.int a) (.int b) = decide (a ≤ b) := by
  unfold dle dlt
  simp only [D.toP, PySem.W.dataLt, PySem.W.keyToks]
  by_cases h : b = a
  · subst h
    rw [lex_self]
    simp [PyProof.Rows.lexLt]
  · rw [lex_diff (O := itemOrd) (by simpa using h)]
    have : itemOrd.blt (.inl b) (.inl a) = decide (b < a) := rfl
    rw [this]
    by_cases h2 : b < a
    · rw [decide_eq_true h2, decide_eq_false (by omega)]; rfl
    · rw [decide_eq_false h2, decide_eq_true (by omega)]; rfl
theorem srt_int (l : List Int) : srt (l.map .int) = (l.mergeSort ile).map .int := by
  rw [srt_map]
  congr 2
  funext a b
  exact dle_int a b
theorem doks_int (n : Nat) (l : List Int) : doks n (l.map .int) = true := doks_map _ _ _ fun x _ => by cases n <;> simp [dok]
theorem srtOk_int (l : List Int) : srtOk (l.map .int) = true := by
  unfold srtOk
  rw [doks_int]
  simp [List.all_eq_true, alikeD, srtItem]
theorem k_srtI {l : List Int} {Q : D → Prop} : Ok (srtAD (.lst (l.map .int))) Q ↔ Q (.lst ((l.mergeSort ile).map .int)) := by
  have e : srtAD (.lst (l.map .int)) = .ok (.lst ((l.mergeSort ile).map .int)) := by simp only [srtAD, srtOk_int, if_true, srt_int]
  rw [e, ok_ok]
theorem k_srtIT {l : List Int} {Q : D → Prop} : Ok (srtAD (.tup (l.map .int))) Q ↔ Q (.lst ((l.mergeSort ile).map .int)) := by
  have e : srtAD (.tup (l.map .int)) = .ok (.lst ((l.mergeSort ile).map .int)) := by simp only [srtAD, srtOk_int, if_true, srt_int]
  rw [e, ok_ok]
theorem ms_mem {l : List Int} {x : Int} : x ∈ l.mergeSort ile ↔ x ∈ l := List.mem_mergeSort
theorem ms_strict {l : List Int} (h : l.Nodup) : (l.mergeSort ile).Pairwise (· < ·) := by
  have h1 : (l.mergeSort ile).Pairwise fun a b => ile a b = true := List.pairwise_mergeSort (fun a b c h1 h2 => by simp only [ile, decide_eq_true_eq] at *; omega) (fun a b => by simp only [ile, Bool.or_eq_true, decide_eq_true_eq]; omega) l
  have h2 : (l.mergeSort ile).Nodup := (List.mergeSort_perm l ile).nodup_iff.mpr h
  exact (h1.and h2).imp fun ⟨a, b⟩ => by simp only [ile, decide_eq_true_eq] at a; omega
theorem srtN_congr {a b : List Int} (h : ∀ x, x ∈ a ↔ x ∈ b) : srtN a = srtN b := strict_unique (srtN_strict a) (srtN_strict b) fun k => by rw [srtN_mem, srtN_mem, h]
theorem srtN_nd {l : List Int} (h : l.Nodup) : srtN l = l.mergeSort ile := strict_unique (srtN_strict l) (ms_strict h) fun k => by rw [srtN_mem, ms_mem]
theorem srtN_id {l : List Int} (h : l.Pairwise (· < ·)) : srtN l = l := strict_unique (srtN_strict l) h fun k => srtN_mem l
abbrev T3 := Int × Int × Int
def tD (e : T3) : D := .tup [.int e.1, .int e.2.1, .int e.2.2]
def tlt (a b : T3) : Prop := a.1 < b.1 ∨ a.1 = b.1 ∧ (a.2.1 < b.2.1 ∨ a.2.1 = b.2.1 ∧ a.2.2 < b.2.2)
instance (a b : T3) : Decidable (tlt a b) := by unfold tlt; infer_instance
def tle (a b : T3) : Bool := !decide (tlt b a)
theorem dle_t (a b : T3) : dle (tD a) (tD b) = tle a b := by
  unfold dle dlt tle
  congr 1
  simp only [tD, D.toP, D.toPs, PySem.W.dataLt, PySem.W.keyToks, PySem.W.keyToksAll, List.cons_append, List.nil_append]
  have I : ∀ (x y : Int), itemOrd.blt (.inl x) (.inl y) = decide (x < y) := fun _ _ => rfl
  obtain ⟨a1, a2, a3⟩ := a
  obtain ⟨b1, b2, b3⟩ := b
  rw [lex_self]
  unfold tlt
  by_cases h1 : b1 = a1
  · subst h1
    rw [lex_self, lex_self]
    by_cases h2 : b2 = a2
    · subst h2
      rw [lex_self, lex_self]
      by_cases h3 : b3 = a3
      · subst h3; rw [lex_self, lex_self, PyProof.Rows.lexLt]; symm; exact decide_eq_false (by dsimp only; omega)
      · rw [lex_diff (O := itemOrd) (by simpa using h3), I]
        exact decide_eq_decide.mpr (by dsimp only; omega)
    · rw [lex_diff (O := itemOrd) (by simpa using h2), I]
      exact decide_eq_decide.mpr (by dsimp only; omega)
  · rw [lex_diff (O := itemOrd) (by simpa using h1), I]
    exact decide_eq_decide.mpr (by dsimp only; omega)
theorem tlt_ne {a b : T3} (h : tlt a b) : a ≠ b := by rintro rfl; unfold tlt at h; omega
theorem tle_tr (a b c : T3) (h1 : tle a b = true) (h2 : tle b c = true) : tle a c = true := by
  simp only [tle, Bool.not_eq_true', decide_eq_false_iff_not] at *
  unfold tlt at *; omega
theorem tle_to (a b : T3) : (tle a b || tle b a) = true := by
  simp only [tle, Bool.or_eq_true, Bool.not_eq_true', decide_eq_false_iff_not]
  unfold tlt; omega
theorem tle_lt {a b : T3} (h : tle a b = true) (hn : a ≠ b) : tlt a b := by
  simp only [tle, Bool.not_eq_true', decide_eq_false_iff_not] at h
  unfold tlt at *
  obtain ⟨a1, a2, a3⟩ := a
  obtain ⟨b1, b2, b3⟩ := b
  simp only [ne_eq, Prod.mk.injEq, not_and] at *
  omega
theorem tst_strict {l : List T3} (h : l.Nodup) : (l.mergeSort tle).Pairwise tlt := by
  have h1 := List.pairwise_mergeSort tle_tr tle_to l
  have h2 : (l.mergeSort tle).Nodup := (List.mergeSort_perm l tle).nodup_iff.mpr h
  exact (h1.and h2).imp fun ⟨a, b⟩ => tle_lt a b
theorem srt_t (l : List T3) : srt (l.map tD) = (l.mergeSort tle).map tD := by
  rw [srt_map]
  congr 2
  funext a b
  exact dle_t a b
theorem doks_t (n : Nat) (l : List T3) : doks (n + 1) (l.map tD) = true := doks_map _ _ _ fun x _ => by cases n <;> simp [tD, dok, doks]
theorem srtOk_t (l : List T3) : srtOk (l.map tD) = true := by
  unfold srtOk
  rw [doks_t]
  simp [List.all_eq_true, tD, alikeD, alikeDs, srtItem]
theorem k_srtT {l : List T3} {Q : D → Prop} : Ok (srtAD (.lst (l.map tD))) Q ↔ Q (.lst ((l.mergeSort tle).map tD)) := by
  have e : srtAD (.lst (l.map tD)) = .ok (.lst ((l.mergeSort tle).map tD)) := by simp only [srtAD, srtOk_t, if_true, srt_t]
  rw [e, ok_ok]
theorem deq_t (a b : T3) : deq (tD a) (tD b) = decide (b = a) := by
  obtain ⟨a1, a2, a3⟩ := a
  obtain ⟨b1, b2, b3⟩ := b
  simp only [tD, deq, deqs, Bool.and_true]
  by_cases h : (b1, b2, b3) = (a1, a2, a3)
  · rw [decide_eq_true h]; cases h; simp
  · rw [decide_eq_false h]
    simp only [Prod.mk.injEq, not_and] at h
    simp only [Bool.and_eq_false_iff, beq_eq_false_iff_ne, ne_eq]
    omega
theorem any_t (x : T3) : ∀ l : List T3, ((l.map tD).any fun z => deq z (tD x)) = decide (x ∈ l)
  | [] => by simp
  | y :: l => by
    rw [List.map_cons, List.any_cons, any_t x l, deq_t]
    by_cases h : x = y <;> simp [h]
theorem k_ninT {x : T3} {l : List T3} {Q : D → Prop} : Ok (notInD (tD x) (.lst (l.map tD))) Q ↔ Q (.bl (!decide (x ∈ l))) := by
  have e : notInD (tD x) (.lst (l.map tD)) = .ok (.bl (!decide (x ∈ l))) := by
    have f : (flatD (tD x) && (l.map tD).all flatD) = false := rfl
    have g : (dok 60 (tD x) && doks 59 (l.map tD)) = true := by rw [doks_t]; simp [tD, dok, doks]
    simp only [notInD, inD', f, g, any_t, Bool.false_eq_true, if_false, if_true]
  rw [e, ok_ok]
theorem k_gT3 {e : T3} {r : FGs} {S : M.Env} {QE : M.Env → Prop} : Ok (gT 3 r (tD e) S) QE ↔ Ok (r [.int e.1, .int e.2.1, .int e.2.2] S) QE := by
  show Ok (gT 3 r (.tup [.int e.1, .int e.2.1, .int e.2.2]) S) QE ↔ _
  rw [k_gT]; simp
theorem k_tupD {e : T3} {Q : D → Prop} : Ok (tupD (tD e)) Q ↔ Q (tD e) := ok_ok
theorem asI_t : ∀ (l : List T3), l ≠ [] → asI (l.map tD) = none
  | [], h => absurd rfl h
  | e :: l, _ => rfl
theorem asTs_t : ∀ l : List T3, asTs (l.map tD) = some (l.map fun e => [e.1, e.2.1, e.2.2])
  | [] => rfl
  | e :: l => by
    rw [List.map_cons, asTs, asTs_t l]
    rfl
theorem nd_nubG {κ : Type} [DecidableEq κ] {l : List κ} (h : l.Nodup) : (nubG l).length = l.length := (M.nub_len h fun x => Iff.rfl).symm
theorem nd_map {α β : Type} (f : α → β) {l : List α} (h : l.Nodup) (i : ∀ a ∈ l, ∀ b ∈ l, f a = f b → a = b) : (l.map f).Nodup := by
  rw [List.Nodup, List.pairwise_map]
  refine List.Pairwise.imp_of_mem ?_ h
  intro a b ha hb hn e
  exact hn (i a ha b hb e)
theorem lenSet_T {l : List T3} (h : l.Nodup) (hl : l.length ≤ 300) (hn : l ≠ []) : lenSetD (.tup (l.map tD)) = .ok (.int l.length) := by
  simp only [lenSetD, asI_t l hn, asTs_t]
  rw [if_pos (by rw [List.length_map]; exact hl), nd_nubG (nd_map _ h fun a _ b _ e => by
    obtain ⟨a1, a2, a3⟩ := a
    obtain ⟨b1, b2, b3⟩ := b
    simpa using e), List.length_map]
theorem asI_int (l : List Int) : asI (l.map D.int) = some l := by have := asI_mapf (fun i : Int => i) l; simpa using this
theorem lenSet_i {l : List Int} (h : l.Nodup) (hl : l.length ≤ 1000) : lenSetD (.tup (l.map .int)) = .ok (.int l.length) := by
  simp only [lenSetD, asI_int]
  rw [if_pos hl, nd_nubG h]
theorem strict_nd {l : List Int} (h : l.Pairwise (· < ·)) : l.Nodup := h.imp fun h e => by omega
theorem tstrict_nd {l : List T3} (h : l.Pairwise tlt) : l.Nodup := h.imp fun h e => tlt_ne h e
theorem while_inv {t : FT} {s : FS} {QS : Fl × M.Env → Prop} (P : Nat → M.Env → Prop) : ∀ (m n : Nat) (S : M.Env), m < n → P m S → (∀ m S, P m S → Ok (t S) fun b => (b = true → Ok (s S) fun z => match z.1 with
    | .nx => ∃ m', m' < m ∧ P m' z.2
    | .ct => ∃ m', m' < m ∧ P m' z.2
    | .bk => QS (.nx, z.2)
    | .rt d => QS (.rt d, z.2)) ∧ (b = false → QS (.nx, S))) → Ok (whileF t s n S) QS := by
  intro m n
  induction n generalizing m with
  | zero => intro S h; omega
  | succ n ih =>
    intro S h hp k
    rw [k_while]
    refine (k m S hp).mono fun b hb => ⟨fun e => (hb.1 e).mono fun z hz => ?_, hb.2⟩
    obtain ⟨fl, S'⟩ := z
    cases fl with
    | nx => obtain ⟨m', h1, h2⟩ := hz; exact ih m' S' (by omega) h2 k
    | ct => obtain ⟨m', h1, h2⟩ := hz; exact ih m' S' (by omega) h2 k
    | bk => exact hz
    | rt d => exact hz
end Pf
set_option Elab.async false
set_option linter.all false
set_option maxRecDepth 100000
namespace Pf
open M PySem L2
section
variable {Q : D → Prop} {QB : Bool → Prop} {QL : List D → Prop} {QS : Fl × M.Env → Prop} {S : M.Env} {f g h : FE} {t : FT} {fa fk : FA} {s r : FS} {i j ci : Nat} {d x y : D}
theorem k_guardX {QS : Fl × M.Env → Prop} {c : Nat} : Ok (sIf t (sExc0 c) sNil S) QS ↔ Ok (t S) fun b => b = false ∧ QS (.nx, S) := by
  rw [k_if]
  apply iff_of_eq
  congr 1
  funext b
  have e : Ok (sExc0 c S) QS ↔ False := ⟨fun ⟨_, e, _⟩ => (nomatch e), False.elim⟩
  cases b <;> simp [k_nil, e]
theorem k_truT {xs : List D} : Ok (truD (.tup xs)) QB ↔ QB (!xs.isEmpty) := ok_ok
theorem k_truL {xs : List D} : Ok (truD (.lst xs)) QB ↔ QB (!xs.isEmpty) := ok_ok
theorem k_truI {n : Int} : Ok (truD (.int n)) QB ↔ QB (n != 0) := ok_ok
def getOr (d y z : D) : R D := match dlook d y with
  | some (some r) => .ok r
  | some none => .ok z
  | none => .fail
theorem k_eGet2 : Ok (eGet2 f g h S) Q ↔ Ok (f S) fun d => isDct d = true ∧ Ok (g S) fun y => Ok (h S) fun z => Ok (getOr d y z) Q := by
  unfold eGet2
  simp only [ok_bind]
  apply iff_of_eq
  congr 1
  funext d
  by_cases hd : isDct d = true
  · rw [if_pos hd]; simp only [hd, true_and, ok_bind]; rfl
  · rw [if_neg hd, ok_fail]; simp [hd]
theorem k_putA : Ok (sPutA i f g S) QS ↔ Ok (ownD i S) fun m => Ok (g S) fun d => Ok (f S) fun y => Ok (putA i S m d y) QS := by
  unfold sPutA; simp only [ok_bind]
theorem oD_z {l : List (Option Sl)} : Ok (ownD 0 (some ⟨true, d⟩ :: l)) Q ↔ Q d := ok_ok
theorem oD_s {a : Option Sl} {l : List (Option Sl)} : Ok (ownD (i + 1) (a :: l)) Q ↔ Ok (ownD i l) Q := Iff.rfl
theorem k_putK {ks : List Key} {ds : List D} {n : Int} : Ok (putA i S (.dic ks ds) d (.int n)) QS ↔ (ks.Nodup ∧ ks.length < sizeLine) ∧ QS (.nx, S.set i (some ⟨true, .dic (putL ks ds (.inl n) d).1 (putL ks ds (.inl n) d).2⟩)) := by
  show Ok (if _ then _ else _) QS ↔ _; rw [ok_if, ok_ok]
theorem k_putS {ks : List Key} {ds : List D} {n : Str} : Ok (putA i S (.dic ks ds) d (.str n)) QS ↔ (ks.Nodup ∧ ks.length < sizeLine) ∧ QS (.nx, S.set i (some ⟨true, .dic (putL ks ds (.inr n) d).1 (putL ks ds (.inr n) d).2⟩)) := by
  show Ok (if _ then _ else _) QS ↔ _; rw [ok_if, ok_ok]
theorem keyT_2 {a b : Int} : keyT (.tup [.int a, .int b]) = some [.inl a, .inl b] := by
  show (if 1 < 2 ∧ 2 < 4 ∧ ([.int a, .int b] : List D).all isStrD = false then keysD [.int a, .int b] else none) = _
  rw [if_pos (by refine ⟨?_, ?_, rfl⟩ <;> decide)]; rfl
theorem k_putT2 {ks : List (List Key)} {ds : List D} {a b : Int} : Ok (putA i S (.dit ks ds) d (.tup [.int a, .int b])) QS ↔ (ks.Nodup ∧ ks.length < sizeLine) ∧ QS (.nx, S.set i (some ⟨true, .dit (putL ks ds [.inl a, .inl b] d).1 (putL ks ds [.inl a, .inl b] d).2⟩)) := by
  unfold putA
  simp only [keyT_2]
  rw [ok_if, ok_ok]
theorem k_addT {a b : List D} : Ok (addD (.tup a) (.tup b)) Q ↔ a.length + b.length ≤ sizeLine ∧ Q (.tup (a ++ b)) := by show Ok (if _ then _ else _) Q ↔ _; rw [ok_if, ok_ok]
theorem k_addLL {a b : List D} : Ok (addD (.lst a) (.lst b)) Q ↔ a.length + b.length ≤ sizeLine ∧ Q (.lst (a ++ b)) := by show Ok (if _ then _ else _) Q ↔ _; rw [ok_if, ok_ok]
theorem k_CX {o : List D → R D} : Ok (eCX o fa S) Q ↔ Ok (fa S) fun xs => Ok (o xs) Q := by unfold eCX; simp only [ok_bind]
theorem k_CXK {o : List D → R D} : Ok (eCXK o fa fk S) Q ↔ Ok (fa S) fun xs => Ok (fk S) fun ys => Ok (o (xs ++ ys)) Q := by unfold eCXK; simp only [ok_bind]
theorem k_MX {den : List D → R D} : Ok (eMX ci den f fa S) Q ↔ Ok (f S) fun o => o.isObj ci = true ∧ Ok (fa S) fun ds => Ok (den (o :: ds)) Q := by unfold eMX; simp only [ok_bind, ok_if]
theorem k_lstL {xs : List D} : Ok (lstD (.lst xs)) Q ↔ Q (.lst xs) := ok_ok
theorem k_lstT {xs : List D} : Ok (lstD (.tup xs)) Q ↔ Q (.lst xs) := ok_ok
theorem k_boolL {xs : List D} : Ok (boolD (.lst xs)) Q ↔ Q (.bl (!xs.isEmpty)) := ok_ok
theorem k_boolT {xs : List D} : Ok (boolD (.tup xs)) Q ↔ Q (.bl (!xs.isEmpty)) := ok_ok
theorem k_lstE {out : List D} : Ok (lstE out) Q ↔ out.length ≤ sizeLine ∧ Q (.lst out) := by unfold lstE; rw [ok_if, ok_ok]
theorem k_LM {den : List D → R (List D)} : Ok (eLM ci den f fa S) Q ↔ Ok (f S) fun o => o.isObj ci = true ∧ Ok (fa S) fun ds => Ok (den (o :: ds)) fun out => Ok (lstE out) Q := by
  unfold eLM; simp only [ok_bind, ok_if, ok_nox]
theorem k_hasB {n b : Bool} : Ok (hasB n (.bl b)) Q ↔ Q (.bl (b != n)) := ok_ok
theorem k_eHas {den : List D → R D} {n : Bool} : Ok (eHas ci den n f g S) Q ↔ Ok (f S) fun x => Ok (g S) fun o => o.isObj ci = true ∧ Ok (den [o, x]) fun d => Ok (hasB n d) Q := by
  unfold eHas; simp only [ok_bind, ok_if, ok_nox]
theorem k_parO : Ok (sParO i j f g S) QS ↔ Ok (f S) fun d => Ok (g S) fun e => QS (.nx, (S.set i (some ⟨true, d⟩)).set j (some ⟨true, e⟩)) := by unfold sParO; simp only [ok_bind, ok_ok]
end
def seqD (t : Bool) (xs : List D) : D := if t then .tup xs else .lst xs
theorem k_itemsQ {t : Bool} {xs : List D} {QL : List D → Prop} : Ok (itemsD (seqD t xs)) QL ↔ QL xs := by cases t <;> exact ok_ok
theorem k_lenQ {t : Bool} {xs : List D} {Q : D → Prop} : Ok (lenD (seqD t xs)) Q ↔ Q (.int xs.length) := by cases t <;> exact ok_ok
theorem k_ixQ {t : Bool} {xs : List D} {n : Int} {Q : D → Prop} : Ok (ixA (seqD t xs) (.int n)) Q ↔ ∃ d, L2.atI xs n = some d ∧ Q d := by
  cases t
  · exact k_ixL
  · exact k_ixT
theorem k_srtQ {t : Bool} {l : List Int} {Q : D → Prop} : Ok (srtAD (seqD t (l.map .int))) Q ↔ Q (.lst ((l.mergeSort ile).map .int)) := by
  cases t
  · exact k_srtI
  · exact k_srtIT
theorem lst_seqD (xs : List D) : D.lst xs = seqD false xs := rfl
theorem tup_seqD (xs : List D) : D.tup xs = seqD true xs := rfl
theorem atI_0 {α : Type} {x : α} {xs : List α} : L2.atI (x :: xs) 0 = some x := by
  unfold L2.atI ixN
  rw [if_pos (by decide), if_pos (by rw [List.length_cons]; omega)]; rfl
theorem atI_last {α : Type} {xs : List α} (h : xs ≠ []) : ∃ a, L2.atI xs (-1) = some a ∧ a ∈ xs := by
  have hl : 0 < xs.length := List.length_pos_iff.mpr h
  have e : ∃ a, L2.atI xs (-1) = some a := by
    unfold L2.atI ixN
    rw [if_neg (by decide), if_pos (by omega)]
    exact ⟨xs[(-1 + (xs.length : Int)).toNat]'(by omega), List.getElem?_eq_getElem _⟩
  obtain ⟨a, e⟩ := e
  exact ⟨a, e, atI_mem e⟩
theorem k_Sl {f : FE} {l h : FO} {S : M.Env} {Q : D → Prop} : Ok (eSl f l h S) Q ↔ Ok (f S) fun x => Ok (l S) fun lo => Ok (h S) fun hi => Ok (slD x lo hi) Q := by
  unfold eSl; simp only [ok_bind, ok_nox]
theorem k_oN {S : M.Env} {Q : Option Int → Prop} : Ok (oN S) Q ↔ Q none := ok_ok
theorem k_oS {f : FE} {S : M.Env} {Q : Option Int → Prop} : Ok (oS f S) Q ↔ Ok (f S) fun d => Ok (toI d) Q := by unfold oS; rw [ok_bind]
theorem k_toI {i : Int} {Q : Option Int → Prop} : Ok (toI (.int i)) Q ↔ Q (some i) := ok_ok
theorem k_slL {xs : List D} {lo hi : Option Int} {Q : D → Prop} : Ok (slD (.lst xs) lo hi) Q ↔ Q (.lst (M.cutL xs lo hi)) := ok_ok
theorem k_slT {xs : List D} {lo hi : Option Int} {Q : D → Prop} : Ok (slD (.tup xs) lo hi) Q ↔ Q (.tup (M.cutL xs lo hi)) := ok_ok
theorem cut_map {α β : Type} (f : α → β) (xs : List α) (lo hi : Option Int) : M.cutL (xs.map f) lo hi = (M.cutL xs lo hi).map f := by
  unfold M.cutL
  rw [List.length_map, List.map_take, List.map_drop]
theorem cut_drop {α : Type} {xs : List α} {j : Int} (h : 0 ≤ j) : M.cutL xs (some j) none = xs.drop j.toNat := by
  unfold M.cutL
  obtain ⟨k, rfl⟩ : ∃ k : Nat, j = k := ⟨j.toNat, by omega⟩
  rw [HT.sIx_none, HT.sIx_nat, Int.toNat_natCast]
  by_cases hl : k ≤ xs.length
  · rw [Nat.min_eq_left hl, List.take_of_length_le (by rw [List.length_drop]; omega)]
  · rw [Nat.min_eq_right (by omega), Nat.sub_self, List.take_zero, List.drop_eq_nil_of_le (by omega)]
theorem take_mapD {α β : Type} (f : α → β) (xs : List α) (n : Nat) : (xs.map f).take n = (xs.take n).map f := List.map_take.symm
theorem drop_mapD {α β : Type} (f : α → β) (xs : List α) (n : Nat) : (xs.map f).drop n = (xs.drop n).map f := List.map_drop.symm
theorem dec_self {α : Type} [DecidableEq α] (a : α) : decide (a = a) = true := decide_eq_true rfl
theorem k_deqS {d : D} (h : dok 60 d = true) {Q : D → Prop} : Ok (eqD d d) Q ↔ Q (.bl true) := by
  have e : eqD d d = .ok (.bl true) := by unfold eqD; rw [h, deq_self 60 d h]; rfl
  rw [e, ok_ok]
theorem dok_tints (l : List Int) : dok 60 (.tup (l.map .int)) = true := by simp only [dok]; exact doks_int _ _
theorem dok_tts (l : List T3) : dok 60 (.tup (l.map tD)) = true := by simp only [dok]; exact doks_t 58 _
theorem sz0 : (0 ≤ sizeLine) = True := eq_true (Nat.le_trans (by omega) size_ge)
theorem sz1 : (1 ≤ sizeLine) = True := eq_true (Nat.le_trans (by omega) size_ge)
theorem sz2 : (2 ≤ sizeLine) = True := eq_true (Nat.le_trans (by omega) size_ge)
theorem sz3 : (3 ≤ sizeLine) = True := eq_true (Nat.le_trans (by omega) size_ge)
theorem sz4 : (4 ≤ sizeLine) = True := eq_true (Nat.le_trans (by omega) size_ge)
theorem sz5 : (5 ≤ sizeLine) = True := eq_true (Nat.le_trans (by omega) size_ge)
theorem sz6 : (6 ≤ sizeLine) = True := eq_true (Nat.le_trans (by omega) size_ge)
theorem sz7 : (7 ≤ sizeLine) = True := eq_true (Nat.le_trans (by omega) size_ge)
theorem sz8 : (8 ≤ sizeLine) = True := eq_true (Nat.le_trans (by omega) size_ge)
theorem sz9 : (9 ≤ sizeLine) = True := eq_true (Nat.le_trans (by omega) size_ge)
end Pf
set_option Elab.async false
set_option linter.all false
set_option maxRecDepth 100000
set_option maxHeartbeats 0
namespace Pf
open PySem L2 M
theorem facts {P : Program} {w : World} {K : PySem.W.Frag} {h : Heap} {mg : Str → Option Value} {f : Addr} (X : K.In h) (Gn : h.Ns mainGlobals mg) (hfa : mg ("law" : Str) = some (.ref f)) (cz : SaysV fv fn w K) :
    ∃ fd : FuncData, (∀ (s : Shared) (v : Value), BindsTo s fd ⟨[v], []⟩ [("_law_script", v)]) ∧ ∀ base : Heap, K.In base → base.Ns mainGlobals mg → FnOk P w K mg base CX0 5 f fd ["_law_script"] (SpF ⟨K, clK K⟩ false 1 d_law) := by
  have cv := cz
  have cz := cv.z
  have c := cz.y
  have B : Bt mg := ⟨He.free_ok X Gn (c.fact 25 (f := .free "abs") rfl), He.free_ok X Gn (c.fact 26 (f := .free "bool") rfl), He.free_ok X Gn (c.fact 27 (f := .free "dict") rfl), He.free_ok X Gn (c.fact 28 (f := .free "int") rfl), He.free_ok X Gn (c.fact 29 (f := .free "isinstance") rfl), He.free_ok X Gn (c.fact 30 (f := .free "len") rfl), He.free_ok X Gn (c.fact 31 (f := .free "list") rfl), He.free_ok X Gn (c.fact 32 (f := .free "min") rfl), He.free_ok X Gn (c.fact 33 (f := .free "range") rfl), He.free_ok X Gn (c.fact 34 (f := .free "set") rfl), He.free_ok X Gn (c.fact 35 (f := .free "sorted") rfl), He.free_ok X Gn (c.fact 36 (f := .free "sum") rfl), He.free_ok X Gn (c.fact 37 (f := .free "tuple") rfl)⟩
  have q_Supply : mg "Supply" = some (.ref (He.ga K "Supply")) := He.glo_ok X Gn (c.fact 38 (f := .glo "Supply") rfl)
  have k_Supply : clK K 3 = some (He.ga K "Supply", (["size", "steps", "starts", "moves"] : List Str)) := rfl
  have cc_Supply : Cls K (He.ga K "Supply") := He.cls_ok (c.fact 39 (f := .cls "Supply") rfl)
  have mk_Supply : Mk K (He.ga K "Supply") (He.ma K (He.ga K "Supply") "__init__") := He.mkr_ok (c.fact 40 (f := .mkr "Supply") rfl)
  have C_Supply : ClsI K ⟨K, clK K⟩ 3 (["size", "steps", "starts", "moves"] : List Str) := ⟨⟨_, k_Supply, cc_Supply, fun z hz => by
    simp only [List.mem_cons, List.not_mem_nil, or_false] at hz
    rcases hz with rfl | rfl | rfl | rfl
    · exact He.noat_ok (c.fact 41 (f := .noat "Supply" "size") rfl)
    · exact He.noat_ok (c.fact 42 (f := .noat "Supply" "steps") rfl)
    · exact He.noat_ok (c.fact 43 (f := .noat "Supply" "starts") rfl)
    · exact He.noat_ok (c.fact 44 (f := .noat "Supply" "moves") rfl)⟩, by decide +kernel, by decide⟩
  have g_Supply : Gc mg ⟨K, clK K⟩ "Supply" (.cls 3) := gcls_ok q_Supply k_Supply
  have q_Rate : mg "Rate" = some (.ref (He.ga K "Rate")) := He.glo_ok X Gn (c.fact 45 (f := .glo "Rate") rfl)
  have k_Rate : clK K 5 = some (He.ga K "Rate", (["given", "ticks", "lead", "loop", "numbers"] : List Str)) := rfl
  have cc_Rate : Cls K (He.ga K "Rate") := He.cls_ok (c.fact 46 (f := .cls "Rate") rfl)
  have mk_Rate : Mk K (He.ga K "Rate") (He.ma K (He.ga K "Rate") "__init__") := He.mkr_ok (c.fact 47 (f := .mkr "Rate") rfl)
  have C_Rate : ClsI K ⟨K, clK K⟩ 5 (["given", "ticks", "lead", "loop", "numbers"] : List Str) := ⟨⟨_, k_Rate, cc_Rate, fun z hz => by
    simp only [List.mem_cons, List.not_mem_nil, or_false] at hz
    rcases hz with rfl | rfl | rfl | rfl | rfl
    · exact He.noat_ok (c.fact 48 (f := .noat "Rate" "given") rfl)
    · exact He.noat_ok (c.fact 49 (f := .noat "Rate" "ticks") rfl)
    · exact He.noat_ok (c.fact 50 (f := .noat "Rate" "lead") rfl)
    · exact He.noat_ok (c.fact 51 (f := .noat "Rate" "loop") rfl)
    · exact He.noat_ok (c.fact 52 (f := .noat "Rate" "numbers") rfl)⟩, by decide +kernel, by decide⟩
  have g_Rate : Gc mg ⟨K, clK K⟩ "Rate" (.cls 5) := gcls_ok q_Rate k_Rate
  have q_InvalidSupply : mg "InvalidSupply" = some (.ref (He.ga K "InvalidSupply")) := He.glo_ok X Gn (c.fact 54 (f := .glo "InvalidSupply") rfl)
  have k_InvalidSupply : clK K 202 = some (He.ga K "InvalidSupply", ([] : List Str)) := rfl
  have g_InvalidSupply : Gc mg ⟨K, clK K⟩ "InvalidSupply" (.cls 202) := gcls_ok q_InvalidSupply k_InvalidSupply
  have R_InvalidSupply : RaO K mg ⟨K, clK K⟩ "InvalidSupply" 202 := raO_ok (c.fact 55 (f := .exc "InvalidSupply") rfl) q_InvalidSupply k_InvalidSupply
  have h0 : clK K xix = none := by rfl
  have hd_Supply : ∀ Gd, RDs ⟨K, clK K⟩ Gd [.tup [.int 0]] [.ref (kwAt (.met "Supply" "__init__") "starts" K)] := fun Gd => (.cons (dfl_ok (cv.xf 0 (f := .dfl (.met "Supply" "__init__") "starts" (.tup [.int 0])) rfl) Gd) .nil)
  have g_MOST_STATES : Gc mg ⟨K, clK K⟩ "MOST_STATES" gv_MOST_STATES := gB_ok X Gn (c.gc 0 (f := ("MOST_STATES", gv_MOST_STATES)) rfl)
  obtain ⟨fd_check_supply, F_check_supply⟩ := c.def_ 0 (d := dd_check_supply) rfl
  obtain ⟨fd_moves_of, F_moves_of⟩ := c.def_ 1 (d := dd_moves_of) rfl
  obtain ⟨fd_Supply, F_Supply⟩ := c.def_ 2 (d := dd_Supply) rfl
  obtain ⟨fd_Supply_reached, F_Supply_reached⟩ := c.def_ 3 (d := dd_Supply_reached) rfl
  obtain ⟨fd_moves_from, F_moves_from⟩ := c.def_ 4 (d := dd_moves_from) rfl
  obtain ⟨fd_word_to, F_word_to⟩ := c.def_ 5 (d := dd_word_to) rfl
  obtain ⟨fd_lowest, F_lowest⟩ := c.def_ 6 (d := dd_lowest) rfl
  obtain ⟨fd_Rate, F_Rate⟩ := c.def_ 7 (d := dd_Rate) rfl
  obtain ⟨fd_some_loop, F_some_loop⟩ := c.def_ 8 (d := dd_some_loop) rfl
  obtain ⟨fd_mean_of, F_mean_of⟩ := c.def_ 9 (d := dd_mean_of) rfl
  obtain ⟨fd_loop_behind, F_loop_behind⟩ := c.def_ 10 (d := dd_loop_behind) rfl
  obtain ⟨fd_lesser_loop, F_lesser_loop⟩ := c.def_ 11 (d := dd_lesser_loop) rfl
  obtain ⟨fd_rate, F_rate⟩ := c.def_ 12 (d := dd_rate) rfl
  obtain ⟨fd__law_number, F__law_number⟩ := c.def_ 13 (d := dd__law_number) rfl
  obtain ⟨fd__law_machine, F__law_machine⟩ := c.def_ 14 (d := dd__law_machine) rfl
  obtain ⟨fd__law_ring, F__law_ring⟩ := c.def_ 15 (d := dd__law_ring) rfl
  obtain ⟨fd__law_share, F__law_share⟩ := c.def_ 16 (d := dd__law_share) rfl
  obtain ⟨fd__law_begins, F__law_begins⟩ := c.def_ 17 (d := dd__law_begins) rfl
  obtain ⟨fd__law_drawn, F__law_drawn⟩ := c.def_ 18 (d := dd__law_drawn) rfl
  obtain ⟨fd__law_reached, F__law_reached⟩ := c.def_ 19 (d := dd__law_reached) rfl
  obtain ⟨fd__law_moves, F__law_moves⟩ := c.def_ 20 (d := dd__law_moves) rfl
  obtain ⟨fd__law_after, F__law_after⟩ := c.def_ 21 (d := dd__law_after) rfl
  obtain ⟨fd__law_is_int, F__law_is_int⟩ := c.def_ 22 (d := dd__law_is_int) rfl
  obtain ⟨fd__law_is_word, F__law_is_word⟩ := c.def_ 23 (d := dd__law_is_word) rfl
  obtain ⟨fd__law_bears, F__law_bears⟩ := c.def_ 24 (d := dd__law_bears) rfl
  obtain ⟨fd__law_goes_round, F__law_goes_round⟩ := c.def_ 25 (d := dd__law_goes_round) rfl
  obtain ⟨fd__law_stays, F__law_stays⟩ := c.def_ 26 (d := dd__law_stays) rfl
  obtain ⟨fd_law, F_law⟩ := c.def_ 27 (d := dd_law) rfl
  have e := hfa.symm.trans (He.glo_ok X Gn (c.fact 24 (f := .glo "law") rfl))
  cases e
  have b := FunD.bindsA (ps := ["_law_script"]) F_law fun _ _ _ _ _ _ us hl => match us, hl with | [_], _ => rfl
  refine ⟨fd_law, fun s v => b s [v] rfl, fun base _ _ => ?_⟩
  have h_check_supply : CalleeX P w K mg base ⟨K, clK K⟩ 1 "check_supply" 3 false d_check_supply := ok_check_supply F_check_supply (He.glo_ok X Gn (c.fact 0 (f := .glo "check_supply") rfl)) B g_MOST_STATES R_InvalidSupply
  have h_moves_of : Callee P w K mg base ⟨K, clK K⟩ 1 "moves_of" 1 true d_moves_of := ok_moves_of F_moves_of (He.glo_ok X Gn (c.fact 1 (f := .glo "moves_of") rfl)) B 
  have mx_Supply : MakerXK P w K mg base ⟨K, clK K⟩ 2 "Supply" 3 2 ["starts"] d_Supply := okk_Supply hd_Supply F_Supply k_Supply mk_Supply q_Supply B C_Supply h_check_supply h_moves_of
  have m_Supply : MakerXD P w K mg base ⟨K, clK K⟩ 2 "Supply" 3 2 [.tup [.int 0]] d_Supply := ok_Supply hd_Supply F_Supply k_Supply mk_Supply q_Supply B C_Supply h_check_supply h_moves_of
  have h_Supply_reached : Method P w K mg base ⟨K, clK K⟩ 1 3 "reached" 1 false d_Supply_reached := ok_Supply_reached F_Supply_reached k_Supply cc_Supply (He.meth_ok (c.fact 53 (f := .meth "Supply" "reached") rfl)) B C_Supply
  have h_moves_from : Callee P w K mg base ⟨K, clK K⟩ 2 "moves_from" 1 false d_moves_from := ok_moves_from F_moves_from (He.glo_ok X Gn (c.fact 2 (f := .glo "moves_from") rfl)) B h_Supply_reached C_Supply
  have h_word_to : Callee P w K mg base ⟨K, clK K⟩ 3 "word_to" 2 false d_word_to := ok_word_to F_word_to (He.glo_ok X Gn (c.fact 3 (f := .glo "word_to") rfl)) B h_moves_from C_Supply
  have h_lowest : Callee P w K mg base ⟨K, clK K⟩ 1 "lowest" 2 false d_lowest := ok_lowest F_lowest (He.glo_ok X Gn (c.fact 4 (f := .glo "lowest") rfl)) B 
  have h_Rate : Maker P w K mg base ⟨K, clK K⟩ 1 "Rate" 5 5 d_Rate := ok_Rate F_Rate k_Rate mk_Rate q_Rate B C_Rate
  have h_some_loop : Callee P w K mg base ⟨K, clK K⟩ 1 "some_loop" 2 false d_some_loop := ok_some_loop F_some_loop (He.glo_ok X Gn (c.fact 5 (f := .glo "some_loop") rfl)) B 
  have h_mean_of : Callee P w K mg base ⟨K, clK K⟩ 2 "mean_of" 1 false d_mean_of := ok_mean_of F_mean_of (He.glo_ok X Gn (c.fact 6 (f := .glo "mean_of") rfl)) B h_lowest
  have h_loop_behind : Callee P w K mg base ⟨K, clK K⟩ 1 "loop_behind" 2 false d_loop_behind := ok_loop_behind F_loop_behind (He.glo_ok X Gn (c.fact 7 (f := .glo "loop_behind") rfl)) B 
  have h_lesser_loop : Callee P w K mg base ⟨K, clK K⟩ 2 "lesser_loop" 3 false d_lesser_loop := ok_lesser_loop F_lesser_loop (He.glo_ok X Gn (c.fact 8 (f := .glo "lesser_loop") rfl)) B h_loop_behind
  have h_rate : Callee P w K mg base ⟨K, clK K⟩ 4 "rate" 1 false d_rate := ok_rate F_rate (He.glo_ok X Gn (c.fact 9 (f := .glo "rate") rfl)) B h_moves_from h_some_loop C_Supply h_mean_of h_lesser_loop h_word_to h_Rate
  have h__law_number : Callee P w K mg base ⟨K, clK K⟩ 1 "_law_number" 2 false d__law_number := ok__law_number F__law_number (He.glo_ok X Gn (c.fact 10 (f := .glo "_law_number") rfl)) B 
  have h__law_machine : Callee P w K mg base ⟨K, clK K⟩ 2 "_law_machine" 5 false d__law_machine := ok__law_machine F__law_machine (He.glo_ok X Gn (c.fact 11 (f := .glo "_law_machine") rfl)) B h__law_number
  have h__law_ring : Callee P w K mg base ⟨K, clK K⟩ 1 "_law_ring" 2 false d__law_ring := ok__law_ring F__law_ring (He.glo_ok X Gn (c.fact 12 (f := .glo "_law_ring") rfl)) B 
  have h__law_share : Callee P w K mg base ⟨K, clK K⟩ 1 "_law_share" 2 false d__law_share := ok__law_share F__law_share (He.glo_ok X Gn (c.fact 13 (f := .glo "_law_share") rfl)) B 
  have h__law_begins : Callee P w K mg base ⟨K, clK K⟩ 1 "_law_begins" 2 false d__law_begins := ok__law_begins F__law_begins (He.glo_ok X Gn (c.fact 14 (f := .glo "_law_begins") rfl)) B 
  have h__law_drawn : Callee P w K mg base ⟨K, clK K⟩ 3 "_law_drawn" 1 false d__law_drawn := ok__law_drawn F__law_drawn (He.glo_ok X Gn (c.fact 15 (f := .glo "_law_drawn") rfl)) B h__law_number h__law_share h__law_ring h__law_machine h__law_begins
  have h__law_reached : Callee P w K mg base ⟨K, clK K⟩ 1 "_law_reached" 3 false d__law_reached := ok__law_reached F__law_reached (He.glo_ok X Gn (c.fact 16 (f := .glo "_law_reached") rfl)) B 
  have h__law_moves : Callee P w K mg base ⟨K, clK K⟩ 1 "_law_moves" 1 false d__law_moves := ok__law_moves F__law_moves (He.glo_ok X Gn (c.fact 17 (f := .glo "_law_moves") rfl)) B 
  have h__law_after : Callee P w K mg base ⟨K, clK K⟩ 1 "_law_after" 3 false d__law_after := ok__law_after F__law_after (He.glo_ok X Gn (c.fact 18 (f := .glo "_law_after") rfl)) B 
  have h__law_is_int : Callee P w K mg base ⟨K, clK K⟩ 1 "_law_is_int" 1 false d__law_is_int := ok__law_is_int F__law_is_int (He.glo_ok X Gn (c.fact 19 (f := .glo "_law_is_int") rfl)) B 
  have h__law_is_word : Callee P w K mg base ⟨K, clK K⟩ 1 "_law_is_word" 1 false d__law_is_word := ok__law_is_word F__law_is_word (He.glo_ok X Gn (c.fact 20 (f := .glo "_law_is_word") rfl)) B 
  have h__law_bears : Callee P w K mg base ⟨K, clK K⟩ 2 "_law_bears" 3 false d__law_bears := ok__law_bears F__law_bears (He.glo_ok X Gn (c.fact 21 (f := .glo "_law_bears") rfl)) B C_Rate h__law_is_int
  have h__law_goes_round : Callee P w K mg base ⟨K, clK K⟩ 2 "_law_goes_round" 3 false d__law_goes_round := ok__law_goes_round F__law_goes_round (He.glo_ok X Gn (c.fact 22 (f := .glo "_law_goes_round") rfl)) B h__law_is_word C_Rate h__law_moves h__law_after
  have h__law_stays : Callee P w K mg base ⟨K, clK K⟩ 1 "_law_stays" 2 false d__law_stays := ok__law_stays F__law_stays (He.glo_ok X Gn (c.fact 23 (f := .glo "_law_stays") rfl)) B C_Supply
  exact ok_law F_law (He.glo_ok X Gn (c.fact 24 (f := .glo "law") rfl)) B h__law_drawn h__law_reached mx_Supply h_rate h__law_bears h__law_goes_round C_Rate h__law_stays
end Pf
namespace Pf
open M PySem L2
local macro_rules
  | `(tactic| simp? only [$ls,*]) => `(tactic| (try simp only [↓k_guard, k_no, k_I, k_S, k_B, k_N, k_G, k_Y, k_V, k_W, k_O, g0_z, g0_s, gA_z, gA_s, g1_z, g1_s, k_1, k_2, k_n, k_c, k_T, k_L, k_C, k_f1, k_f2, k_App, k_M, k_P, k_3, k_tB, k_tT, k_toB, k_tNo, k_tA, k_tO, k_tY, k_And, k_Or, k_Not, k_eIf, k_nil, k_seq, k_set, k_own, k_drop, k_ret, k_retN, k_retO, k_if, k_fz, fz_z, fz_s, k_gN, k_gsN, k_gsC, k_gT, k_asg, k_for, k_fnil, k_fcons, k_app, oL_z, oL_s, k_par, k_run, k_runN, k_fld, oO_z, k_add, k_addL, k_sub, k_mul, k_div, k_mod, k_pow, k_neg, k_lt, k_le, k_gt, k_ge, k_eqI, k_neI, k_int, k_intB, k_abs, k_lenL, k_lenT, k_lenC, k_tru, k_tupL, k_tupT, k_items_l, k_items_t, k_rng1, k_ixL, k_ixT, k_ixC, k_fldD, ok_nox, ok_ok, ok_bind, List.set_cons_zero, List.set_cons_succ, startS, startN, List.map_cons, List.map_nil, List.cons_append, List.nil_append, List.append_nil, List.length_cons, List.length_nil, List.replicate, Nat.reduceSub, Nat.reduceAdd, Nat.reduceLeDiff, Nat.zero_add, true_and, and_true, false_implies, true_implies, implies_true, forall_const, reduceCtorEq, Bool.not_true, Bool.not_false, Bool.not_eq_true', ↓k_guardX, k_truT, k_truL, k_truI, k_eGet2, k_putA, oD_z, oD_s, k_putK, k_putS, k_putT2, k_addT, k_addLL, k_CX, k_CXK, k_MX, k_lstL, k_lstT, k_boolL, k_boolT, k_LM, k_lstE, k_hasB, k_eHas, k_itemsQ, k_lenQ, k_ixQ, k_srtQ, k_parO, k_aug, bothI_i, k_ext, ixA_l, ixA_t, ixA_c, inA_l, inA_t, inA_s, notInA_l, notInA_t, notInA_s, k_inI, k_inIT, k_ninI, k_ninIT, k_srtI, k_srtIT, k_isL, k_isT, k_isS, List.getElem?_cons_zero, List.getElem?_cons_succ, Option.some.injEq, exists_eq_left', k_Sl, k_oN, k_oS, k_toI, k_slL, k_slT, cut_map, take_mapD, drop_mapD, dec_self, decide_true, decide_false, wipeS, List.length_map, List.set_nil, sz0, sz1, sz2, sz3, sz4, sz5, sz6, sz7, sz8, sz9, $ls,*]))
local macro_rules
  | `(tactic| dsimp? only [$ls,*]) => `(tactic| (try simp only [↓k_guard, k_no, k_I, k_S, k_B, k_N, k_G, k_Y, k_V, k_W, k_O, g0_z, g0_s, gA_z, gA_s, g1_z, g1_s, k_1, k_2, k_n, k_c, k_T, k_L, k_C, k_f1, k_f2, k_App, k_M, k_P, k_3, k_tB, k_tT, k_toB, k_tNo, k_tA, k_tO, k_tY, k_And, k_Or, k_Not, k_eIf, k_nil, k_seq, k_set, k_own, k_drop, k_ret, k_retN, k_retO, k_if, k_fz, fz_z, fz_s, k_gN, k_gsN, k_gsC, k_gT, k_asg, k_for, k_fnil, k_fcons, k_app, oL_z, oL_s, k_par, k_run, k_runN, k_fld, oO_z, k_add, k_addL, k_sub, k_mul, k_div, k_mod, k_pow, k_neg, k_lt, k_le, k_gt, k_ge, k_eqI, k_neI, k_int, k_intB, k_abs, k_lenL, k_lenT, k_lenC, k_tru, k_tupL, k_tupT, k_items_l, k_items_t, k_rng1, k_ixL, k_ixT, k_ixC, k_fldD, ok_nox, ok_ok, ok_bind, List.set_cons_zero, List.set_cons_succ, startS, startN, List.map_cons, List.map_nil, List.cons_append, List.nil_append, List.append_nil, List.length_cons, List.length_nil, List.replicate, Nat.reduceSub, Nat.reduceAdd, Nat.reduceLeDiff, Nat.zero_add, true_and, and_true, false_implies, true_implies, implies_true, forall_const, reduceCtorEq, Bool.not_true, Bool.not_false, Bool.not_eq_true', $ls,*]))
set_option Elab.async false
set_option linter.all false
set_option maxRecDepth 100000
open M PySem L2
theorem p_num (ns : List Int) (at_ : Int) (h63 : ns.length ≤ 63) (h0 : 0 ≤ at_) (h1 : at_ < 200) : ∃ v : Int, 0 ≤ v ∧ d__law_number [.scr ns, .int at_] = .ok (.int v) := by
  have hs := size_ge
  suffices h : Ok (d__law_number [.scr ns, .int at_]) fun d => ∃ v : Int, 0 ≤ v ∧ d = .int v by
    obtain ⟨d, e, v, h1, rfl⟩ := h
    exact ⟨v, h1, e⟩
  have abs0 : ∀ z : Int, 0 ≤ (if z < 0 then -z else z) := fun z => by split <;> omega
  have tl : ∀ (r m : Int) (QS : Fl × M.Env → Prop), 0 ≤ r → (∀ r' o, 0 ≤ r' → QS (.nx, [(some (Sl.mk false (.scr ns))), (some (Sl.mk false (.int at_))), (some (Sl.mk false (.int r'))), (some (Sl.mk false (.int m))), o])) →
      Ok (forF (gN 4) (sSet 2 (e2 fdivD (eW 2) (eI 1000003))) (rngL 0 (at_ - ↑ns.length + 1).toNat) [(some (Sl.mk false (.scr ns))), (some (Sl.mk false (.int at_))), (some (Sl.mk false (.int r))), (some (Sl.mk false (.int m))), none]) QS := by
    intro r m QS hr q
    refine for_inv (fun i S => ∃ r' o, 0 ≤ r' ∧ S = [(some (Sl.mk false (.scr ns))), (some (Sl.mk false (.int at_))), (some (Sl.mk false (.int r'))), (some (Sl.mk false (.int m))), o]) _ 0 _ ⟨r, none, hr, rfl⟩ ?_ ?_
    · rintro i d S hd ⟨r', o, hr', rfl⟩
      obtain ⟨hi, rfl⟩ := rngL_get hd
      simp? only []
      exact ⟨div_c (by omega) (by omega), r' / 1000003, ⟨_, Int.ediv_nonneg hr' (by omega), rfl⟩⟩
    · rintro S ⟨r', o, hr', rfl⟩
      exact q r' o hr'
  unfold d__law_number m__law_number
  rw [ok_nox, k_run]
  simp? only []
  refine ⟨fun h => ?_, fun h => ?_⟩
  · obtain ⟨d, hd⟩ := atI_lt (xs := ns) h0 (of_decide_eq_true h)
    exact ⟨d, hd, _, abs0 d, rfl⟩
  have hl := of_decide_eq_false h
  have m7 := fun x : Int => mod_b x (m := 10007) (by omega)
  refine ⟨fun h => ?_, fun h => ?_⟩
  · obtain ⟨d, hd, _⟩ := atI_last (xs := ns) (fun e => by subst e; simp at h)
    refine ⟨d, hd, by omega, mul_r (by omega) (by omega), mul_r (by omega) (by omega), by omega, by omega, ?_⟩
    refine tl _ _ _ (abs0 d) fun r' o hr' => ?_
    have b1 := m7 ((if d < 0 then -d else d) % 10007 * 31 + at_ * 17 + 5)
    generalize ((if d < 0 then -d else d) % 10007 * 31 + at_ * 17 + 5) % 10007 = m at b1 ⊢
    simp? only []
    refine ⟨fun _ => ⟨by omega, _, (mod_b r' (by omega)).1, rfl⟩, fun _ => ⟨mul_r (by omega) (by omega), by omega, ?_⟩⟩
    have b2 := mod_b (m * m + at_) (m := 9973) (by omega)
    generalize (m * m + at_) % 9973 = y at b2 ⊢
    exact ⟨mul_r (by omega) (by omega), by omega, _, (mod_b _ (by omega)).1, rfl⟩
  · refine ⟨by omega, mul_r (by omega) (by omega), mul_r (by omega) (by omega), by omega, by omega, ?_⟩
    refine tl _ _ _ (Int.le_refl 0) fun r' o hr' => ?_
    have b1 := m7 (0 % 10007 * 31 + at_ * 17 + 5)
    generalize (0 % 10007 * 31 + at_ * 17 + 5) % 10007 = m at b1 ⊢
    simp? only []
    refine ⟨fun _ => ⟨by omega, _, (mod_b r' (by omega)).1, rfl⟩, fun _ => ⟨mul_r (by omega) (by omega), by omega, ?_⟩⟩
    have b2 := mod_b (m * m + at_) (m := 9973) (by omega)
    generalize (m * m + at_) % 9973 = y at b2 ⊢
    exact ⟨mul_r (by omega) (by omega), by omega, _, (mod_b _ (by omega)).1, rfl⟩
structure StpB (size : Int) (L : List T3) (k : Int) : Prop where
  nd : L.Nodup
  bd : ∀ e ∈ L, (0 ≤ e.1 ∧ e.1 < k) ∧ (e.2.1 = 0 ∨ e.2.1 = 1) ∧ (0 ≤ e.2.2 ∧ e.2.2 < size)
  ev : ∀ s, 0 ≤ s → s < k → ∃ e ∈ L, e.1 = s
theorem k_neBB {a b : Bool} {Q : D → Prop} : Ok (neD (.bl a) (.bl b)) Q ↔ Q (.bl (a != b)) := by
  have e : neD (.bl a) (.bl b) = .ok (.bl (a != b)) := by cases a <;> cases b <;> rfl
  rw [e, ok_ok]
theorem k_intB {b : Bool} {Q : D → Prop} : Ok (intD (.bl b)) Q ↔ Q (.int (if b then 1 else 0)) := by
  have e : intD (.bl b) = .ok (.int (if b then 1 else 0)) := by cases b <;> rfl
  rw [e, ok_ok]
theorem p_machine (ns : List Int) (first size turns : Int) (flip : Bool) (h63 : ns.length ≤ 63) (f0 : 0 ≤ first) (f1 : first < 100) (s0 : 1 ≤ size) (s1 : size ≤ 6) (t0 : 1 ≤ turns) (t1 : turns ≤ 3) :
    ∃ L, StpB size L size ∧ L.length ≤ 18 ∧ d__law_machine [.scr ns, .int first, .int size, .int turns, .bl flip] = .ok (.lst (L.map tD)) := by
  have hs := size_ge
  suffices h : Ok (d__law_machine [.scr ns, .int first, .int size, .int turns, .bl flip]) fun d => ∃ L, StpB size L size ∧ L.length ≤ 18 ∧ d = .lst (L.map tD) by
    obtain ⟨d, e, L, h1, h2, rfl⟩ := h
    exact ⟨L, h1, h2, e⟩
  unfold d__law_machine m__law_machine
  rw [ok_nox, k_run]
  simp? only []
  refine ⟨by omega, ?_⟩
  refine for_inv (fun i S => ∃ L a b c d e, StpB size L i ∧ (L.length : Int) ≤ i * turns ∧ S = [(some (Sl.mk false (.scr ns))), (some (Sl.mk false (.int first))), (some (Sl.mk false (.int size))), (some (Sl.mk false (.int turns))), (some (Sl.mk false (.bl flip))), (some (Sl.mk true (.lst (L.map tD)))), a, b, c, d, e]) _ 0 _ ⟨[], none, none, none, none, none, ⟨List.nodup_nil, by simp, fun s a b => by omega⟩, by simp, rfl⟩ ?_ ?_
  · rintro i d S hd ⟨L, a, b, c, d', e, B, hl, rfl⟩
    obtain ⟨hi, rfl⟩ := rngL_get hd
    rw [Nat.zero_add] at B hl
    obtain ⟨v, v0, ev⟩ := p_num ns (first + (0 + (i : Int))) h63 (by omega) (by omega)
    simp? only [ev]
    refine ⟨by omega, ?_⟩
    obtain ⟨K, hK⟩ : ∃ K, K = (i : Int) * turns := ⟨_, rfl⟩
    refine for_inv (fun j S => ∃ L r c d e, L.Nodup ∧ (∀ e ∈ L, (0 ≤ e.1 ∧ e.1 < (i : Int) + 1) ∧ (e.2.1 = 0 ∨ e.2.1 = 1) ∧ (0 ≤ e.2.2 ∧ e.2.2 < size)) ∧ (∀ s, 0 ≤ s → s < (i : Int) → ∃ e ∈ L, e.1 = s) ∧ (1 ≤ j → ∃ e ∈ L, e.1 = (i : Int)) ∧ (L.length : Int) ≤ K + j ∧ 0 ≤ r ∧
      S = [(some (Sl.mk false (.scr ns))), (some (Sl.mk false (.int first))), (some (Sl.mk false (.int size))), (some (Sl.mk false (.int turns))), (some (Sl.mk false (.bl flip))), (some (Sl.mk true (.lst (L.map tD)))), (some (Sl.mk false (.int (0 + (i : Int))))), (some (Sl.mk false (.int r))), c, d, e]) _ 0 _ ⟨L, v, c, d', e, B.nd, fun e he => ?_, B.ev, fun z => absurd z (by omega), by omega, v0, rfl⟩ ?_ ?_
    · have := B.bd e he; omega
    · rintro j d S hd ⟨L, r, c, d', e, n1, n2, n3, n4, n5, r0, rfl⟩
      obtain ⟨hj, rfl⟩ := rngL_get hd
      rw [Nat.zero_add] at n4 n5
      have ij : 0 + (j : Int) = j := by omega
      have lb : L.length < sizeLine := by have := Int.mul_le_mul (show (i : Int) ≤ 6 by omega) t1 (by omega) (by omega); omega
      simp? only [k_neBB, k_intB, ij]
      refine ⟨fun h => ?x, fun h => ⟨fun h2 => ?y, fun h2 => ?z⟩⟩
      case z =>
        have := of_decide_eq_false h
        exact ⟨L, r, _, _, _, n1, n2, n3, n4 (by omega), by omega, r0, rfl⟩
      all_goals
        have q1 := mod_b (r % (3 * size) / 3 + (0 + (i : Int)) + 1) (m := size) (by omega)
        have q2 : ∀ b : Bool, (if b = true then (1 : Int) else 0) = 0 ∨ (if b = true then (1 : Int) else 0) = 1 := fun b => by cases b <;> simp
        have q3 := q2 (decide (0 < r % (3 * size) % 3) != flip)
        have q4 : 0 ≤ r / (3 * size) := Int.ediv_nonneg r0 (by omega)
        generalize (r % (3 * size) / 3 + (0 + (i : Int)) + 1) % size = u at q1 ⊢
        generalize (if (decide (0 < r % (3 * size) % 3) != flip) = true then (1 : Int) else 0) = t at q3 ⊢
        generalize r / (3 * size) = r' at q4 ⊢
        refine ⟨mul_l (by omega) (by omega), by omega, mul_l (by omega) (by omega), div_c (by omega) (by omega), by omega, div_c (by omega) (by omega), by omega, ?_⟩
        have et : D.tup [.int (0 + (i : Int)), .int t, .int u] = tD ((i : Int), t, u) := by rw [Int.zero_add]; rfl
        rw [et, k_ninT]
        simp? only []
        refine ⟨fun g => ⟨lb, L ++ [((i : Int), t, u)], r', _, _, _, ?_, ?_, ?_, ⟨_, List.mem_append_right _ (List.mem_singleton.mpr rfl), rfl⟩, ?_, q4, by rw [List.map_append]; rfl⟩, fun g => ⟨L, r', _, _, _, n1, n2, n3, ⟨_, by simpa using g, rfl⟩, by omega, q4, rfl⟩⟩
        · have g' : ((i : Int), t, u) ∉ L := by simpa using g
          exact List.nodup_append.mpr ⟨n1, by simp, fun a ha b hb => by rw [List.mem_singleton] at hb; subst hb; exact fun z => g' (z ▸ ha)⟩
        · intro e he
          rcases List.mem_append.mp he with he | he
          · exact n2 e he
          · rw [List.mem_singleton.mp he]; exact ⟨⟨by omega, by omega⟩, q3, q1⟩
        · intro s a b
          obtain ⟨e, he, h⟩ := n3 s a b
          exact ⟨e, List.mem_append_left _ he, h⟩
        · rw [List.length_append]; simp; omega
    · rintro S ⟨L, r, c, d', e, n1, n2, n3, n4, n5, r0, rfl⟩
      rw [rngL_len, Nat.zero_add] at n4 n5
      refine ⟨L, _, _, _, _, _, ⟨n1, fun e he => ?_, fun s a b => ?_⟩, ?_, rfl⟩
      · have := n2 e he; omega
      · by_cases h : s < i
        · exact n3 s a h
        · obtain rfl : s = i := by omega
          exact n4 (by omega)
      · have : ((i + 1 : Nat) : Int) * turns = K + turns := by rw [hK, show ((i + 1 : Nat) : Int) = i + 1 by omega, Int.add_mul, Int.one_mul]
        omega
  · rintro S ⟨L, a, b, c, d, e, B, hl, rfl⟩
    rw [rngL_len, Nat.zero_add] at B hl
    have e1 : ((size.toNat : Nat) : Int) = size := by omega
    rw [e1] at B hl
    have h18 : size * turns ≤ 18 := by
      have := Int.mul_le_mul s1 t1 (by omega) (by omega)
      omega
    simp? only [k_srtT]
    have pm := List.mergeSort_perm L tle
    exact ⟨L.mergeSort tle, ⟨pm.nodup_iff.mpr B.nd, fun e he => B.bd e (pm.mem_iff.mp he), fun s a b => by
      obtain ⟨e, he, h⟩ := B.ev s a b
      exact ⟨e, pm.mem_iff.mpr he, h⟩⟩, by rw [pm.length_eq]; omega, rfl⟩
theorem k_inI2 {a b c : Int} {Q : D → Prop} : Ok (inD (.int a) (.tup [.int b, .int c])) Q ↔ Q (.bl (decide (a = b ∨ a = c))) := by
  have := k_inIT (x := a) (l := [b, c]) (Q := Q)
  simpa only [List.map_cons, List.map_nil, List.mem_cons, List.not_mem_nil, or_false] using this
theorem StpB.join {size : Int} {L T : List T3} {i : Int} (B : StpB size L i) (i0 : 0 ≤ i) (hT : ∀ e ∈ T, e.1 = i ∧ (e.2.1 = 0 ∨ e.2.1 = 1) ∧ (0 ≤ e.2.2 ∧ e.2.2 < size)) (nd : T.Nodup) (ne : T ≠ []) : StpB size (L ++ T) (i + 1) := by
  refine ⟨List.nodup_append.mpr ⟨B.nd, nd, fun a ha b hb z => ?_⟩, fun e he => ?_, fun s s0 s1 => ?_⟩
  · subst z
    have := (B.bd a ha).1.2
    have := (hT a hb).1
    omega
  · rcases List.mem_append.mp he with he | he
    · have := B.bd e he; omega
    · obtain ⟨a, b, c⟩ := hT e he
      exact ⟨by omega, b, c⟩
  · by_cases h : s < i
    · obtain ⟨e, he, z⟩ := B.ev s s0 h
      exact ⟨e, List.mem_append_left _ he, z⟩
    · obtain ⟨e, he⟩ := List.exists_mem_of_ne_nil _ ne
      exact ⟨e, List.mem_append_right _ he, by have := (hT e he).1; omega⟩
theorem p_ring {v size : Int} (v0 : 0 ≤ v) (s0 : 1 ≤ size) (s1 : size ≤ 100) :
    ∃ L, StpB size L size ∧ (L.length : Int) ≤ 2 * size ∧ d__law_ring [.int v, .int size] = .ok (.lst (L.map tD)) := by
  have hs := size_ge
  suffices h : Ok (d__law_ring [.int v, .int size]) fun d => ∃ L, StpB size L size ∧ (L.length : Int) ≤ 2 * size ∧ d = .lst (L.map tD) by
    obtain ⟨d, e, L, h1, h2, rfl⟩ := h
    exact ⟨L, h1, h2, e⟩
  unfold d__law_ring m__law_ring
  rw [ok_nox, k_run]
  simp? only []
  refine ⟨by omega, ?_⟩
  refine for_inv (fun i S => ∃ L r a b c, StpB size L i ∧ (L.length : Int) ≤ 2 * i ∧ 0 ≤ r ∧ S = [(some (Sl.mk false (.int v))), (some (Sl.mk false (.int size))), (some (Sl.mk true (.lst (L.map tD)))), (some (Sl.mk false (.int r))), a, b, c]) _ 0 _ ⟨[], v, none, none, none, ⟨List.nodup_nil, by simp, fun s a b => by omega⟩, by simp, v0, rfl⟩ ?_ ?_
  · rintro i d S hd ⟨L, r, a, b, c, B, hl, r0, rfl⟩
    obtain ⟨hi, rfl⟩ := rngL_get hd
    rw [Nat.zero_add] at B hl
    rw [k_gN]
    simp only [List.set_cons_succ, List.set_cons_zero]
    refine seq_cut (fun S => ∃ g : Int, (g = 0 ∨ g = 1 ∨ g = 2) ∧ S = [(some (Sl.mk false (.int v))), (some (Sl.mk false (.int size))), (some (Sl.mk true (.lst (L.map tD)))), (some (Sl.mk false (.int r))), (some (Sl.mk false (.int (0 + (i : Int))))), (some (Sl.mk false (.int g))), c]) ?_ ?_
    · simp? only []
      have q : (0 + (i : Int)) % 4 = 0 ∨ (0 + (i : Int)) % 4 = 1 ∨ (0 + (i : Int)) % 4 = 2 ∨ (0 + (i : Int)) % 4 = 3 := by omega
      rcases q with q | q | q | q <;> rw [q]
      · exact ⟨by omega, _, rfl, 1, by simp, rfl⟩
      · exact ⟨by omega, _, rfl, 0, by simp, rfl⟩
      · exact ⟨by omega, _, rfl, 1, by simp, rfl⟩
      · exact ⟨by omega, _, rfl, 2, by simp, rfl⟩
    rintro S ⟨g, hg, rfl⟩
    refine seq_cut (fun S => ∃ g r : Int, (g = 0 ∨ g = 1 ∨ g = 2) ∧ 0 ≤ r ∧ S = [(some (Sl.mk false (.int v))), (some (Sl.mk false (.int size))), (some (Sl.mk true (.lst (L.map tD)))), (some (Sl.mk false (.int r))), (some (Sl.mk false (.int (0 + (i : Int))))), (some (Sl.mk false (.int g))), c]) ?_ ?_
    · simp? only []
      exact ⟨fun _ => ⟨by omega, div_c (by omega) (by omega), r % 3, r / 3, by omega, Int.ediv_nonneg r0 (by omega), rfl⟩, fun _ => ⟨g, r, hg, r0, rfl⟩⟩
    rintro S ⟨g, r, hg, r0, rfl⟩
    have q1 := mod_b (0 + (i : Int) + 1) (m := size) (by omega)
    obtain ⟨u, hu⟩ : ∃ u, u = (0 + (i : Int) + 1) % size := ⟨_, rfl⟩
    rw [← hu] at q1
    simp? only []
    refine k_lcT D.int (fun t => decide (g = t ∨ g = 2)) (fun t => tD ((i : Int), t, u)) [0, 1] ?_ (by show 2 ≤ sizeLine; omega) ?_ ?_
    · simp? only []
    · intro x hx
      simp? only [k_inI2]
      exact fun _ => ⟨by omega, by rw [← hu, Int.zero_add]; rfl⟩
    · have et : List.map (fun t => tD ((i : Int), t, u)) (List.filter (fun t => decide (g = t ∨ g = 2)) [0, 1]) = (((List.filter (fun t => decide (g = t ∨ g = 2)) [0, 1]).map fun t => ((i : Int), t, u)) : List T3).map tD := by rw [List.map_map]; rfl
      rw [et]
      have hT : (((List.filter (fun t => decide (g = t ∨ g = 2)) [0, 1]).map fun t => ((i : Int), t, u)) : List T3) = (if g = 0 ∨ g = 2 then [((i : Int), 0, u)] else []) ++ (if g = 1 ∨ g = 2 then [((i : Int), 1, u)] else []) := by
        rcases hg with rfl | rfl | rfl <;> simp
      generalize (((List.filter (fun t => decide (g = t ∨ g = 2)) [0, 1]).map fun t => ((i : Int), t, u)) : List T3) = T at hT ⊢
      have hTl : T.length ≤ 2 ∧ T ≠ [] ∧ T.Nodup ∧ ∀ e ∈ T, e.1 = (i : Int) ∧ (e.2.1 = 0 ∨ e.2.1 = 1) ∧ (0 ≤ e.2.2 ∧ e.2.2 < size) := by
        rcases hg with rfl | rfl | rfl <;> simp at hT <;> subst hT <;> simp <;> omega
      obtain ⟨t1, t2, t3, t4⟩ := hTl
      simp? only []
      refine ⟨_, rfl, by rw [List.length_map]; omega, L ++ T, r, _, _, _, ?_, ?_, r0, by rw [List.map_append]⟩
      · have := B.join (by omega) t4 t3 t2
        simpa using this
      · rw [List.length_append]; omega
  · rintro S ⟨L, r, a, b, c, B, hl, r0, rfl⟩
    rw [rngL_len, Nat.zero_add] at B hl
    have e1 : ((size.toNat : Nat) : Int) = size := by omega
    rw [e1] at B hl
    simp? only []
    exact ⟨L, B, hl, rfl⟩
set_option Elab.async false
set_option linter.all false
set_option maxRecDepth 100000
open M PySem L2
def unT3 : List D → Option (List T3)
  | [] => some []
  | .tup [.int a, .int b, .int c] :: ds => (unT3 ds).map ((a, b, c) :: ·)
  | _ => none
theorem unT3_eq : ∀ {ds : List D} {L : List T3}, unT3 ds = some L → ds = L.map tD
  | [], L, h => by cases h; rfl
  | d :: ds, L, h => by
    unfold unT3 at h
    split at h
    · rename_i e; cases e
    · rename_i a b c ds' e
      cases e
      obtain ⟨L', h1, rfl⟩ := Option.map_eq_some_iff.mp h
      rw [unT3_eq h1]; rfl
    · cases h
def eqT3 (a b : T3) : Bool := (decide (a.1 = b.1) && decide (a.2.1 = b.2.1)) && decide (a.2.2 = b.2.2)
def ndT3 : List T3 → Bool
  | [] => true
  | x :: xs => (xs.all fun y => !eqT3 x y) && ndT3 xs
theorem ndT3_of : ∀ {L : List T3}, ndT3 L = true → L.Nodup
  | [], _ => List.nodup_nil
  | x :: xs, h => by
    simp only [ndT3, Bool.and_eq_true, List.all_eq_true] at h
    refine List.nodup_cons.mpr ⟨fun z => ?_, ndT3_of h.2⟩
    have := h.1 x z
    simp [eqT3] at this
def bdT3 (size : Int) (e : T3) : Bool := ((decide (0 ≤ e.1) && decide (e.1 < size)) && (decide (e.2.1 = 0) || decide (e.2.1 = 1))) && (decide (0 ≤ e.2.2) && decide (e.2.2 < size))
def stpOk (size : Int) (L : List T3) : Bool := ndT3 L && L.all (bdT3 size) && (List.range size.toNat).all fun s => L.any fun e => decide (e.1 = (s : Int))
theorem stpOk_of {size : Int} {L : List T3} (h : stpOk size L = true) : StpB size L size := by
  simp only [stpOk, Bool.and_eq_true, decide_eq_true_eq, List.all_eq_true, List.any_eq_true, List.mem_range] at h
  refine ⟨ndT3_of h.1.1, fun e he => by
    have := h.1.2 e he
    simp only [bdT3, Bool.and_eq_true, Bool.or_eq_true, decide_eq_true_eq] at this
    exact ⟨this.1.1, this.1.2, this.2⟩, fun s s0 s1 => ?_⟩
  obtain ⟨e, he, z⟩ := h.2 s.toNat (by omega)
  exact ⟨e, he, by omega⟩
def shareR (r : R D) : Bool := match r with
  | .ok (.tup [.int n, .lst ds]) => (match unT3 ds with
    | some L => stpOk n L && decide (1 ≤ n) && decide (n ≤ 40) && decide (L.length ≤ 80)
    | none => false)
  | _ => false
def shareOk (q p : Nat) : Bool := shareR (d__law_share [.int q, .int p])
theorem shareAt_at {p q : Nat} (h : ((List.range (p + 1)).all fun q => shareOk q p) = true) (hq : q ≤ p) : shareOk q p = true := List.all_eq_true.mp h q (List.mem_range.mpr (by omega))
theorem shareR_of {r : R D} (h : shareR r = true) : ∃ n L, StpB n L n ∧ 1 ≤ n ∧ n ≤ 40 ∧ L.length ≤ 80 ∧ r = .ok (.tup [.int n, .lst (L.map tD)]) := by
  unfold shareR at h
  split at h
  · rename_i n ds
    split at h
    · rename_i L hL
      simp only [Bool.and_eq_true, decide_eq_true_eq] at h
      exact ⟨n, L, stpOk_of h.1.1.1, h.1.1.2, h.1.2, h.2, by rw [unT3_eq hL]⟩
    · cases h
  · cases h
def shareAt (p : Nat) : Bool := (List.range (p + 1)).all fun q => shareOk q p
theorem share1 : shareAt 1 = true := by decide +kernel
theorem share2 : shareAt 2 = true := by decide +kernel
theorem share3 : shareAt 3 = true := by decide +kernel
theorem share4 : shareAt 4 = true := by decide +kernel
theorem share5 : shareAt 5 = true := by decide +kernel
theorem share6 : shareAt 6 = true := by decide +kernel
theorem share7 : shareAt 7 = true := by decide +kernel
theorem share8 : shareAt 8 = true := by decide +kernel
theorem p_lshare {q p : Int} (q0 : 0 ≤ q) (q1 : q ≤ p) (p0 : 1 ≤ p) (p1 : p ≤ 8) : ∃ n L, StpB n L n ∧ 1 ≤ n ∧ n ≤ 40 ∧ L.length ≤ 80 ∧ d__law_share [.int q, .int p] = .ok (.tup [.int n, .lst (L.map tD)]) := by
  have hp : shareAt p.toNat = true := by
    have : p.toNat = 1 ∨ p.toNat = 2 ∨ p.toNat = 3 ∨ p.toNat = 4 ∨ p.toNat = 5 ∨ p.toNat = 6 ∨ p.toNat = 7 ∨ p.toNat = 8 := by omega
    rcases this with e | e | e | e | e | e | e | e
    · rw [e]; exact share1
    · rw [e]; exact share2
    · rw [e]; exact share3
    · rw [e]; exact share4
    · rw [e]; exact share5
    · rw [e]; exact share6
    · rw [e]; exact share7
    · rw [e]; exact share8
  unfold shareAt at hp
  have h := shareAt_at hp (q := q.toNat) (by omega)
  unfold shareOk at h
  rw [show ((q.toNat : Nat) : Int) = q by omega, show ((p.toNat : Nat) : Int) = p by omega] at h
  exact shareR_of h
theorem p_begins {v size : Int} (s0 : 1 ≤ size) : ∃ bg : List Int, bg ≠ [] ∧ bg.length ≤ 2 ∧ bg.Pairwise (· < ·) ∧ (∀ x ∈ bg, 0 ≤ x ∧ x < size) ∧ d__law_begins [.int v, .int size] = .ok (.tup (bg.map .int)) := by
  suffices h : Ok (d__law_begins [.int v, .int size]) fun d => ∃ bg : List Int, bg ≠ [] ∧ bg.length ≤ 2 ∧ bg.Pairwise (· < ·) ∧ (∀ x ∈ bg, 0 ≤ x ∧ x < size) ∧ d = .tup (bg.map .int) by
    obtain ⟨d, e, L, h1, h2, h3, h4, rfl⟩ := h
    exact ⟨L, h1, h2, h3, h4, e⟩
  unfold d__law_begins m__law_begins
  rw [ok_nox, k_run]
  simp? only []
  refine ⟨by omega, fun _ => ⟨[size - 1], by simp, by simp, by simp, by simp; omega, rfl⟩, fun _ => ?_⟩
  refine ⟨by omega, fun _ => ⟨fun h => ⟨[0, size - 1], by simp, by simp, by simp at h; simp; omega, by simp; omega, rfl⟩, fun _ => ⟨[0], by simp, by simp, by simp, by simp; omega, rfl⟩⟩, fun _ => ⟨[0], by simp, by simp, by simp, by simp; omega, rfl⟩⟩
structure DrS (size : Int) (L : List T3) (bg : List Int) : Prop where
  s1 : 1 ≤ size
  s2 : size ≤ 101
  st : StpB size L size
  ln : L.length ≤ 202
  b0 : bg ≠ []
  b2 : bg.length ≤ 2
  bS : bg.Pairwise (· < ·)
  bB : ∀ x ∈ bg, 0 ≤ x ∧ x < size
set_option Elab.async false
set_option linter.all false
set_option maxRecDepth 100000
open M PySem L2
theorem p_drawn (ns : List Int) (h63 : ns.length ≤ 63) : ∃ size L bg, DrS size L bg ∧ d__law_drawn [.scr ns] = .ok (.tup [.int size, .lst (L.map tD), .tup (bg.map .int)]) := by
  have hs := size_ge
  suffices h : Ok (d__law_drawn [.scr ns]) fun d => ∃ size L bg, DrS size L bg ∧ d = .tup [.int size, .lst (L.map tD), .tup (bg.map .int)] by
    obtain ⟨d, e, size, L, bg, h1, rfl⟩ := h
    exact ⟨size, L, bg, h1, e⟩
  obtain ⟨v0, v00, e0⟩ := p_num ns 0 h63 (by omega) (by omega)
  obtain ⟨v1, v10, e1⟩ := p_num ns 1 h63 (by omega) (by omega)
  obtain ⟨v2, v20, e2⟩ := p_num ns 2 h63 (by omega) (by omega)
  obtain ⟨v3, v30, e3⟩ := p_num ns 3 h63 (by omega) (by omega)
  obtain ⟨v4, v40, e4⟩ := p_num ns 4 h63 (by omega) (by omega)
  obtain ⟨v5, v50, e5⟩ := p_num ns 5 h63 (by omega) (by omega)
  obtain ⟨v6, v60, e6⟩ := p_num ns 6 h63 (by omega) (by omega)
  unfold d__law_drawn m__law_drawn
  rw [ok_nox, k_run]
  refine seq_cut (fun S => S = [(some (Sl.mk false (.scr ns))), (some (Sl.mk false (.int v0))), none, none, none, none, none, none, none, none, none]) (by simp? only [e0]) ?_
  rintro S rfl
  refine seq_cut (fun S => S = [(some (Sl.mk false (.scr ns))), (some (Sl.mk false (.int v0))), (some (Sl.mk false (.int (v0 % 8)))), none, none, none, none, none, none, none, none]) (by simp? only []; omega) ?_
  rintro S rfl
  refine seq_cut (fun S => ∃ w r : Int, 0 ≤ r ∧ S = [(some (Sl.mk false (.scr ns))), (some (Sl.mk false (.int v0))), (some (Sl.mk false (.int w))), (some (Sl.mk false (.int r))), none, none, none, none, none, none, none]) (by simp? only []; exact ⟨div_c (by omega) (by omega), _, _, Int.ediv_nonneg v00 (by omega), rfl⟩) ?_
  rintro S ⟨w, r, r0, rfl⟩
  refine seq_cut (fun S => ∃ size : Int, (1 ≤ size ∧ size ≤ 6) ∧ S = [(some (Sl.mk false (.scr ns))), (some (Sl.mk false (.int v0))), (some (Sl.mk false (.int w))), (some (Sl.mk false (.int r))), (some (Sl.mk false (.int size))), none, none, none, none, none, none]) ?_ ?_
  · simp? only []
    refine ⟨by omega, ?_⟩
    have q : r % 7 = 0 ∨ r % 7 = 1 ∨ r % 7 = 2 ∨ r % 7 = 3 ∨ r % 7 = 4 ∨ r % 7 = 5 ∨ r % 7 = 6 := by omega
    rcases q with q | q | q | q | q | q | q <;> rw [q] <;> exact ⟨_, rfl, _, ⟨by decide, by decide⟩, rfl⟩
  rintro S ⟨size, hsz, rfl⟩
  refine seq_cut (fun S => ∃ (size : Int) (L : List T3) (a b c : Option Sl), (1 ≤ size ∧ size ≤ 100) ∧ StpB size L size ∧ L.length ≤ 200 ∧ S = [(some (Sl.mk false (.scr ns))), (some (Sl.mk false (.int v0))), (some (Sl.mk false (.int w))), (some (Sl.mk false (.int r))), (some (Sl.mk false (.int size))), a, (some (Sl.mk false (.lst (L.map tD)))), b, c, none, none]) ?_ ?_
  · simp? only [e2, e3, e4, e5, e6]
    have rm := fun (m : Int) (h : 0 < m) => mod_b r h
    refine ⟨fun _ => ?_, fun _ => ⟨fun _ => ?_, fun _ => ⟨fun _ => ?_, fun _ => ?_⟩⟩⟩
    · have m8 := rm 8 (by omega)
      have mq := mod_b (r / 8) (m := 1 + r % 8 + 1) (by omega)
      obtain ⟨n, L, B, n1, n2, n3, e⟩ := p_lshare (q := r / 8 % (1 + r % 8 + 1)) (p := 1 + r % 8) (by omega) (by omega) (by omega) (by omega)
      refine ⟨by omega, div_c (by omega) (by omega), by omega, ?_⟩
      rw [e]
      simp? only []
      exact ⟨n, L, _, _, _, ⟨by omega, by omega⟩, B, by omega, rfl⟩
    · have m5 := rm 5 (by omega)
      obtain ⟨L, B, hl, e⟩ := p_ring (size := 2 + r % 5) v20 (by omega) (by omega)
      have q4 := mod_b v4 (m := 2 + r % 5) (by omega)
      have q5 := mod_b v5 (m := 2) (by omega)
      have q6 := mod_b v6 (m := 2 + r % 5) (by omega)
      refine ⟨by omega, ?_⟩
      rw [e]
      simp? only []
      refine ⟨by omega, by omega, by omega, by omega, fun _ => ?_, fun _ => ⟨_, L, _, _, _, ⟨by omega, by omega⟩, B, by omega, rfl⟩⟩
      have et : D.tup [.int (v4 % (2 + r % 5)), .int (v5 % 2), .int (v6 % (2 + r % 5))] = tD (v4 % (2 + r % 5), v5 % 2, v6 % (2 + r % 5)) := rfl
      rw [et, k_ninT]
      simp? only []
      refine ⟨fun g => ?_, fun _ => ⟨_, L, _, _, _, ⟨by omega, by omega⟩, B, by omega, rfl⟩⟩
      have g' : (v4 % (2 + r % 5), v5 % 2, v6 % (2 + r % 5)) ∉ L := by simpa using g
      refine ⟨by omega, 2 + r % 5, L ++ [(v4 % (2 + r % 5), v5 % 2, v6 % (2 + r % 5))], _, _, _, ⟨by omega, by omega⟩, ?_, by rw [List.length_append]; simp; omega, by rw [List.map_append]; rfl⟩
      refine ⟨List.nodup_append.mpr ⟨B.nd, by simp, fun a ha b hb => by rw [List.mem_singleton] at hb; subst hb; exact fun z => g' (z ▸ ha)⟩, fun x hx => ?_, fun s a b => ?_⟩
      · rcases List.mem_append.mp hx with hx | hx
        · exact B.bd x hx
        · rw [List.mem_singleton.mp hx]; exact ⟨q4, by dsimp only; omega, q6⟩
      · obtain ⟨x, hx, z⟩ := B.ev s a b
        exact ⟨x, List.mem_append_left _ hx, z⟩
    · have m33 := rm 33 (by omega)
      have m60 := mod_b (r / 528) (m := 60) (by omega)
      refine ⟨by omega, div_c (by omega) (by omega), by omega, fun _ => ⟨div_c (by omega) (by omega), by omega, ?_⟩, fun _ => ?_⟩
      · obtain ⟨L, B, hl, e⟩ := p_ring (size := 41 + r / 528 % 60) v20 (by omega) (by omega)
        rw [e]
        simp? only []
        exact ⟨_, L, _, _, _, ⟨by omega, by omega⟩, B, by omega, rfl⟩
      · obtain ⟨L, B, hl, e⟩ := p_ring (size := 8 + r % 33) v20 (by omega) (by omega)
        rw [e]
        simp? only []
        exact ⟨_, L, _, _, _, ⟨by omega, by omega⟩, B, by omega, rfl⟩
    · refine ⟨div_c (by omega) (by omega), by omega, ?_⟩
      have q : r / 7 % 4 = 0 ∨ r / 7 % 4 = 1 ∨ r / 7 % 4 = 2 ∨ r / 7 % 4 = 3 := by omega
      have mach : ∀ t : Int, 1 ≤ t → t ≤ 3 → ∃ L, StpB size L size ∧ L.length ≤ 18 ∧ d__law_machine [.scr ns, .int 7, .int size, .int t, .bl (decide (r / 28 % 4 = 1))] = .ok (.lst (L.map tD)) := fun t a b => p_machine ns 7 size t _ h63 (by omega) (by omega) hsz.1 hsz.2 a b
      obtain ⟨t, ta, t1, t3⟩ : ∃ t : Int, L2.atI [D.int 2, D.int 1, D.int 3, D.int 2] (r / 7 % 4) = some (.int t) ∧ 1 ≤ t ∧ t ≤ 3 := by
        rcases q with q | q | q | q <;> rw [q] <;> exact ⟨_, rfl, by decide, by decide⟩
      obtain ⟨L, B, hl, e⟩ := mach t t1 t3
      refine ⟨_, ta, div_c (by omega) (by omega), by omega, ?_⟩
      rw [e]
      simp? only []
      exact ⟨_, L, _, _, _, ⟨by omega, by omega⟩, B, by omega, rfl⟩
  rintro S ⟨size, L, a, b, c, hsz, B, hl, rfl⟩
  obtain ⟨bg, b1, b2, b3, b4, eb⟩ := p_begins (v := v1) hsz.1
  simp? only [e1, eb]
  refine ⟨div_c (by omega) (by omega), by omega, fun h => ⟨by omega, size + 1, L ++ [(size, v1 / 4 % 4, size), (size, 1 - v1 / 4 % 4, 0)], bg, ⟨by omega, by omega, ?_, by rw [List.length_append]; simp; omega, b1, b2, b3, fun x hx => by have := b4 x hx; omega⟩, by rw [List.map_append]; rfl⟩, fun _ => ⟨size, L, bg, ⟨by omega, by omega, B, by omega, b1, b2, b3, b4⟩, rfl⟩⟩
  have h := of_decide_eq_true h
  have m4 := mod_b (v1 / 4) (m := 4) (by omega)
  have B' : StpB (size + 1) L size := ⟨B.nd, fun e he => by have := B.bd e he; omega, B.ev⟩
  refine B'.join (by omega) (fun e he => ?_) ?_ (by simp)
  · simp only [List.mem_cons, List.not_mem_nil, or_false] at he
    rcases he with rfl | rfl <;> refine ⟨rfl, ?_, ?_⟩ <;> dsimp only <;> omega
  · simp; omega
set_option Elab.async false
set_option linter.all false
set_option maxRecDepth 100000
open M PySem L2
def nxt (steps : List T3) (s b : Int) : List Int := (steps.filter fun e => decide (e.1 = s ∧ e.2.1 = b)).map (·.2.2)
def getTu (o : Option D) : List D := match o with | some (.tup xs) => xs | _ => []
def mvStep (z : List (List Key) × List D) (e : T3) : List (List Key) × List D :=
  putL z.1 z.2 [.inl e.1, .inl e.2.1] (.tup (getTu (getL z.1 z.2 [.inl e.1, .inl e.2.1]) ++ [.int e.2.2]))
def mvs (steps : List T3) : List (List Key) × List D := steps.foldl mvStep ([], [])
def mvD (steps : List T3) : D := .dit (mvs steps).1 (mvs steps).2
def supO (size : Int) (steps : List T3) (starts : List Int) : D := .obj 3 [.int size, .tup (steps.map tD), .tup (starts.map .int), mvD steps]
theorem su_0 {size : Int} {steps : List T3} {starts : List Int} : fldD 3 0 (supO size steps starts) = .ok (.int size) := rfl
theorem su_1 {size : Int} {steps : List T3} {starts : List Int} : fldD 3 1 (supO size steps starts) = .ok (.tup (steps.map tD)) := rfl
theorem su_2 {size : Int} {steps : List T3} {starts : List Int} : fldD 3 2 (supO size steps starts) = .ok (.tup (starts.map .int)) := rfl
theorem su_3 {size : Int} {steps : List T3} {starts : List Int} : fldD 3 3 (supO size steps starts) = .ok (mvD steps) := rfl
theorem su_o {size : Int} {steps : List T3} {starts : List Int} : (supO size steps starts).isObj 3 = true := rfl
theorem mvs_snoc (xs : List T3) (e : T3) : mvs (xs ++ [e]) = mvStep (mvs xs) e := by unfold mvs; rw [List.foldl_append]; rfl
theorem nxt_snoc (xs : List T3) (e : T3) (s b : Int) : nxt (xs ++ [e]) s b = nxt xs s b ++ (if e.1 = s ∧ e.2.1 = b then [e.2.2] else []) := by
  unfold nxt
  rw [List.filter_append, List.map_append]
  by_cases h : e.1 = s ∧ e.2.1 = b <;> simp [h]
theorem getL_put {κ : Type} [DecidableEq κ] {q q' : κ} {d : D} : ∀ {ks : List κ} {ds : List D}, ks.length = ds.length → getL (putL ks ds q d).1 (putL ks ds q d).2 q' = if q = q' then some d else getL ks ds q'
  | [], [], _ => by
    show getL [q] [d] q' = _
    simp only [getL]
  | [], _ :: _, h => by simp at h
  | _ :: _, [], h => by simp at h
  | x :: ks, y :: ds, h => by
    have ih := getL_put (q := q) (q' := q') (d := d) (ks := ks) (ds := ds) (by simpa using h)
    unfold putL at ih ⊢
    rw [List.idxOf?_cons]
    by_cases hx : x = q
    · subst hx
      simp only [beq_self_eq_true, if_true]
      show getL (x :: ks) (d :: ds) q' = _
      simp only [getL]
      by_cases h2 : x = q' <;> simp [h2]
    · have hb : (x == q) = false := beq_eq_false_iff_ne.mpr hx
      rw [hb]
      simp only [Bool.false_eq_true, if_false]
      cases hi : ks.idxOf? q with
      | some i =>
        rw [hi] at ih
        simp only [Option.map_some]
        show getL (x :: ks) (y :: ds.set i d) q' = _
        simp only [getL]
        dsimp only at ih
        rw [ih]
        by_cases h2 : x = q'
        · subst h2; rw [if_pos rfl, if_neg (fun z => hx z.symm), if_pos rfl]
        · rw [if_neg h2, if_neg h2]
      | none =>
        rw [hi] at ih
        simp only [Option.map_none]
        show getL (x :: (ks ++ [q])) (y :: (ds ++ [d])) q' = _
        simp only [getL]
        dsimp only at ih
        rw [ih]
        by_cases h2 : x = q'
        · subst h2; rw [if_pos rfl, if_neg (fun z => hx z.symm), if_pos rfl]
        · rw [if_neg h2, if_neg h2]
theorem mvs_len : ∀ xs : List T3, (mvs xs).1.length = (mvs xs).2.length := rev_ind rfl fun xs e ih => by rw [mvs_snoc]; exact putL_len ih
theorem mvs_nd : ∀ xs : List T3, (mvs xs).1.Nodup := rev_ind List.nodup_nil fun xs e ih => by rw [mvs_snoc]; exact putL_nodup ih
theorem mvs_le : ∀ xs : List T3, (mvs xs).1.length ≤ xs.length := rev_ind (Nat.le_refl _) fun xs e ih => by
  rw [mvs_snoc]
  have := putL_le (ks := (mvs xs).1) (ds := (mvs xs).2) (q := [Sum.inl e.1, Sum.inl e.2.1]) (d := .tup (getTu (getL (mvs xs).1 (mvs xs).2 [.inl e.1, .inl e.2.1]) ++ [.int e.2.2]))
  rw [List.length_append]
  unfold mvStep
  simp only [List.length_cons, List.length_nil]
  omega
theorem get_mvs (s b : Int) : ∀ xs : List T3, getL (mvs xs).1 (mvs xs).2 [.inl s, .inl b] = if nxt xs s b = [] then none else some (.tup ((nxt xs s b).map .int)) :=
  rev_ind rfl fun xs e ih => by
    rw [mvs_snoc, nxt_snoc]
    unfold mvStep
    rw [getL_put (mvs_len xs)]
    by_cases h : e.1 = s ∧ e.2.1 = b
    · obtain ⟨rfl, rfl⟩ := h
      have hne : nxt xs e.1 e.2.1 ++ [e.2.2] ≠ [] := by simp
      rw [if_pos rfl, ih]
      simp only [and_self, if_true]
      rw [if_neg hne]
      by_cases h2 : nxt xs e.1 e.2.1 = []
      · rw [if_pos h2, h2]; rfl
      · rw [if_neg h2, List.map_append]; rfl
    · rw [if_neg, if_neg h, List.append_nil, ih]
      intro z
      apply h
      simpa using z
theorem getOr_mv {steps : List T3} {s b : Int} : getOr (mvD steps) (.tup [.int s, .int b]) (.tup []) = .ok (.tup ((nxt steps s b).map .int)) := by
  unfold getOr mvD dlook
  simp only [keyT_2, Option.map_some]
  rw [get_mvs]
  by_cases h : nxt steps s b = []
  · rw [if_pos h, h]; rfl
  · rw [if_neg h]
theorem mv_isD {steps : List T3} : isDct (mvD steps) = true := rfl
theorem p_moves {steps : List T3} (hl : steps.length ≤ 5000) : d_moves_of [.tup (steps.map tD)] = .ok (mvD steps) := by
  have hs := size_ge
  refine Ok.eq ?_
  unfold d_moves_of m_moves_of
  rw [ok_nox]
  refine k_runT ?_
  simp? only []
  refine for_typed tD (fun done S => ∃ a b c, S = [(some (Sl.mk false (.tup (steps.map tD)))), (some (Sl.mk true (mvD done))), a, b, c]) steps _ ⟨none, none, none, rfl⟩ ?_ ?_
  · rintro done x rest S e ⟨a, b, c, rfl⟩
    have hd : done.length < steps.length := by rw [e, List.length_append, List.length_cons]; omega
    simp? only [k_gT3, mv_isD, getOr_mv]
    have hn : (nxt done x.1 x.2.1).length ≤ done.length := by unfold nxt; rw [List.length_map]; exact List.length_filter_le ..
    refine ⟨by omega, ?_⟩
    unfold mvD
    simp? only []
    refine ⟨⟨mvs_nd done, Nat.lt_of_le_of_lt (mvs_le done) (by omega)⟩, (some (Sl.mk false (.int x.1))), (some (Sl.mk false (.int x.2.1))), (some (Sl.mk false (.int x.2.2))), ?_⟩
    rw [mvs_snoc]
    unfold mvStep
    rw [get_mvs]
    by_cases h2 : nxt done x.1 x.2.1 = []
    · rw [if_pos h2, h2]; rfl
    · rw [if_neg h2]; rfl
  · rintro S ⟨a, b, c, rfl⟩
    simp? only []
    exact ⟨_, rfl, rfl⟩
theorem nxt_mem {steps : List T3} {s b x : Int} : x ∈ nxt steps s b ↔ (s, b, x) ∈ steps := by
  unfold nxt
  simp only [List.mem_map, List.mem_filter, decide_eq_true_eq]
  constructor
  · rintro ⟨e, ⟨he, rfl, rfl⟩, rfl⟩; exact he
  · intro h; exact ⟨_, ⟨h, rfl, rfl⟩, rfl⟩
structure SupB (size : Int) (steps : List T3) (starts : List Int) : Prop where
  s1 : 1 ≤ size
  s2 : size ≤ 110
  st0 : starts ≠ []
  stS : starts.Pairwise (· < ·)
  stB : ∀ s ∈ starts, 0 ≤ s ∧ s < size
  tS : steps.Pairwise tlt
  tB : ∀ e ∈ steps, (0 ≤ e.1 ∧ e.1 < size) ∧ (e.2.1 = 0 ∨ e.2.1 = 1) ∧ (0 ≤ e.2.2 ∧ e.2.2 < size)
  tL : steps.length ≤ 300
  tA : ∀ s, 0 ≤ s → s < size → ∃ e ∈ steps, e.1 = s
structure SupV (size : Int) (steps : List T3) (starts : List Int) : Prop where
  s1 : 1 ≤ size
  s2 : size ≤ 40
  st0 : starts ≠ []
  stS : starts.Pairwise (· < ·)
  stB : ∀ s ∈ starts, 0 ≤ s ∧ s < size
  tS : steps.Pairwise tlt
  tB : ∀ e ∈ steps, (0 ≤ e.1 ∧ e.1 < size) ∧ (e.2.1 = 0 ∨ e.2.1 = 1) ∧ (0 ≤ e.2.2 ∧ e.2.2 < size)
  tL : steps.length < 60
  tA : ∀ s, 0 ≤ s → s < size → ∃ e ∈ steps, e.1 = s
theorem SupV.big {size : Int} {steps : List T3} {starts : List Int} (V : SupV size steps starts) : SupB size steps starts := by
  obtain ⟨a, b, c, d, e, f, g, h, i⟩ := V
  exact ⟨a, by omega, c, d, e, f, g, by omega, i⟩
theorem nin01 {b : Int} (h : b = 0 ∨ b = 1) : notInD (.int b) (.tup [.int 0, .int 1]) = .ok (.bl false) := by rcases h with rfl | rfl <;> rfl
theorem strict_le {l : List Int} {n : Int} (h : l.Pairwise (· < ·)) (hb : ∀ s ∈ l, 0 ≤ s ∧ s < n) : (l.length : Int) ≤ max n 0 := by
  have : l.length ≤ ((List.range n.toNat).map fun (i : Nat) => (i : Int)).length := nd_len_le (strict_nd h) fun x hx => by
    have := hb x hx
    refine List.mem_map.mpr ⟨x.toNat, List.mem_range.mpr (by omega), by omega⟩
  rw [List.length_map, List.length_range] at this
  omega
theorem keys_int : ∀ l : List Int, keysD (l.map .int) = some (l.map .inl)
  | [] => rfl
  | x :: l => by rw [List.map_cons, keysD, keys_int l]; rfl
theorem p_checkB {size : Int} {steps : List T3} {starts : List Int} (V : SupB size steps starts) : d_check_supply [.int size, .tup (steps.map tD), .tup (starts.map .int)] = .ok .non := by
  have hs := size_ge
  obtain ⟨s1, s2, st0, stS, stB, tS, tB, tL, tA⟩ := V
  have hne : steps ≠ [] := by
    obtain ⟨e, he, _⟩ := tA 0 (by omega) (by omega)
    exact List.ne_nil_of_mem he
  have hl := strict_le stS stB
  have c1 : decide (1 ≤ size) = true := decide_eq_true s1
  have c2 : decide (size ≤ 5000) = true := decide_eq_true (by omega)
  have e1 := lenSet_i (strict_nd stS) (by omega)
  have e2 := lenSet_T (tstrict_nd tS) tL hne
  have c3 : decide ((starts.length : Int) < starts.length) = false := decide_eq_false (by omega)
  have c4 : decide ((steps.length : Int) < steps.length) = false := decide_eq_false (by omega)
  obtain ⟨x0, h0⟩ := atI_lt (xs := starts) (i := 0) (by omega) (by have := List.length_pos_iff.mpr st0; omega)
  obtain ⟨x1, h1, m1⟩ := atI_last st0
  have b0 := stB x0 (atI_mem h0)
  have b1 := stB x1 m1
  have c5 : decide (x0 < 0) = false := decide_eq_false (by omega)
  have c6 : decide (size ≤ x1) = false := decide_eq_false (by omega)
  have he : ((starts.map D.int).isEmpty) = false := by cases starts with | nil => exact absurd rfl st0 | cons a b => rfl
  have a0 : L2.atI (starts.map D.int) 0 = some (.int x0) := by rw [atI_map, h0]; rfl
  have a1 : L2.atI (starts.map D.int) (-1) = some (.int x1) := by rw [atI_map, h1]; rfl
  refine Ok.eq ?_
  unfold d_check_supply m_check_supply
  rw [k_run]
  simp? only [gv_MOST_STATES, c1, c2, e1, e2, c3, c4, he, a0, a1, c5, c6]
  refine for_typed tD (fun _ S => ∃ a b c, S = [(some (Sl.mk false (.int size))), (some (Sl.mk false (.tup (steps.map tD)))), (some (Sl.mk false (.tup (starts.map .int)))), a, b, c]) steps _ ⟨none, none, none, rfl⟩ ?_ ?_
  · rintro done x rest S e ⟨a, b, c, rfl⟩
    obtain ⟨⟨u0, u1⟩, hb, v0, v1⟩ := tB x (by rw [e]; simp)
    have d1 : decide (0 ≤ x.1) = true := decide_eq_true u0
    have d2 : decide (x.1 < size) = true := decide_eq_true u1
    have d3 : decide (0 ≤ x.2.2) = true := decide_eq_true v0
    have d4 : decide (x.2.2 < size) = true := decide_eq_true v1
    simp? only [k_gT3, d1, d2, d3, d4, nin01 hb]
    exact ⟨_, _, _, rfl⟩
  · rintro S ⟨a, b, c, rfl⟩
    have hn : size.toNat ≤ (nubG (steps.map fun e => (Sum.inl e.1 : Key))).length := by
      have nd : ((List.range size.toNat).map fun (i : Nat) => (Sum.inl (i : Int) : Key)).Nodup := nd_map _ List.nodup_range fun a _ b _ h => by
        injection h with h; omega
      have := nd_len_le nd (b := nubG (steps.map fun e => (Sum.inl e.1 : Key))) fun x hx => by
        obtain ⟨i, hi, rfl⟩ := List.mem_map.mp hx
        have hi := List.mem_range.mp hi
        obtain ⟨e, he, h⟩ := tA i (by omega) (by omega)
        exact (nubG_mem _ _).mpr (List.mem_map.mpr ⟨e, he, by rw [h]⟩)
      simpa using this
    have c7 : decide (((nubG (steps.map fun e => (Sum.inl e.1 : Key))).length : Int) < size) = false := decide_eq_false (by omega)
    have L : lenScK (fun S => (eV 1) S >>= itemsD) (gT 3 (gsC (gN 3) (gsC (gN 4) (gsC (gN 5) gsN)))) tY (eV 3) [3, 4, 5] [(some (Sl.mk false (.int size))), (some (Sl.mk false (.tup (steps.map tD)))), (some (Sl.mk false (.tup (starts.map .int)))), a, b, c] = .ok (.int (nubG (steps.map fun e => (Sum.inl e.1 : Key))).length) := by
      have z1 := lc_typed (ga := gT 3 (gsC (gN 3) (gsC (gN 4) (gsC (gN 5) gsN)))) (t := tY) (fe := eV 3) (S := wipeS [(some (Sl.mk false (.int size))), (some (Sl.mk false (.tup (steps.map tD)))), (some (Sl.mk false (.tup (starts.map .int)))), a, b, c] [3, 4, 5]) tD (fun _ => true) (fun e => .int e.1) steps (fun x hx => by simp? only [k_gT3])
      rw [filter_true fun _ _ => rfl] at z1
      unfold lenScK
      show (if (steps.map tD).length < 900 then _ else _) = _
      rw [if_pos (by rw [List.length_map]; omega), z1, R.ok_bind]
      have : (steps.map fun e => D.int e.1) = (steps.map (·.1)).map .int := by rw [List.map_map]; rfl
      rw [this, keys_int, List.map_map]
      rfl
    simp? only [L, c7]
theorem p_SupplyB {size : Int} {raw : List T3} {begun : List Int} {t1 t2 : Bool} (V : SupB size (raw.mergeSort tle) (begun.mergeSort ile)) : d_Supply [.int size, seqD t1 (raw.map tD), seqD t2 (begun.map .int)] = .ok (supO size (raw.mergeSort tle) (begun.mergeSort ile)) := by
  have hs := size_ge
  have hl := V.tL
  rw [List.length_mergeSort] at hl
  refine Ok.eq ?_
  unfold d_Supply m_Supply
  rw [k_runN]
  have pc := p_checkB V
  have pm := p_moves (steps := raw.mergeSort tle) (by rw [List.length_mergeSort]; omega)
  simp? only []
  refine k_lcM tD tD raw ?_ (by omega) ?_ ?_
  · simp? only []
  · intro x hx
    simp? only [k_tupD]
  · simp? only [k_srtT, pc, pm]
    rfl
set_option Elab.async false
set_option linter.all false
set_option maxRecDepth 100000
open M PySem L2
theorem ms_id {l : List Int} (h : l.Pairwise (· < ·)) : l.mergeSort ile = l := by rw [← srtN_nd (strict_nd h), srtN_id h]
theorem DrS.sup {size : Int} {L : List T3} {bg : List Int} (V : DrS size L bg) : SupB size (L.mergeSort tle) bg where
  s1 := V.s1
  s2 := by have := V.s2; omega
  st0 := V.b0
  stS := V.bS
  stB := V.bB
  tS := tst_strict V.st.nd
  tB := fun e he => V.st.bd e ((List.mergeSort_perm L tle).mem_iff.mp he)
  tL := by have := V.ln; rw [List.length_mergeSort]; omega
  tA := fun s a b => by
    obtain ⟨e, he, h⟩ := V.st.ev s a b
    exact ⟨e, (List.mergeSort_perm L tle).mem_iff.mpr he, h⟩
theorem p_made {size : Int} {L : List T3} {bg : List Int} {t1 t2 : Bool} (V : DrS size L bg) : d_Supply [.int size, seqD t1 (L.map tD), seqD t2 (bg.map .int)] = .ok (supO size (L.mergeSort tle) bg) := by
  have e := ms_id V.bS
  have := p_SupplyB (size := size) (raw := L) (begun := bg) (t1 := t1) (t2 := t2) (by rw [e]; exact V.sup)
  rw [this, e]
def trn (e : T3) : T3 := (e.1, 1 - e.2.1, e.2.2)
theorem trn_trn (e : T3) : trn (trn e) = e := by
  obtain ⟨a, b, c⟩ := e
  unfold trn
  dsimp only
  rw [show 1 - (1 - b) = b by omega]
theorem DrS.turn {size : Int} {L : List T3} {bg : List Int} (V : DrS size L bg) : DrS size (L.map trn) bg where
  s1 := V.s1
  s2 := V.s2
  st := by
    refine ⟨nd_map _ V.st.nd fun a _ b _ h => ?_, fun e he => ?_, fun s a b => ?_⟩
    · have := congrArg trn h
      rwa [trn_trn, trn_trn] at this
    · obtain ⟨x, hx, rfl⟩ := List.mem_map.mp he
      have := V.st.bd x hx
      unfold trn
      dsimp only
      omega
    · obtain ⟨e, he, h⟩ := V.st.ev s a b
      exact ⟨trn e, List.mem_map_of_mem he, h⟩
  ln := by rw [List.length_map]; exact V.ln
  b0 := V.b0
  b2 := V.b2
  bS := V.bS
  bB := V.bB
set_option Elab.async false
set_option linter.all false
set_option maxRecDepth 100000
open M PySem L2
structure Lst (steps : List T3) (starts found : List Int) : Prop where
  st : ∀ s ∈ starts, s ∈ found
  cl : ∀ e ∈ steps, e.1 ∈ found → e.2.2 ∈ found
  mn : ∀ P : Int → Prop, (∀ s ∈ starts, P s) → (∀ e ∈ steps, P e.1 → P e.2.2) → ∀ x ∈ found, P x
theorem Lst.uniq {steps steps' : List T3} {starts starts' a b : List Int} (h1 : Lst steps starts a) (h2 : Lst steps' starts' b) (hs : ∀ e, e ∈ steps ↔ e ∈ steps') (ht : ∀ x, x ∈ starts ↔ x ∈ starts') : ∀ x, x ∈ a ↔ x ∈ b := fun x =>
  ⟨h1.mn (· ∈ b) (fun s hs' => h2.st s ((ht s).mp hs')) (fun e he => h2.cl e ((hs e).mp he)) x, h2.mn (· ∈ a) (fun s hs' => h1.st s ((ht s).mpr hs')) (fun e he => h1.cl e ((hs e).mpr he)) x⟩
def addAll (L xs : List Int) : List Int := xs.foldl nubI1 L
theorem addAll_mem {x : Int} : ∀ {xs L : List Int}, x ∈ addAll L xs ↔ x ∈ L ∨ x ∈ xs
  | [], L => by simp [addAll]
  | y :: xs, L => by
    show x ∈ addAll (nubI1 L y) xs ↔ _
    rw [addAll_mem]
    unfold nubI1
    by_cases h : y ∈ L
    · rw [if_pos h, List.mem_cons]
      constructor
      · rintro (h' | h')
        · exact .inl h'
        · exact .inr (.inr h')
      · rintro (h' | rfl | h')
        · exact .inl h'
        · exact .inl h
        · exact .inr h'
    · rw [if_neg h]; simp [or_assoc]
theorem addAll_nd : ∀ {xs L : List Int}, L.Nodup → (addAll L xs).Nodup
  | [], L, h => h
  | y :: xs, L, h => by
    show (addAll (nubI1 L y) xs).Nodup
    refine addAll_nd ?_
    unfold nubI1
    by_cases hy : y ∈ L
    · rwa [if_pos hy]
    · rw [if_neg hy, List.nodup_append]
      exact ⟨h, by simp, fun a ha b hb => by rw [List.mem_singleton] at hb; subst hb; exact fun z => hy (z ▸ ha)⟩
theorem addAll_pre : ∀ {xs L : List Int}, L <+: addAll L xs
  | [], L => List.prefix_rfl
  | y :: xs, L => by
    refine List.IsPrefix.trans ?_ (addAll_pre (xs := xs) (L := nubI1 L y))
    unfold nubI1
    by_cases hy : y ∈ L
    · rw [if_pos hy]; exact List.prefix_rfl
    · rw [if_neg hy]; exact List.prefix_append ..
theorem putL_new {κ : Type} [DecidableEq κ] {ks : List κ} {ds : List D} {q : κ} {d : D} (h : q ∉ ks) : putL ks ds q d = (ks ++ [q], ds ++ [d]) := by
  unfold putL
  rw [List.idxOf?_eq_none_iff.mpr h]
def seenD (L : List Int) : D := .dic (L.map .inl) (L.map fun _ => .bl true)
theorem inl_mem {x : Int} {L : List Int} : (Sum.inl x : Key) ∈ L.map .inl ↔ x ∈ L := by
  rw [List.mem_map]
  exact ⟨fun ⟨y, h, e⟩ => by injection e with e; exact e ▸ h, fun h => ⟨x, h, rfl⟩⟩
theorem getL_seen {x : Int} : ∀ L : List Int, getL (L.map (Sum.inl : Int → Key)) (L.map fun _ => D.bl true) (.inl x) = if x ∈ L then some (.bl true) else none
  | [] => rfl
  | y :: L => by
    rw [List.map_cons, List.map_cons, getL, getL_seen L]
    by_cases h : y = x
    · subst h; simp
    · rw [if_neg (fun z => h (by injection z))]
      by_cases h2 : x ∈ L
      · rw [if_pos h2, if_pos (List.mem_cons_of_mem _ h2)]
      · rw [if_neg h2, if_neg (by simp only [List.mem_cons, not_or]; exact ⟨fun z => h z.symm, h2⟩)]
theorem notin_seen {x : Int} {L : List Int} : notInA (.int x) (seenD L) = .ok (.bl (!decide (x ∈ L))) := by
  unfold notInA seenD dlook
  simp only [keyD, Option.map_some, getL_seen]
  by_cases h : x ∈ L <;> simp [h]
theorem put_seen {x : Int} {L : List Int} (hn : L.Nodup) (h : x ∉ L) (hl : L.length < sizeLine) {i : Nat} {S : M.Env} : putA i S (seenD L) (.bl true) (.int x) = .ok (.nx, S.set i (some ⟨true, seenD (L ++ [x])⟩)) := by
  unfold seenD putA
  simp only [keyD]
  rw [if_pos, putL_new (fun z => h (inl_mem.mp z)), List.map_append, List.map_append]; rfl
  exact ⟨nd_map _ hn fun a _ b _ e => by injection e, by rwa [List.length_map]⟩
structure Bfs (size : Int) (steps : List T3) (starts : List Int) (L : List Int) (k : Nat) : Prop where
  nd : L.Nodup
  bd : ∀ x ∈ L, 0 ≤ x ∧ x < size
  st : ∀ s ∈ starts, s ∈ L
  mn : ∀ P : Int → Prop, (∀ s ∈ starts, P s) → (∀ e ∈ steps, P e.1 → P e.2.2) → ∀ x ∈ L, P x
  kl : k ≤ L.length
  pr : ∀ (i : Nat), i < k → ∀ e ∈ steps, L[i]? = some e.1 → e.2.2 ∈ L
theorem nd_bound {L : List Int} {size : Int} (h : L.Nodup) (hb : ∀ x ∈ L, 0 ≤ x ∧ x < size) : L.length ≤ size.toNat := by
  have := nd_len_le h (b := (List.range size.toNat).map fun (i : Nat) => (i : Int)) fun x hx => by
    have := hb x hx
    exact List.mem_map.mpr ⟨x.toNat, List.mem_range.mpr (by omega), by omega⟩
  simpa using this
theorem Bfs.step {size : Int} {steps : List T3} {starts L : List Int} {k : Nat} {s : Int} (B : Bfs size steps starts L k) (V : SupB size steps starts) (hs : L[k]? = some s) : Bfs size steps starts (addAll (addAll L (nxt steps s 0)) (nxt steps s 1)) (k + 1) := by
  have mem : ∀ x, x ∈ addAll (addAll L (nxt steps s 0)) (nxt steps s 1) ↔ x ∈ L ∨ (s, 0, x) ∈ steps ∨ (s, 1, x) ∈ steps := fun x => by
    rw [addAll_mem, addAll_mem, nxt_mem, nxt_mem, or_assoc]
  have pre : L <+: addAll (addAll L (nxt steps s 0)) (nxt steps s 1) := addAll_pre.trans addAll_pre
  have hk : k < L.length := (List.getElem?_eq_some_iff.mp hs).1
  refine ⟨addAll_nd (addAll_nd B.nd), fun x hx => ?_, fun x hx => (mem x).mpr (.inl (B.st x hx)), fun P h1 h2 x hx => ?_, ?_, fun i hi e he h => ?_⟩
  · rcases (mem x).mp hx with h | h | h
    · exact B.bd x h
    · exact (V.tB _ h).2.2
    · exact (V.tB _ h).2.2
  · have ps := B.mn P h1 h2 s (List.mem_of_getElem? hs)
    rcases (mem x).mp hx with h | h | h
    · exact B.mn P h1 h2 x h
    · exact h2 _ h ps
    · exact h2 _ h ps
  · have := pre.length_le; omega
  · have hL : L[i]? = some e.1 := by
      obtain ⟨t, ht⟩ := pre
      rw [← ht, List.getElem?_append_left (by omega)] at h
      exact h
    rw [mem]
    by_cases hik : i = k
    · subst hik
      rw [hs] at hL; injection hL with hL
      right
      obtain ⟨e1, e2, e3⟩ := e
      dsimp only at *
      subst hL
      rcases (V.tB _ he).2.1 with h | h <;> dsimp only at h <;> subst h
      · exact .inl he
      · exact .inr he
    · exact .inl (B.pr i (by omega) e he hL)
theorem Bfs.fin {size : Int} {steps : List T3} {starts L : List Int} {k : Nat} (B : Bfs size steps starts L k) (hk : k = L.length) : Lst steps starts L :=
  ⟨B.st, fun e he h => by
    obtain ⟨i, hi⟩ := List.mem_iff_getElem?.mp h
    exact B.pr i (by have := (List.getElem?_eq_some_iff.mp hi).1; omega) e he hi, B.mn⟩
theorem p_reachedB {size : Int} {steps : List T3} {starts : List Int} (V : SupB size steps starts) : ∃ L, L.Nodup ∧ (∀ x ∈ L, 0 ≤ x ∧ x < size) ∧ Lst steps starts L ∧ d_Supply_reached [supO size steps starts] = .ok (.tup ((srtN L).map .int)) := by
  have hs := size_ge
  have hsz := V.s2
  suffices h : Ok (d_Supply_reached [supO size steps starts]) fun d => ∃ L, L.Nodup ∧ (∀ x ∈ L, 0 ≤ x ∧ x < size) ∧ Lst steps starts L ∧ d = .tup ((srtN L).map .int) by
    obtain ⟨d, e, L, h1, h2, h3, rfl⟩ := h
    exact ⟨L, h1, h2, h3, e⟩
  have hst := strict_nd V.stS
  have hsl := nd_bound hst V.stB
  unfold d_Supply_reached m_Supply_reached
  rw [ok_nox, k_run]
  simp? only [su_2]
  refine for_typed D.int (fun done S => ∃ a b c d, S = [(some (Sl.mk false (supO size steps starts))), (some (Sl.mk true (.lst (starts.map .int)))), (some (Sl.mk true (seenD done))), a, b, c, d]) starts _ ⟨none, none, none, none, rfl⟩ ?_ ?_
  · rintro done x rest S e ⟨a, b, c, d, rfl⟩
    have hn : x ∉ done ∧ done.Nodup ∧ done.length < starts.length := by
      rw [e] at hst
      have := List.nodup_append.mp hst
      refine ⟨fun z => (this.2.2 x z x (by simp)) rfl, this.1, by rw [e, List.length_append, List.length_cons]; omega⟩
    simp? only [put_seen hn.2.1 hn.1 (by omega)]
    exact ⟨_, _, _, _, rfl⟩
  rintro S ⟨a, b, c, d, rfl⟩
  simp? only []
  refine while_inv (fun m S => ∃ (L : List Int) (k : Nat) (c d : Option Sl), Bfs size steps starts L k ∧ m + k = size.toNat ∧ S = [(some (Sl.mk false (supO size steps starts))), (some (Sl.mk true (.lst (L.map .int)))), (some (Sl.mk true (seenD L))), a, (some (Sl.mk false (.int k))), c, d]) size.toNat _ _ (by omega) ⟨starts, 0, c, d, ⟨hst, V.stB, fun s h => h, fun P h1 h2 => h1, Nat.zero_le _, fun i hi => absurd hi (Nat.not_lt_zero _)⟩, by omega, rfl⟩ ?_
  rintro m S ⟨L, k, c, d, B, hm, rfl⟩
  have hLl := nd_bound B.nd B.bd
  simp? only []
  refine ⟨fun h => ?_, fun h => ?_⟩
  · have hk : k < L.length := by have := of_decide_eq_true h; omega
    obtain ⟨s, hsk⟩ : ∃ s, L[k]? = some s := ⟨L[k], List.getElem?_eq_getElem hk⟩
    have aI : ∀ L1 : List Int, L <+: L1 → L2.atI (L1.map D.int) (k : Int) = some (.int s) := by
      rintro L1 ⟨t, rfl⟩
      rw [atI_map]
      unfold L2.atI ixN
      rw [if_pos (by omega), if_pos (by rw [List.length_append]; omega)]
      show ((L ++ t)[(k : Int).toNat]?).map _ = _
      rw [Int.toNat_natCast, List.getElem?_append_left hk, hsk]; rfl
    have inner : ∀ (b : Int) (L1 : List Int) (o6 : Option Sl) (Q : Fl × M.Env → Prop), L1.Nodup → (∀ x ∈ L1, 0 ≤ x ∧ x < size) → (∀ x ∈ nxt steps s b, 0 ≤ x ∧ x < size) → (∀ o6, Q (.nx, [(some (Sl.mk false (supO size steps starts))), (some (Sl.mk true (.lst ((addAll L1 (nxt steps s b)).map .int)))), (some (Sl.mk true (seenD (addAll L1 (nxt steps s b))))), a, (some (Sl.mk false (.int k))), (some (Sl.mk false (.int b))), o6])) →
        Ok (forF (gN 6) (sIf (tB' (e2 notInA (eW 6) (eW 2))) (sSeq (sPutA 2 (eW 6) (eB true)) (sApp 1 (eV 6))) sNil) ((nxt steps s b).map .int) [(some (Sl.mk false (supO size steps starts))), (some (Sl.mk true (.lst (L1.map .int)))), (some (Sl.mk true (seenD L1))), a, (some (Sl.mk false (.int k))), (some (Sl.mk false (.int b))), o6]) Q := by
      intro b L1 o6 Q hnd hbd hnb q
      refine for_typed D.int (fun done S => ∃ o6, S = [(some (Sl.mk false (supO size steps starts))), (some (Sl.mk true (.lst ((addAll L1 done).map .int)))), (some (Sl.mk true (seenD (addAll L1 done)))), a, (some (Sl.mk false (.int k))), (some (Sl.mk false (.int b))), o6]) (nxt steps s b) _ ⟨o6, rfl⟩ ?_ ?_
      · rintro done x rest S e ⟨o6, rfl⟩
        have hnd' : (addAll L1 done).Nodup := addAll_nd hnd
        have hl' : (addAll L1 done).length ≤ size.toNat := nd_bound hnd' fun y hy => by
          rcases addAll_mem.mp hy with h | h
          · exact hbd y h
          · exact hnb y (by rw [e]; simp [h])
        have snoc : addAll L1 (done ++ [x]) = nubI1 (addAll L1 done) x := by unfold addAll; rw [List.foldl_append]; rfl
        simp? only [notin_seen]
        refine ⟨fun h => ?_, fun h => ?_⟩
        · have hx : x ∉ addAll L1 done := by simpa using h
          simp? only [put_seen hnd' hx (by omega)]
          refine ⟨by omega, (some (Sl.mk false (.int x))), ?_⟩
          rw [snoc, nubI1, if_neg hx, List.map_append]; rfl
        · have hx : x ∈ addAll L1 done := by simpa using h
          refine ⟨(some (Sl.mk false (.int x))), ?_⟩
          rw [snoc, nubI1, if_pos hx]
      · rintro S ⟨o6, rfl⟩
        exact q o6
    have nb : ∀ b, ∀ x ∈ nxt steps s b, 0 ≤ x ∧ x < size := fun b x hx => (V.tB _ (nxt_mem.mp hx)).2.2
    have nd0 := addAll_nd (xs := nxt steps s 0) B.nd
    have bd0 : ∀ x ∈ addAll L (nxt steps s 0), 0 ≤ x ∧ x < size := fun x hx => by
      rcases addAll_mem.mp hx with h | h
      · exact B.bd x h
      · exact nb 0 x h
    simp? only [su_3, mv_isD, aI L List.prefix_rfl, getOr_mv]
    refine inner 0 L d _ B.nd B.bd (nb 0) fun o6 => ?_
    simp? only [su_3, mv_isD, aI _ (addAll_pre (xs := nxt steps s 0) (L := L)), getOr_mv]
    refine inner 1 _ o6 _ nd0 bd0 (nb 1) fun o6 => ?_
    simp? only []
    exact ⟨m - 1, by omega, _, k + 1, _, _, B.step V hsk, by omega, by rw [show ((k + 1 : Nat) : Int) = k + 1 by omega]⟩
  · have hk : k = L.length := by have := of_decide_eq_false h; have := B.kl; omega
    simp? only []
    exact ⟨L, B.nd, B.bd, B.fin hk, by rw [srtN_nd B.nd]⟩
set_option Elab.async false
set_option linter.all false
set_option maxRecDepth 100000
open M PySem L2
theorem p_lreached {size : Int} {L : List T3} {bg : List Int} (V : DrS size L bg) : ∃ R, R.Nodup ∧ (∀ x ∈ R, 0 ≤ x ∧ x < size) ∧ Lst L bg R ∧ d__law_reached [.int size, .lst (L.map tD), .tup (bg.map .int)] = .ok (.lst ((srtN R).map .int)) := by
  have hs := size_ge
  have s1 := V.s1
  have s2 := V.s2
  suffices h : Ok (d__law_reached [.int size, .lst (L.map tD), .tup (bg.map .int)]) fun d => ∃ R, R.Nodup ∧ (∀ x ∈ R, 0 ≤ x ∧ x < size) ∧ Lst L bg R ∧ d = .lst ((srtN R).map .int) by
    obtain ⟨d, e, R, h1, h2, h3, rfl⟩ := h
    exact ⟨R, h1, h2, h3, e⟩
  unfold d__law_reached m__law_reached
  rw [ok_nox, k_run]
  simp? only [tup_seqD, k_srtQ, ms_id V.bS]
  refine ⟨by omega, ?_⟩
  refine for_inv (fun i S => ∃ (F : List Int) (a b c d e : Option Sl), F.Nodup ∧ (∀ x ∈ F, 0 ≤ x ∧ x < size) ∧ (∀ x ∈ bg, x ∈ F) ∧ (∀ P : Int → Prop, (∀ s ∈ bg, P s) → (∀ e ∈ L, P e.1 → P e.2.2) → ∀ x ∈ F, P x) ∧ 1 + i ≤ F.length ∧
    S = [(some (Sl.mk false (.int size))), (some (Sl.mk false (.lst (L.map tD)))), (some (Sl.mk false (.tup (bg.map .int)))), (some (Sl.mk true (.lst (F.map .int)))), a, b, c, d, e]) _ 0 _ ⟨bg, none, none, none, none, none, strict_nd V.bS, V.bB, fun _ h => h, fun P h _ => h, by have := List.length_pos_iff.mpr V.b0; omega, rfl⟩ ?_ ?_
  · rintro i d S hd ⟨F, a, b, c, d', e, n1, n2, n3, n4, n5, rfl⟩
    obtain ⟨hi, rfl⟩ := rngL_get hd
    rw [Nat.zero_add] at n5
    have lF := nd_bound n1 n2
    simp? only []
    refine for_typed tD (fun done S => ∃ (G : List Int) (c d e : Option Sl), F <+: G ∧ G.Nodup ∧ (∀ x ∈ G, 0 ≤ x ∧ x < size) ∧ (∀ P : Int → Prop, (∀ s ∈ bg, P s) → (∀ e ∈ L, P e.1 → P e.2.2) → ∀ x ∈ G, P x) ∧ (∀ e ∈ done, e.1 ∈ F → e.2.2 ∈ G) ∧
      S = [(some (Sl.mk false (.int size))), (some (Sl.mk false (.lst (L.map tD)))), (some (Sl.mk false (.tup (bg.map .int)))), (some (Sl.mk true (.lst (G.map .int)))), (some (Sl.mk false (.int (0 + (i : Int))))), (some (Sl.mk false (.int F.length))), c, d, e]) L _ ⟨F, c, d', e, List.prefix_rfl, n1, n2, n4, by simp, rfl⟩ ?_ ?_
    · rintro done x rest S eq ⟨G, c, d, e, g1, g2, g3, g4, g5, rfl⟩
      have hx : x ∈ L := by rw [eq]; simp
      have lG := nd_bound g2 g3
      have bx := V.st.bd x hx
      have stay : (∀ z : Int, x.1 ∈ F → x.2.2 ∈ G) → (∀ e ∈ done ++ [x], e.1 ∈ F → e.2.2 ∈ G) := fun h e he hF => by
        rcases List.mem_append.mp he with he | he
        · exact g5 e he hF
        · rw [List.mem_singleton.mp he] at hF ⊢; exact h 0 hF
      simp? only [k_gT3, k_inI, k_ninI]
      refine ⟨fun h1 => ⟨fun h2 => ⟨by omega, G ++ [x.2.2], _, _, _, g1.trans (List.prefix_append ..), ?_, ?_, ?_, ?_, by rw [List.map_append]; rfl⟩, fun h2 => ⟨G, _, _, _, g1, g2, g3, g4, stay fun _ _ => by simpa using h2, rfl⟩⟩, fun h1 => ⟨G, _, _, _, g1, g2, g3, g4, stay fun _ z => absurd (g1.subset z) (of_decide_eq_false h1), rfl⟩⟩
      · have h2 := of_decide_eq_false h2
        exact List.nodup_append.mpr ⟨g2, by simp, fun a ha b hb => by rw [List.mem_singleton] at hb; subst hb; exact fun z => h2 (z ▸ ha)⟩
      · intro y hy
        rcases List.mem_append.mp hy with hy | hy
        · exact g3 y hy
        · rw [List.mem_singleton.mp hy]; exact bx.2.2
      · intro P p1 p2 y hy
        rcases List.mem_append.mp hy with hy | hy
        · exact g4 P p1 p2 y hy
        · rw [List.mem_singleton.mp hy]; exact p2 x hx (g4 P p1 p2 _ (of_decide_eq_true h1))
      · intro e he hF
        rcases List.mem_append.mp he with he | he
        · exact List.mem_append_left _ (g5 e he hF)
        · rw [List.mem_singleton.mp he]; exact List.mem_append_right _ (List.mem_singleton.mpr rfl)
    · rintro S ⟨G, c, d, e, g1, g2, g3, g4, g5, rfl⟩
      have st' : ∀ x ∈ bg, x ∈ G := fun x hx => g1.subset (n3 x hx)
      simp? only []
      refine ⟨fun h => ?_, fun h => ⟨G, _, _, _, _, _, g2, g3, st', g4, ?_, rfl⟩⟩
      · have h := of_decide_eq_true h
        have eG : F = G := g1.eq_of_length (by omega)
        subst eG
        show Ok (.ok (Fl.bk, _)) _
        rw [ok_ok]
        dsimp only
        simp? only [lst_seqD, k_srtQ]
        exact ⟨F, g2, g3, ⟨n3, g5, n4⟩, by rw [srtN_nd g2]⟩
      · have h := of_decide_eq_false h
        have := g1.length_le
        omega
  · rintro S ⟨F, a, b, c, d, e, n1, n2, n3, n4, n5, rfl⟩
    have lF := nd_bound n1 n2
    rw [rngL_len, Nat.zero_add] at n5
    omega
set_option Elab.async false
set_option linter.all false
set_option maxRecDepth 100000
open M PySem L2
def imD (b : Bool) (R : List Int) (g : Int → D) : D := if b then .dkf (R.map .inl) (R.map g) else .dic (R.map .inl) (R.map g)
theorem getL_im {g : Int → D} {x : Int} : ∀ R : List Int, getL (R.map (Sum.inl : Int → Key)) (R.map g) (.inl x) = if x ∈ R then some (g x) else none
  | [] => rfl
  | y :: R => by
    rw [List.map_cons, List.map_cons, getL, getL_im R]
    by_cases h : y = x
    · subst h; simp
    · rw [if_neg (fun z => h (by injection z))]
      by_cases h2 : x ∈ R
      · rw [if_pos h2, if_pos (List.mem_cons_of_mem _ h2)]
      · rw [if_neg h2, if_neg (by simp only [List.mem_cons, not_or]; exact ⟨fun z => h z.symm, h2⟩)]
theorem dlook_im {b : Bool} {R : List Int} {g : Int → D} {x : Int} : dlook (imD b R g) (.int x) = some (if x ∈ R then some (g x) else none) := by
  cases b <;> (show Option.map _ (some (Sum.inl x)) = _; rw [Option.map_some, getL_im])
theorem ix_im {b : Bool} {R : List Int} {g : Int → D} {x : Int} (h : x ∈ R) : ixA (imD b R g) (.int x) = .ok (g x) := by
  unfold ixA; rw [dlook_im, if_pos h]
theorem in_im {b : Bool} {R : List Int} {g : Int → D} {x : Int} : inA (.int x) (imD b R g) = .ok (.bl (decide (x ∈ R))) := by
  unfold inA; rw [dlook_im]
  by_cases h : x ∈ R <;> simp [h]
theorem keys_im {R : List Int} {g : Int → D} : keysF (imD true R g) = .ok (R.map .int) := by
  show M.R.ok ((R.map Sum.inl).map keyB) = _
  rw [List.map_map]; rfl
theorem putL_fresh {κ : Type} [DecidableEq κ] {ks : List κ} {ds : List D} {q : κ} {d : D} (h : q ∉ ks) : putL ks ds q d = (ks ++ [q], ds ++ [d]) := by
  unfold putL
  rw [List.idxOf?_eq_none_iff.mpr h]
theorem putL_old {κ : Type} [DecidableEq κ] {ks : List κ} {ds : List D} {q : κ} {d : D} {n : Nat} (nd : ks.Nodup) (h : ks[n]? = some q) : putL ks ds q d = (ks, ds.set n d) := by
  have hn : n < ks.length := (List.getElem?_eq_some_iff.mp h).1
  have ei : ks.idxOf? q = some n := by
    rw [List.idxOf?_eq_some_iff]
    rw [List.getElem?_eq_getElem hn] at h
    injection h with h
    refine ⟨hn, by simp [h], fun j hj => ?_⟩
    subst h
    have : ks[j] ≠ ks[n] := fun z => by
      have := (List.getElem_inj nd).mp z
      omega
    simpa using this
  unfold putL
  rw [ei]
theorem put_im {R : List Int} {g : Int → D} {x : Int} {d : D} (nd : R.Nodup) (hl : R.length < sizeLine) {i : Nat} {S : M.Env} :
    putA i S (imD false R g) d (.int x) = .ok (.nx, S.set i (some ⟨true, imD false (if x ∈ R then R else R ++ [x]) (fun y => if y = x then d else g y)⟩)) := by
  show (if (R.map Sum.inl : List Key).Nodup ∧ (R.map Sum.inl : List Key).length < sizeLine then M.R.ok _ else .fail) = _
  have ni : (R.map (Sum.inl : Int → Key)).Nodup := nd_map _ nd fun a _ b _ h => by injection h
  rw [if_pos ⟨ni, by rw [List.length_map]; exact hl⟩]
  have mem : (Sum.inl x : Key) ∈ R.map (Sum.inl : Int → Key) ↔ x ∈ R := by simp
  by_cases h : x ∈ R
  · rw [if_pos h]
    obtain ⟨n, hn, rfl⟩ := List.getElem_of_mem h
    have ei := putL_old (ks := R.map (Sum.inl : Int → Key)) (ds := R.map g) (d := d) ni (n := n) (q := .inl R[n]) (by simp [hn])
    have es : (R.map g).set n d = R.map (fun y => if y = R[n] then d else g y) := by
      apply List.ext_getElem?
      intro j
      rw [List.getElem?_set]
      by_cases hj : n = j
      · subst hj
        simp [hn]
      · rw [if_neg hj, List.getElem?_map, List.getElem?_map]
        cases e : R[j]? with
        | none => rfl
        | some y =>
          obtain ⟨hj2, rfl⟩ := List.getElem?_eq_some_iff.mp e
          have : R[j] ≠ R[n] := fun z => hj ((List.getElem_inj nd).mp z).symm
          simp [this]
    rw [ei]
    dsimp only
    rw [es]; rfl
  · rw [if_neg h, putL_fresh (fun z => h (mem.mp z))]
    have es : R.map g = R.map (fun y => if y = x then d else g y) := List.map_congr_left fun y hy => by rw [if_neg (fun z : y = x => h (z ▸ hy))]
    show M.R.ok (Fl.nx, S.set i (some ⟨true, .dic (R.map Sum.inl ++ [.inl x]) (R.map g ++ [d])⟩)) = _
    rw [es]
    unfold imD
    rw [if_neg (by decide)]
    simp
theorem dcI_typed {α : Type} {ga : FG} {t : FT} {fk fv : FE} {S : M.Env} (f : α → D) (key val : α → D) : ∀ (xs : List α), (∀ x ∈ xs, Ok (ga (f x) S) fun S1 => Ok (t S1) fun b => b = true ∧ Ok (fk S1) fun y => y = key x ∧ Ok (fv S1) fun z => z = val x) →
    dcF ga t fk fv S (xs.map f) = .ok (xs.map fun x => (key x, val x))
  | [], _ => rfl
  | x :: xs, h => by
    have ih := dcI_typed f key val xs fun y hy => h y (List.mem_cons_of_mem _ hy)
    obtain ⟨S1, e1, b, e2, hb, y, e3, hy, z, e4, hz⟩ := h x (List.mem_cons_self ..)
    subst hb hy hz
    show ((ga (f x) S).nox >>= fun S1 => (t S1).nox >>= fun b => if b then (fk S1).nox >>= fun y => (fv S1).nox >>= fun z => dcF ga t fk fv S (xs.map f) >>= fun ys => .ok ((y, z) :: ys) else dcF ga t fk fv S (xs.map f)) = _
    rw [e1, M.R.nox_ok, M.R.ok_bind, e2, M.R.nox_ok, M.R.ok_bind, if_pos rfl, e3, M.R.nox_ok, M.R.ok_bind, e4, M.R.nox_ok, M.R.ok_bind, ih, M.R.ok_bind]
    rfl
theorem keysI (val : Int → D) : ∀ R : List Int, keysOf dkK (R.map fun x => (D.int x, val x)) = some (R.map fun x => (Sum.inl x, val x))
  | [] => rfl
  | x :: R => by
    rw [List.map_cons]
    simp only [keysOf]
    rw [keysI val R]
    rfl
theorem k_nDcI {fi : FI} {ga : FG} {fk : FE} {vs : List Nat} {S : M.Env} {i : Nat} {QD : M.Nd → Prop} (R : List Int) (hS : i < S.length) (hi : Ok (fi S) fun ds => ds = R.map .int) (nd : R.Nodup) (hl : R.length ≤ 900)
    (h : ∀ x ∈ R, Ok (ga (.int x) (wipeS S vs)) fun S1 => Ok (fk S1) fun y => y = .int x) (q : QD ⟨.dic (R.map .inl), R.map fun _ => (true, .lst [])⟩) : Ok (nDc i fi ga tY fk vs S) QD := by
  obtain ⟨ds, e, rfl⟩ := hi
  refine ⟨_, ?_, q⟩
  unfold nDc
  rw [if_pos hS, e, M.R.nox_ok, M.R.ok_bind, dcI_typed (t := tY) (fk := fk) (fv := eN) D.int D.int (fun _ => .non) R fun x hx => (h x hx).mono fun S1 h1 => ⟨true, rfl, rfl, h1.mono fun y hy => ⟨hy, .non, rfl, rfl⟩⟩, M.R.ok_bind]
  unfold nDcEnd
  rw [keysI]
  have ni : (R.map (Sum.inl : Int → Key)).Nodup := nd_map _ nd fun a _ b _ h => by injection h
  have em : (R.map fun x => ((Sum.inl x : Key), (D.non : D))).map (·.1) = R.map Sum.inl := by rw [List.map_map]; rfl
  dsimp only
  rw [List.nil_append, em, if_pos ⟨ni, by rw [List.length_map]; exact hl⟩, List.map_map]
  rfl
theorem nfor_typed {α : Type} {g : FG} {F : FN} {QN : M.Env × M.Nd → Prop} (f : α → D) (P : List α → M.Env → M.Nd → Prop) (xs : List α) {S : M.Env} {n : M.Nd} (h0 : P [] S n)
    (k : ∀ (done : List α) (x : α) (rest : List α) (S : M.Env) (n : M.Nd), xs = done ++ x :: rest → P done S n → Ok (g (f x) S) fun S1 => Ok (F S1 n) fun z => P (done ++ [x]) z.1 z.2)
    (q : ∀ S n, P xs S n → QN (S, n)) : Ok (nForF g F (xs.map f) S n) QN := by
  suffices aux : ∀ (rest done : List α) (S : M.Env) (n : M.Nd), xs = done ++ rest → P done S n → Ok (nForF g F (rest.map f) S n) QN from aux xs [] S n rfl h0
  intro rest
  induction rest with
  | nil => intro done S n e h; exact ok_ok.mpr (q S n (by rw [List.append_nil] at e; rw [e]; exact h))
  | cons x rest ih =>
    intro done S n e h
    obtain ⟨S1, e1, z, e2, hz⟩ := k done x rest S n e h
    show Ok ((g (f x) S).nox >>= fun S1 => F S1 n >>= fun z => nForF g F (rest.map f) z.1 z.2) QN
    rw [e1, M.R.nox_ok, M.R.ok_bind, e2, M.R.ok_bind]
    exact ih (done ++ [x]) z.1 z.2 (by rw [e]; simp) hz
theorem k_nFor {fi : FI} {g : FG} {F : FN} {S : M.Env} {n : M.Nd} {QN : M.Env × M.Nd → Prop} : Ok (nFor fi g F S n) QN ↔ Ok (fi S) fun ds => Ok (nForF g F ds S n) QN := by unfold nFor; rw [ok_bind, ok_nox]
theorem posK_some {x : Int} : ∀ R : List Int, (posK (R.map (Sum.inl : Int → Key)) (.inl x)).isSome = decide (x ∈ R)
  | [] => rfl
  | y :: R => by
    rw [List.map_cons, posK]
    by_cases h : y = x
    · subst h; simp
    · rw [if_neg (fun z => h (by injection z)), Option.isSome_map, posK_some R]
      simp only [List.mem_cons]
      by_cases g : x ∈ R
      · simp [g]
      · simp [g]; exact fun z => h z.symm
theorem posK_get {x : Int} : ∀ {R : List Int}, x ∈ R → ∃ m, posK (R.map (Sum.inl : Int → Key)) (.inl x) = some m ∧ R[m]? = some x
  | [], h => by simp at h
  | y :: R, h => by
    rw [List.map_cons, posK]
    by_cases e : y = x
    · subst e; exact ⟨0, by simp, rfl⟩
    · obtain ⟨m, h1, h2⟩ := posK_get (R := R) (Or.resolve_left (List.mem_cons.mp h) fun z => e z.symm)
      rw [if_neg (fun z => e (by injection z)), h1]
      exact ⟨m + 1, rfl, h2⟩
set_option Elab.async false
set_option linter.all false
set_option maxRecDepth 100000
open M PySem L2
section
variable {QS : Fl × M.Env → Prop} {QN : M.Env × M.Nd → Prop} {QD : M.Nd → Prop} {QB : Bool → Prop} {QA : List (Bool × D) → Prop} {S : M.Env} {n : M.Nd} {f g : FE} {F G : FN} {Z : FNR} {t : FT} {tn : FTN} {fa : FAN} {i : Nat} {r : FS}
theorem k_nest {e : M.Env → R M.Nd} : Ok (sNest e i Z S) QS ↔ Ok (e S) fun n => Ok (Z (S.set i none) n) QS := by unfold sNest; rw [ok_bind, ok_nox]
theorem k_then : Ok (nThen F Z S n) QS ↔ Ok (F S n) fun y => Ok (Z y.1 y.2) QS := by unfold nThen; rw [ok_bind, ok_nox]
theorem k_nEnd : Ok (nEnd i r S n) QS ↔ Ok (r (S.set i (some ⟨true, n.d⟩))) QS := Iff.rfl
theorem k_nNil : Ok (nNil S n) QN ↔ QN (S, n) := ok_ok
theorem k_nIf : Ok (nIf tn F G S n) QN ↔ Ok (tn S n) fun b => (b = true → Ok (F S n) QN) ∧ (b = false → Ok (G S n) QN) := by unfold nIf; simp only [ok_bind, ok_b]
theorem k_nApp : Ok (nApp f g S n) QN ↔ Ok (f S) fun y => ∃ m ds, n.k.at y = some m ∧ n.es[m]? = some (true, .lst ds) ∧ Ok (g S) fun d => ds.length < sizeLine ∧ QN (S, ⟨n.k, n.es.set m (true, .lst (ds ++ [d]))⟩) := by
  unfold nApp
  rw [ok_bind]
  apply iff_of_eq
  congr 1
  funext y
  refine propext ?_
  cases e1 : n.k.at y with
  | none => exact ⟨fun ⟨_, e, _⟩ => (nomatch e), fun ⟨_, _, e, _⟩ => (nomatch e)⟩
  | some m =>
    dsimp only
    constructor
    · intro h
      cases e2 : n.es[m]? with
      | none => rw [e2] at h; exact (ok_fail.mp h).elim
      | some z =>
        rw [e2] at h
        obtain ⟨b, d⟩ := z
        cases b with
        | false => exact (ok_fail.mp h).elim
        | true =>
          cases d with
          | lst ds =>
            simp only [ok_bind, ok_if, ok_ok] at h
            exact ⟨m, ds, rfl, e2, h⟩
          | _ => exact (ok_fail.mp h).elim
    · rintro ⟨m', ds, e, e2, h⟩
      cases e
      rw [e2]
      simp only [ok_bind, ok_if, ok_ok]
      exact h
end
set_option Elab.async false
set_option linter.all false
set_option maxRecDepth 100000
open M PySem L2
abbrev P2i := Int × Int
def outs (L : List T3) (s : Int) : List P2i := (L.filter fun e => decide (e.1 = s)).map fun e => (e.2.1, e.2.2)
def pD2 (p : P2i) : D := .tup [.int p.1, .int p.2]
theorem outs_mem {L : List T3} {s : Int} {p : P2i} : p ∈ outs L s ↔ (s, p.1, p.2) ∈ L := by
  unfold outs
  simp only [List.mem_map, List.mem_filter, decide_eq_true_eq]
  constructor
  · rintro ⟨e, ⟨he, rfl⟩, rfl⟩; exact he
  · intro h; exact ⟨_, ⟨h, rfl⟩, rfl⟩
theorem outs_snoc (L : List T3) (e : T3) (s : Int) : outs (L ++ [e]) s = outs L s ++ (if e.1 = s then [(e.2.1, e.2.2)] else []) := by
  unfold outs
  rw [List.filter_append, List.map_append]
  by_cases h : e.1 = s <;> simp [h]
theorem outs_le (L : List T3) (s : Int) : (outs L s).length ≤ L.length := by unfold outs; rw [List.length_map]; exact List.length_filter_le ..
def tabD (b : Bool) (R : List Int) (T : Int → List P2i) : D := imD b R fun s => .lst ((T s).map pD2)
def tabN (R : List Int) (T : Int → List P2i) : M.Nd := ⟨.dic (R.map .inl), R.map fun s => (true, .lst ((T s).map pD2))⟩
theorem tabN_d (R : List Int) (T : Int → List P2i) : (tabN R T).d = tabD false R T := by
  unfold tabN M.Nd.d tabD imD
  simp [List.map_map]
theorem tabN_put {R : List Int} {T T' : Int → List P2i} {m : Nat} {x : Int} (nd : R.Nodup) (h : R[m]? = some x) (hx : ∀ y, y ≠ x → T' y = T y) : (R.map fun s => (true, D.lst ((T s).map pD2))).set m (true, .lst ((T' x).map pD2)) = R.map fun s => (true, D.lst ((T' s).map pD2)) := by
  obtain ⟨hm, rfl⟩ := List.getElem?_eq_some_iff.mp h
  apply List.ext_getElem?
  intro j
  rw [List.getElem?_set]
  by_cases hj : m = j
  · subst hj; simp [hm]
  · rw [if_neg hj, List.getElem?_map, List.getElem?_map]
    cases e : R[j]? with
    | none => rfl
    | some y =>
      obtain ⟨hj2, rfl⟩ := List.getElem?_eq_some_iff.mp e
      simp only [Option.map_some]
      rw [hx _ fun z => hj ((List.getElem_inj nd).mp z).symm]
theorem p_moves_from {size : Int} {steps : List T3} {starts R : List Int} (nd : R.Nodup) (hl : R.length ≤ 200) (tl : steps.length ≤ 300) (er : d_Supply_reached [supO size steps starts] = .ok (.tup (R.map .int))) :
    d_moves_from [supO size steps starts] = .ok (tabD true R (outs steps)) := by
  have hs := size_ge
  refine Ok.eq ?_
  unfold d_moves_from m_moves_from
  rw [ok_nox, k_run, k_nest]
  refine k_nDcI R (by show 2 < 5; decide) ?_ nd (by omega) ?_ ?_
  · simp? only [su_o, er]
  · intro x hx
    simp? only [wipeS]
  rw [k_then, k_nFor]
  simp? only [su_1]
  refine nfor_typed tD (fun done S n => ∃ a b c, S = [(some (Sl.mk false (supO size steps starts))), a, none, b, c] ∧ n = tabN R (outs done)) steps ⟨none, none, none, rfl, by simp [tabN, outs]⟩ ?_ ?_
  · rintro done x rest S n eq ⟨a, b, c, rfl, rfl⟩
    have hd : done.length < 300 := by rw [eq, List.length_append, List.length_cons] at tl; omega
    simp? only [k_gT3, k_nIf]
    have et : tnIn (eW 1) [(some (Sl.mk false (supO size steps starts))), (some (Sl.mk false (.int x.1))), none, (some (Sl.mk false (.int x.2.1))), (some (Sl.mk false (.int x.2.2)))] (tabN R (outs done)) = .ok (decide (x.1 ∈ R)) := by
      show M.R.ok (posK (R.map (Sum.inl : Int → Key)) (.inl x.1)).isSome = _
      rw [posK_some]
    rw [et, ok_ok]
    have oth : ∀ y, y ≠ x.1 → outs (done ++ [x]) y = outs done y := fun y hy => by rw [outs_snoc, if_neg fun z => hy z.symm, List.append_nil]
    refine ⟨fun h => ?_, fun h => ?_⟩
    · have h := of_decide_eq_true h
      obtain ⟨m, hm1, hm2⟩ := posK_get h
      rw [k_nApp]
      simp? only []
      refine ⟨m, (outs done x.1).map pD2, hm1, by show (R.map fun s => (true, D.lst ((outs done s).map pD2)))[m]? = _; rw [List.getElem?_map, hm2]; rfl, ?_⟩
      simp? only []
      have := outs_le done x.1
      refine ⟨by omega, _, _, _, rfl, ?_⟩
      have e2 : (outs done x.1).map pD2 ++ [.tup [.int x.2.1, .int x.2.2]] = (outs (done ++ [x]) x.1).map pD2 := by rw [outs_snoc, if_pos rfl, List.map_append]; rfl
      rw [e2]
      show (⟨.dic (R.map .inl), (R.map fun s => (true, D.lst ((outs done s).map pD2))).set m (true, .lst ((outs (done ++ [x]) x.1).map pD2))⟩ : M.Nd) = _
      rw [tabN_put nd hm2 oth]; rfl
    · have h := of_decide_eq_false h
      rw [k_nNil]
      refine ⟨_, _, _, rfl, ?_⟩
      unfold tabN
      dsimp only
      congr 1
      exact List.map_congr_left fun y hy => by rw [oth y fun z => h (z ▸ hy)]
  · rintro S n ⟨a, b, c, rfl, rfl⟩
    rw [k_nEnd, tabN_d]
    show Ok (sRet (eV 2) [(some (Sl.mk false (supO size steps starts))), a, (some (Sl.mk false (tabD true R (outs steps)))), b, c]) _
    simp? only []
set_option Elab.async false
set_option linter.all false
set_option maxRecDepth 100000
open M PySem L2
def lo (T : Int → List P2i) : Nat → Int → Int
  | 0, _ => 0
  | n + 1, s => minL ((T s).map fun p => p.1 + lo T n p.2)
structure TabV (R : List Int) (T : Int → List P2i) : Prop where
  nd : R.Nodup
  ln : R.length ≤ 200
  ne : R ≠ []
  te : ∀ s ∈ R, T s ≠ []
  tl : ∀ s ∈ R, (T s).length ≤ 300
  tc : ∀ s ∈ R, ∀ p ∈ T s, p.2 ∈ R
  tb : ∀ s ∈ R, ∀ p ∈ T s, p.1 = 0 ∨ p.1 = 1
theorem k_g2p {p : P2i} {a b : Nat} {S : M.Env} {QE : M.Env → Prop} : Ok (gT 2 (gsC (gN a) (gsC (gN b) gsN)) (pD2 p) S) QE ↔ QE ((S.set a (some ⟨false, .int p.1⟩)).set b (some ⟨false, .int p.2⟩)) := by
  unfold pD2
  simp? only []
def tT (T : Int → List P2i) (s : Int) : List P2i := (T s).map fun p => (1 - p.1, p.2)
theorem TabV.turn {R : List Int} {T : Int → List P2i} (V : TabV R T) : TabV R (tT T) where
  nd := V.nd
  ln := V.ln
  ne := V.ne
  te := fun s hs => by unfold tT; simpa using V.te s hs
  tl := fun s hs => by unfold tT; rw [List.length_map]; exact V.tl s hs
  tc := fun s hs p hp => by
    obtain ⟨x, hx, rfl⟩ := List.mem_map.mp hp
    exact V.tc s hs x hx
  tb := fun s hs p hp => by
    obtain ⟨x, hx, rfl⟩ := List.mem_map.mp hp
    have := V.tb s hs x hx
    dsimp only; omega
def mn (R : List Int) (T : Int → List P2i) (n : Nat) : Int := minL (R.map (lo T n))
set_option Elab.async false
set_option linter.all false
set_option maxRecDepth 100000
open M PySem L2
def vl (f : Int → Int) (L : List T3) (s : Int) : List Int := (outs L s).map fun p => p.1 + f p.2
structure Tb0 (L : List T3) (R : List Int) : Prop where
  nd : R.Nodup
  ln : R.length ≤ 200
  ne : R ≠ []
  tl : L.length ≤ 300
  ev : ∀ s ∈ R, ∃ e ∈ L, e.1 = s
  cl : ∀ e ∈ L, e.1 ∈ R → e.2.2 ∈ R
  tb : ∀ e ∈ L, e.2.1 = 0 ∨ e.2.1 = 1
theorem Tb0.tab {L : List T3} {R : List Int} (V : Tb0 L R) : TabV R (outs L) where
  nd := V.nd
  ln := V.ln
  ne := V.ne
  te := fun s hs => by
    obtain ⟨e, he, rfl⟩ := V.ev s hs
    exact List.ne_nil_of_mem (outs_mem.mpr he : (e.2.1, e.2.2) ∈ outs L e.1)
  tl := fun s _ => by have := outs_le L s; have := V.tl; omega
  tc := fun s hs p hp => V.cl _ (outs_mem.mp hp) hs
  tb := fun s hs p hp => V.tb _ (outs_mem.mp hp)
structure Ky (R : List Int) (done : List T3) (F : List Int) : Prop where
  nd : F.Nodup
  ln : F.length ≤ done.length
  mem : ∀ x, x ∈ F ↔ x ∈ R ∧ ∃ e ∈ done, e.1 = x
theorem Ky.nil (R : List Int) : Ky R [] [] := ⟨List.nodup_nil, Nat.le_refl _, by simp⟩
theorem Ky.same {R F : List Int} {done : List T3} {x : T3} (K : Ky R done F) (h : x.1 ∉ R) : Ky R (done ++ [x]) F := ⟨K.nd, by have := K.ln; simp; omega, fun y => by
  rw [K.mem]
  constructor
  · rintro ⟨a, e, b, c⟩; exact ⟨a, e, List.mem_append_left _ b, c⟩
  · rintro ⟨a, e, b, c⟩
    rcases List.mem_append.mp b with b | b
    · exact ⟨a, e, b, c⟩
    · rw [List.mem_singleton.mp b] at c; exact absurd (c ▸ a) h⟩
theorem Ky.put {R F : List Int} {done : List T3} {x : T3} (K : Ky R done F) (h : x.1 ∈ R) : Ky R (done ++ [x]) (if x.1 ∈ F then F else F ++ [x.1]) := by
  have key : ∀ y, y ∈ (if x.1 ∈ F then F else F ++ [x.1]) ↔ y ∈ F ∨ y = x.1 := fun y => by
    by_cases g : x.1 ∈ F
    · rw [if_pos g]; exact ⟨.inl, fun z => z.elim id fun z => z ▸ g⟩
    · rw [if_neg g]; simp
  refine ⟨?_, ?_, fun y => ?_⟩
  · by_cases g : x.1 ∈ F
    · rw [if_pos g]; exact K.nd
    · rw [if_neg g]; exact List.nodup_append.mpr ⟨K.nd, by simp, fun a ha b hb => by rw [List.mem_singleton] at hb; subst hb; exact fun z => g (z ▸ ha)⟩
  · have := K.ln
    by_cases g : x.1 ∈ F
    · rw [if_pos g, List.length_append]; omega
    · rw [if_neg g, List.length_append, List.length_append]; simp; omega
  · rw [key, K.mem]
    constructor
    · rintro (⟨a, e, b, c⟩ | rfl)
      · exact ⟨a, e, List.mem_append_left _ b, c⟩
      · exact ⟨h, x, by simp, rfl⟩
    · rintro ⟨a, e, b, c⟩
      rcases List.mem_append.mp b with b | b
      · exact .inl ⟨a, e, b, c⟩
      · rw [List.mem_singleton.mp b] at c; exact .inr c.symm
set_option Elab.async false
set_option linter.all false
set_option maxRecDepth 100000
open M PySem L2
theorem Lst.of {steps steps' : List T3} {starts F : List Int} (h : Lst steps starts F) (h1 : ∀ e ∈ steps, ∃ e' ∈ steps', e'.1 = e.1 ∧ e'.2.2 = e.2.2) (h2 : ∀ e ∈ steps', ∃ e' ∈ steps, e'.1 = e.1 ∧ e'.2.2 = e.2.2) : Lst steps' starts F :=
  ⟨h.st, fun e he hF => by
    obtain ⟨x, hx, a, b⟩ := h2 e he
    rw [← b]; exact h.cl x hx (a ▸ hF), fun P p1 p2 => h.mn P p1 fun e he hP => by
    obtain ⟨x, hx, a, b⟩ := h1 e he
    rw [← b]; exact p2 x hx (a ▸ hP)⟩
theorem Lst.uq {steps : List T3} {starts a b : List Int} (h1 : Lst steps starts a) (h2 : Lst steps starts b) : srtN a = srtN b := srtN_congr (h1.uniq h2 (fun _ => Iff.rfl) fun _ => Iff.rfl)
theorem Lst.srt {steps : List T3} {starts a : List Int} (h : Lst steps starts a) : Lst steps starts (srtN a) :=
  ⟨fun s hs => (srtN_mem a).mpr (h.st s hs), fun e he hF => (srtN_mem a).mpr (h.cl e he ((srtN_mem a).mp hF)), fun P p1 p2 x hx => h.mn P p1 p2 x ((srtN_mem a).mp hx)⟩
theorem ms_t {L : List T3} {e : T3} : e ∈ L.mergeSort tle ↔ e ∈ L := (List.mergeSort_perm L tle).mem_iff
theorem Lst.sort {L : List T3} {bg F : List Int} (h : Lst (L.mergeSort tle) bg F) : Lst L bg F := h.of (fun e he => ⟨e, ms_t.mp he, rfl, rfl⟩) fun e he => ⟨e, ms_t.mpr he, rfl, rfl⟩
theorem Lst.trn {L : List T3} {bg F : List Int} (h : Lst (L.map trn) bg F) : Lst L bg F := h.of (fun e he => by
  obtain ⟨x, hx, rfl⟩ := List.mem_map.mp he
  exact ⟨x, hx, rfl, rfl⟩) fun e he => ⟨Pf.trn e, List.mem_map_of_mem he, rfl, rfl⟩
theorem DrS.tb {size : Int} {L : List T3} {bg R : List Int} (V : DrS size L bg) (nd : R.Nodup) (bd : ∀ x ∈ R, 0 ≤ x ∧ x < size) (h : Lst L bg R) : Tb0 L R where
  nd := nd
  ln := by have := nd_bound nd bd; have := V.s2; omega
  ne := by
    obtain ⟨x, hx⟩ := List.exists_mem_of_ne_nil _ V.b0
    exact List.ne_nil_of_mem (h.st x hx)
  tl := by have := V.ln; omega
  ev := fun s hs => V.st.ev s (bd s hs).1 (bd s hs).2
  cl := h.cl
  tb := fun e he => (V.st.bd e he).2.1
theorem p_stays {size : Int} {L : List T3} {bg : List Int} (V : DrS size L bg) : d__law_stays [supO size (L.mergeSort tle) bg, .tup [.int size, .lst (L.map tD), .tup (bg.map .int)]] = .ok (.bl true) := by
  refine Ok.eq ?_
  unfold d__law_stays m__law_stays
  rw [ok_nox, k_run]
  simp? only [su_0, su_1, su_2]
  refine ⟨_, rfl, ?_⟩
  simp? only []
  refine ⟨_, rfl, ?_⟩
  simp? only [k_srtT, k_neS (dok_tts (L.mergeSort tle))]
  refine ⟨_, rfl, ?_⟩
  simp? only [k_srtIT, ms_id V.bS, k_deqS (dok_tints bg)]
set_option Elab.async false
set_option linter.all false
set_option maxRecDepth 100000
open M PySem L2
theorem nd_le : ∀ {a b : List Int}, a.Nodup → (∀ x ∈ a, x ∈ b) → a.length ≤ b.length
  | [], _, _, _ => Nat.zero_le _
  | x :: a, b, h, hs => by
    have hx := hs x (List.mem_cons_self ..)
    have h1 := List.nodup_cons.mp h
    have := nd_le (b := b.erase x) h1.2 fun y hy => (List.mem_erase_of_ne fun z => h1.1 (by subst z; exact hy)).mpr (hs y (List.mem_cons_of_mem _ hy))
    rw [List.length_erase_of_mem hx] at this
    have := List.length_pos_of_mem hx
    rw [List.length_cons]
    omega
abbrev E2i := Int × Int
def zTE (T : Int → List P2i) (s : Int) : List E2i := ((T s).filter fun p => decide (p.1 = 0)).map fun p => (s, p.2)
def bkE (E : List E2i) (t : Int) : List Int := (E.filter fun e => decide (e.2 = t)).map (·.1)
def mzE (E : List E2i) (Dn : List Int) (s : Int) : Nat := E.countP fun e => decide (e.1 = s ∧ e.2 ∉ Dn)
theorem mzE_zero {E : List E2i} {Dn : List Int} {s : Int} : mzE E Dn s = 0 ↔ ∀ e ∈ E, e.1 = s → e.2 ∈ Dn := by
  unfold mzE
  rw [List.countP_eq_zero]
  constructor
  · intro h e he hs
    have := h e he
    rw [decide_eq_true_eq] at this
    by_cases z : e.2 ∈ Dn
    · exact z
    · exact absurd ⟨hs, z⟩ this
  · intro h e he z
    rw [decide_eq_true_eq] at z
    exact z.2 (h e he z.1)
theorem mzE_bk {Dn : List Int} {x : Int} (hx : x ∉ Dn) (s : Int) : ∀ E : List E2i, mzE E Dn s = mzE E (Dn ++ [x]) s + (bkE E x).count s
  | [] => rfl
  | e :: E => by
    have ih := mzE_bk hx s E
    unfold mzE bkE at ih ⊢
    rw [List.countP_cons, List.countP_cons, List.filter_cons, ih]
    by_cases h1 : e.2 = x
    · have d1 : decide (e.2 = x) = true := decide_eq_true h1
      have d2 : decide (e.1 = s ∧ e.2 ∉ Dn ++ [x]) = false := decide_eq_false fun z => z.2 (by simp [h1])
      have q1 : (if decide (e.1 = s ∧ e.2 ∉ Dn ++ [x]) = true then 1 else 0) = (0 : Nat) := if_neg (by rw [d2]; decide)
      rw [if_pos d1, q1, List.map_cons, List.count_cons]
      by_cases h2 : e.1 = s
      · rw [if_pos (decide_eq_true (⟨h2, by rw [h1]; exact hx⟩ : e.1 = s ∧ e.2 ∉ Dn)), if_pos (by simpa using h2)]; omega
      · rw [if_neg (fun z => h2 (of_decide_eq_true z).1), if_neg (by simpa using h2)]; omega
    · have d1 : ¬ decide (e.2 = x) = true := by simpa using h1
      rw [if_neg d1]
      have : decide (e.1 = s ∧ e.2 ∉ Dn ++ [x]) = decide (e.1 = s ∧ e.2 ∉ Dn) := by
        refine decide_eq_decide.mpr ⟨fun z => ⟨z.1, fun w => z.2 (List.mem_append_left _ w)⟩, fun z => ⟨z.1, fun w => ?_⟩⟩
        rcases List.mem_append.mp w with w | w
        · exact z.2 w
        · exact h1 (List.mem_singleton.mp w)
      rw [this]; omega
structure DrI (R : List Int) (E : List E2i) (m : Int → Int) (O : List Int) : Prop where
  nd : O.Nodup
  mem : ∀ s, s ∈ O ↔ s ∈ R ∧ m s = 0
  pos : ∀ j s, O[j]? = some s → ∀ t, (s, t) ∈ E → t ∈ O.take j
def mIn (E : List E2i) (Dn pd : List Int) (s : Int) : Int := (mzE E Dn s : Int) - (pd.count s : Int)
theorem mIn_y {E : List E2i} {Dn pd rest : List Int} {x y : Int} (hx : x ∉ Dn) (eb : bkE E x = pd ++ y :: rest) : 1 ≤ mIn E Dn pd y ∧ mIn E Dn (pd ++ [y]) y = mIn E Dn pd y - 1 ∧ (mIn E Dn pd y - 1 = 0 → mzE E (Dn ++ [x]) y = 0) := by
  have a := mzE_bk hx y E
  rw [eb, List.count_append, List.count_cons, if_pos (by simp)] at a
  unfold mIn
  rw [List.count_append, List.count_cons, if_pos (by simp)]
  have : ([] : List Int).count y = 0 := rfl
  refine ⟨?_, ?_, ?_⟩ <;> omega
theorem mIn_ne {E : List E2i} {Dn pd : List Int} {s y : Int} (h : s ≠ y) : mIn E Dn (pd ++ [y]) s = mIn E Dn pd s := by
  unfold mIn
  rw [List.count_append, List.count_cons, if_neg (by simpa using h.symm)]
  have : ([] : List Int).count s = 0 := rfl
  omega
theorem DrI.put {R O Dn pd rest : List Int} {E : List E2i} {x y : Int} (I : DrI R E (mIn E Dn pd) O) (hx : x ∉ Dn) (eb : bkE E x = pd ++ y :: rest) (hD : ∀ t ∈ Dn ++ [x], t ∈ O) (hy : y ∈ R) (h0 : mIn E Dn pd y - 1 = 0) : DrI R E (mIn E Dn (pd ++ [y])) (O ++ [y]) := by
  obtain ⟨a1, a2, a3⟩ := mIn_y hx eb
  have hn : y ∉ O := fun z => by have := ((I.mem y).mp z).2; omega
  refine ⟨List.nodup_append.mpr ⟨I.nd, by simp, fun a ha b hb => by rw [List.mem_singleton] at hb; subst hb; exact fun z => hn (z ▸ ha)⟩, fun s => ?_, fun j s hj t ht => ?_⟩
  · rw [List.mem_append, List.mem_singleton]
    by_cases h : s = y
    · subst h
      exact ⟨fun _ => ⟨hy, by omega⟩, fun _ => .inr rfl⟩
    · rw [mIn_ne h, ← I.mem s]
      exact ⟨fun z => z.resolve_right h, .inl⟩
  · rcases Nat.lt_trichotomy j O.length with h | h | h
    · rw [List.getElem?_append_left h] at hj
      rw [List.take_append_of_le_length (by omega)]
      exact I.pos j s hj t ht
    · subst h
      rw [List.getElem?_append_right (Nat.le_refl _), Nat.sub_self] at hj
      have : y = s := by simpa using hj
      subst this
      rw [List.take_left]
      exact hD t (mzE_zero.mp (a3 h0) _ ht rfl)
    · rw [List.getElem?_eq_none (by simp; omega)] at hj
      cases hj
theorem DrI.skip {R O Dn pd rest : List Int} {E : List E2i} {x y : Int} (I : DrI R E (mIn E Dn pd) O) (hx : x ∉ Dn) (eb : bkE E x = pd ++ y :: rest) (h0 : mIn E Dn pd y - 1 ≠ 0) : DrI R E (mIn E Dn (pd ++ [y])) O := by
  obtain ⟨a1, a2, a3⟩ := mIn_y hx eb
  refine ⟨I.nd, fun s => ?_, I.pos⟩
  rw [I.mem s]
  by_cases h : s = y
  · subst h
    constructor
    · rintro ⟨_, z⟩; omega
    · rintro ⟨_, z⟩; omega
  · rw [mIn_ne h]
theorem DrI.congr {R O : List Int} {E : List E2i} {m m' : Int → Int} (I : DrI R E m O) (h : ∀ s, m s = m' s) : DrI R E m' O := ⟨I.nd, fun s => by rw [I.mem, h], I.pos⟩
structure Dry (R : List Int) (T : Int → List P2i) (O : List Int) : Prop where
  nd : O.Nodup
  sub : ∀ s ∈ O, s ∈ R
  pos : ∀ j s, O[j]? = some s → ∀ p ∈ T s, p.1 = 0 → p.2 ∈ O.take j
  out : ∀ s ∈ R, s ∉ O → ∃ p ∈ T s, p.1 = 0 ∧ p.2 ∉ O
theorem zTE_mem {T : Int → List P2i} {s x t : Int} : (x, t) ∈ zTE T s ↔ x = s ∧ (0, t) ∈ T s := by
  unfold zTE
  simp only [List.mem_map, List.mem_filter, decide_eq_true_eq]
  constructor
  · rintro ⟨⟨a, b⟩, ⟨h1, h2⟩, e⟩
    injection e with e1 e2
    subst e1 e2
    dsimp only at h2
    subst h2
    exact ⟨rfl, h1⟩
  · rintro ⟨rfl, h⟩
    exact ⟨(0, t), ⟨h, rfl⟩, rfl⟩
theorem Dry.of {R O : List Int} {T : Int → List P2i} (I : DrI R (R.flatMap (zTE T)) (mIn (R.flatMap (zTE T)) O []) O) : Dry R T O := by
  have key : ∀ s t, (s, t) ∈ R.flatMap (zTE T) ↔ s ∈ R ∧ (0, t) ∈ T s := fun s t => by
    rw [List.mem_flatMap]
    constructor
    · rintro ⟨x, hx, h⟩
      obtain ⟨rfl, h⟩ := zTE_mem.mp h
      exact ⟨hx, h⟩
    · rintro ⟨hx, h⟩
      exact ⟨s, hx, zTE_mem.mpr ⟨rfl, h⟩⟩
  refine ⟨I.nd, fun s hs => ((I.mem s).mp hs).1, fun j s hj p hp h0 => ?_, fun s hs hn => ?_⟩
  · have hs := ((I.mem s).mp (List.mem_of_getElem? hj)).1
    obtain ⟨a, b⟩ := p
    dsimp only at h0
    subst h0
    exact I.pos j s hj b ((key s b).mpr ⟨hs, hp⟩)
  · have : mzE (R.flatMap (zTE T)) O s ≠ 0 := fun z => hn ((I.mem s).mpr ⟨hs, by unfold mIn; rw [z]; rfl⟩)
    rw [Ne, mzE_zero] at this
    refine Classical.byContradiction fun hc => this fun e he hes => Classical.byContradiction fun ho => hc ?_
    obtain ⟨a, b⟩ := e
    dsimp only at hes ho
    subst hes
    exact ⟨(0, b), ((key a b).mp he).2, rfl, ho⟩
set_option Elab.async false
set_option linter.all false
set_option maxRecDepth 100000
open M PySem L2
def Wk (T : Int → List P2i) : Int → List P2i → Int → Prop
  | s, [], t => s = t
  | s, p :: xs, t => p.1 = s ∧ ∃ u, (p.2, u) ∈ T s ∧ Wk T u xs t
theorem wk_app {T : Int → List P2i} : ∀ {xs ys : List P2i} {s t : Int}, Wk T s (xs ++ ys) t ↔ ∃ u, Wk T s xs u ∧ Wk T u ys t
  | [], ys, s, t => ⟨fun h => ⟨s, rfl, h⟩, fun ⟨u, e, h⟩ => by cases e; exact h⟩
  | p :: xs, ys, s, t => by
    constructor
    · rintro ⟨e, u, h1, h2⟩
      obtain ⟨v, h3, h4⟩ := wk_app.mp h2
      exact ⟨v, ⟨e, u, h1, h3⟩, h4⟩
    · rintro ⟨v, ⟨e, u, h1, h3⟩, h4⟩
      exact ⟨e, u, h1, wk_app.mpr ⟨v, h3, h4⟩⟩
theorem wk_one {T : Int → List P2i} {s t : Int} {p : P2i} : Wk T s [p] t ↔ p.1 = s ∧ (p.2, t) ∈ T s :=
  ⟨fun ⟨e, u, h, z⟩ => by cases z; exact ⟨e, h⟩, fun ⟨e, h⟩ => ⟨e, t, h, rfl⟩⟩
theorem wk_in {R : List Int} {T : Int → List P2i} (V : TabV R T) : ∀ {xs : List P2i} {s t : Int}, s ∈ R → Wk T s xs t → t ∈ R ∧ ∀ p ∈ xs, p.1 ∈ R ∧ (p.2 = 0 ∨ p.2 = 1)
  | [], s, t, hs, h => by cases h; exact ⟨hs, by simp⟩
  | p :: xs, s, t, hs, ⟨e, u, h1, h2⟩ => by
    have hu := V.tc s hs _ h1
    have hb := V.tb s hs _ h1
    obtain ⟨a, b⟩ := wk_in V hu h2
    refine ⟨a, fun q hq => ?_⟩
    rcases List.mem_cons.mp hq with rfl | hq
    · exact ⟨e ▸ hs, hb⟩
    · exact b q hq
structure Lp (R : List Int) (T : Int → List P2i) (xs : List P2i) : Prop where
  ne : xs ≠ []
  ln : xs.length ≤ R.length
  wk : ∃ s, s ∈ R ∧ Wk T s xs s
def bits (xs : List P2i) : Int := (xs.map (·.2)).sum
theorem bits_b : ∀ {xs : List P2i}, (∀ p ∈ xs, p.2 = 0 ∨ p.2 = 1) → 0 ≤ bits xs ∧ bits xs ≤ xs.length
  | [], _ => ⟨Int.le_refl _, Int.le_refl _⟩
  | p :: xs, h => by
    have := bits_b fun q hq => h q (List.mem_cons_of_mem _ hq)
    have := h p (List.mem_cons_self ..)
    unfold bits at *
    rw [List.map_cons, List.sum_cons, List.length_cons]
    omega
theorem Lp.b {R : List Int} {T : Int → List P2i} {xs : List P2i} (V : TabV R T) (h : Lp R T xs) : 0 ≤ bits xs ∧ bits xs ≤ xs.length ∧ 1 ≤ xs.length := by
  obtain ⟨s, hs, w⟩ := h.wk
  have := bits_b fun p hp => ((wk_in V hs w).2 p hp).2
  have := List.length_pos_iff.mpr h.ne
  omega
structure Low (a t p q : Nat) : Prop where
  cr : p * t = a * q
  q1 : 1 ≤ q
  qt : q ≤ t
  pq : a ≤ t → p ≤ q
  co : ∀ k, 2 ≤ k → k ∣ p → k ∣ q → False
theorem low_gcd {a t : Nat} (h : 1 ≤ t) : Low a t (a / Nat.gcd a t) (t / Nat.gcd a t) := by
  have g0 : 0 < Nat.gcd a t := Nat.gcd_pos_of_pos_right _ (by omega)
  obtain ⟨p, hp⟩ := Nat.gcd_dvd_left a t
  obtain ⟨q, hq⟩ := Nat.gcd_dvd_right a t
  have cop := Nat.coprime_div_gcd_div_gcd g0
  generalize Nat.gcd a t = g at *
  have e1 : a / g = p := by rw [hp]; exact Nat.mul_div_cancel_left _ g0
  have e2 : t / g = q := by rw [hq]; exact Nat.mul_div_cancel_left _ g0
  rw [e1, e2] at cop ⊢
  have q0 : 1 ≤ q := by
    rcases Nat.eq_zero_or_pos q with z | z
    · rw [z] at hq; omega
    · exact z
  refine ⟨by rw [hp, hq, Nat.mul_left_comm, Nat.mul_assoc], q0, ?_, fun h => ?_, fun k hk h1 h2 => ?_⟩
  · rw [hq]; exact Nat.le_mul_of_pos_left _ g0
  · rw [hp, hq] at h; exact Nat.le_of_mul_le_mul_left h g0
  · have := Nat.dvd_gcd h1 h2
    rw [show Nat.gcd p q = 1 from cop] at this
    have := Nat.le_of_dvd (by omega) this
    omega
theorem p_lowest {a t : Nat} (h1 : 1 ≤ t) (h2 : t ≤ 250) (h3 : a ≤ 250) : d_lowest [.int a, .int t] = .ok (.tup [.int ((a / Nat.gcd a t : Nat) : Int), .int ((t / Nat.gcd a t : Nat) : Int)]) := by
  have hs := size_ge
  refine Ok.eq ?_
  unfold d_lowest m_lowest
  rw [ok_nox, k_run]
  refine seq_cut (fun S => S = [(some (Sl.mk false (.int a))), (some (Sl.mk false (.int t))), (some (Sl.mk false (.int a))), (some (Sl.mk false (.int t)))]) (by simp? only [putS]) ?_
  rintro S rfl
  refine seq_cut (fun S => S = [(some (Sl.mk false (.int a))), (some (Sl.mk false (.int t))), (some (Sl.mk false (.int (Nat.gcd a t : Nat)))), (some (Sl.mk false (.int 0)))]) ?_ ?_
  · refine while_inv (fun m S => ∃ x y : Nat, m = y ∧ Nat.gcd x y = Nat.gcd a t ∧ x ≤ 250 ∧ y ≤ 250 ∧ S = [(some (Sl.mk false (.int a))), (some (Sl.mk false (.int t))), (some (Sl.mk false (.int x))), (some (Sl.mk false (.int y)))]) t 300 _ (by omega) ⟨a, t, rfl, rfl, h3, h2, rfl⟩ ?_
    rintro m S ⟨x, y, rfl, hg, hx, hm, rfl⟩
    have e0 : Ok (tB' (e2 gtD (eW 3) (eI (0))) [(some (Sl.mk false (.int a))), (some (Sl.mk false (.int t))), (some (Sl.mk false (.int x))), (some (Sl.mk false (.int m)))]) fun b => b = decide ((0 : Int) < (m : Int)) := by simp? only []
    refine e0.mono ?_
    rintro _ rfl
    refine ⟨fun h => ?_, fun h => ?_⟩
    · have h : 0 < m := by have := of_decide_eq_true h; omega
      have e1 : (x : Int) % (m : Int) = ((x % m : Nat) : Int) := by simp
      simp? only [putS]
      rw [e1]
      have := Nat.mod_lt x h
      refine ⟨by omega, x % m, by omega, m, ?_, hm, by omega, rfl⟩
      rw [← hg, Nat.gcd_comm x m, Nat.gcd_rec m x, Nat.gcd_comm]
    · have h : m = 0 := by have := of_decide_eq_false h; omega
      subst h
      rw [Nat.gcd_zero_right] at hg
      rw [hg]
      exact ⟨rfl, rfl⟩
  rintro S rfl
  have g0 : 0 < Nat.gcd a t := Nat.gcd_pos_of_pos_right _ (by omega)
  have g1 : Nat.gcd a t ≤ t := Nat.gcd_le_right _ (by omega)
  simp? only []
  refine ⟨div_c (by omega) (by omega), div_c (by omega) (by omega), ?_⟩
  rfl
def mP (xs : List P2i) : Nat := (bits xs).toNat / Nat.gcd (bits xs).toNat xs.length
def mQ (xs : List P2i) : Nat := xs.length / Nat.gcd (bits xs).toNat xs.length
theorem p_mean {R : List Int} {T : Int → List P2i} {xs : List P2i} (V : TabV R T) (lR : R.length ≤ 130) (h : Lp R T xs) : Low (bits xs).toNat xs.length (mP xs) (mQ xs) ∧ d_mean_of [.lst (xs.map pD2)] = .ok (.tup [.int (mP xs : Nat), .int (mQ xs : Nat)]) := by
  obtain ⟨b0, b1, b2⟩ := h.b V
  have hl := h.ln
  refine ⟨low_gcd (a := (bits xs).toNat) b2, ?_⟩
  have el := p_lowest (a := (bits xs).toNat) (t := xs.length) b2 (by omega) (by omega)
  rw [show (((bits xs).toNat : Nat) : Int) = bits xs by omega] at el
  refine Ok.eq ?_
  unfold d_mean_of m_mean_of
  rw [ok_nox, k_run]
  simp? only []
  refine k_lcM pD2 (fun p => .int p.2) xs ?_ (by have := size_ge; omega) ?_ ?_
  · simp? only []
  · intro p hp
    simp? only [k_g2p, wipeS]
  · have e1 : sumAD (.lst (xs.map fun p => D.int p.2)) = .ok (.int (bits xs)) := by
      have : asI (xs.map fun p => D.int p.2) = some (xs.map (·.2)) := asI_mapf _ xs
      show (match asI (xs.map fun p => D.int p.2) with | some ns => M.R.ok (D.int ns.sum) | none => .fail) = _
      rw [this]; rfl
    rw [e1, ok_ok, el, ok_ok]
    rfl
set_option Elab.async false
set_option linter.all false
set_option maxRecDepth 100000
open M PySem L2
theorem p_some_loop {R : List Int} {T : Int → List P2i} (V : TabV R T) (lR : R.length ≤ 130) {s0 : Int} (h0 : s0 ∈ R) : ∃ xs, Lp R T xs ∧ d_some_loop [tabD true R T, .int s0] = .ok (.lst (xs.map pD2)) := by
  have hs := size_ge
  suffices h : Ok (d_some_loop [tabD true R T, .int s0]) fun d => ∃ xs, Lp R T xs ∧ d = .lst (xs.map pD2) by
    obtain ⟨d, e, xs, h1, rfl⟩ := h
    exact ⟨xs, h1, e⟩
  unfold d_some_loop m_some_loop
  rw [ok_nox, k_run]
  refine seq_cut (fun S => S = [(some (Sl.mk false (tabD true R T))), (some (Sl.mk false (.int s0))), (some (Sl.mk true (imD false [] fun _ => .int 0))), none, none, none]) (by simp? only []; rfl) ?_
  rintro S rfl
  refine seq_cut (fun S => S = [(some (Sl.mk false (tabD true R T))), (some (Sl.mk false (.int s0))), (some (Sl.mk true (imD false [] fun _ => .int 0))), (some (Sl.mk true (.lst []))), none, none]) (by simp? only []) ?_
  rintro S rfl
  refine seq_cut (fun S => ∃ (ws : List P2i) (h : Int → Nat) (s : Int) (a b : Option Sl), (ws.map (·.1)).Nodup ∧ (∀ x ∈ ws.map (·.1), x ∈ R) ∧ (∀ i x, (ws.map (·.1))[i]? = some x → h x = i) ∧ Wk T s0 ws s ∧ s ∈ ws.map (·.1) ∧
    S = [(some (Sl.mk false (tabD true R T))), (some (Sl.mk false (.int s))), (some (Sl.mk true (imD false (ws.map (·.1)) fun y => .int (h y)))), (some (Sl.mk true (.lst (ws.map pD2)))), a, b]) ?_ ?_
  · refine while_inv (fun m S => ∃ (ws : List P2i) (h : Int → Nat) (s : Int) (a b : Option Sl), (ws.map (·.1)).Nodup ∧ (∀ x ∈ ws.map (·.1), x ∈ R) ∧ (∀ i x, (ws.map (·.1))[i]? = some x → h x = i) ∧ Wk T s0 ws s ∧ s ∈ R ∧ m = R.length - ws.length ∧
      S = [(some (Sl.mk false (tabD true R T))), (some (Sl.mk false (.int s))), (some (Sl.mk true (imD false (ws.map (·.1)) fun y => .int (h y)))), (some (Sl.mk true (.lst (ws.map pD2)))), a, b]) (R.length - 0) 300 _ (by omega) ⟨[], fun _ => 0, s0, none, none, by simp, by simp, by simp, rfl, h0, rfl, rfl⟩ ?_
    rintro m S ⟨ws, h, s, a, b, nd, sub, ix, wk, hsR, rfl, rfl⟩
    have lw : ws.length ≤ R.length := by have := nd_le nd sub; rwa [List.length_map] at this
    have nin : notInA (.int s) (imD false (ws.map (·.1)) fun y => .int (h y)) = .ok (.bl (!decide (s ∈ ws.map (·.1)))) := by
      unfold notInA; rw [dlook_im]
      by_cases hx : s ∈ ws.map (·.1)
      · rw [if_pos hx, decide_eq_true hx]; rfl
      · rw [if_neg hx, decide_eq_false hx]; rfl
    have e0 : Ok (tB' (e2 notInA (eW 1) (eW 2)) [(some (Sl.mk false (tabD true R T))), (some (Sl.mk false (.int s))), (some (Sl.mk true (imD false (ws.map (·.1)) fun y => .int (h y)))), (some (Sl.mk true (.lst (ws.map pD2)))), a, b]) fun b => b = !decide (s ∈ ws.map (·.1)) := by simp? only [nin]
    refine e0.mono ?_
    rintro _ rfl
    refine ⟨fun hb => ?_, fun hb => ?_⟩
    · have hn : s ∉ ws.map (·.1) := by simpa using hb
      have lw2 : ws.length < R.length := by
        have := nd_le (a := ws.map (·.1) ++ [s]) (b := R) (List.nodup_append.mpr ⟨nd, by simp, fun x hx y hy => by rw [List.mem_singleton] at hy; subst hy; exact fun z => hn (z ▸ hx)⟩) fun x hx => (List.mem_append.mp hx).elim (sub x) fun z => by rw [List.mem_singleton.mp z]; exact hsR
        rw [List.length_append, List.length_map, List.length_singleton] at this
        omega
      obtain ⟨p, r, ep⟩ := List.exists_cons_of_ne_nil (V.te s hsR)
      have hp : p ∈ T s := by rw [ep]; exact List.mem_cons_self ..
      have ixT : ixA (tabD true R T) (.int s) = .ok (.lst (pD2 p :: r.map pD2)) := by unfold tabD; rw [ix_im hsR, ep]; rfl
      have lF : (ws.map (·.1)).length < sizeLine := by rw [List.length_map]; omega
      refine seq_cut (fun S => S = [(some (Sl.mk false (tabD true R T))), (some (Sl.mk false (.int s))), (some (Sl.mk true (imD false (ws.map (·.1) ++ [s]) fun y => .int (if y = s then ws.length else h y : Nat)))), (some (Sl.mk true (.lst (ws.map pD2)))), a, b]) ?_ ?_
      · simp? only [put_im nd lF, if_neg hn]
        have ef : (fun y => if y = s then D.int (ws.length : Nat) else D.int (h y : Nat)) = fun y => D.int ((if y = s then ws.length else h y : Nat) : Int) := by funext y; split <;> rfl
        rw [ef]
      rintro S rfl
      refine seq_cut (fun S => S = [(some (Sl.mk false (tabD true R T))), (some (Sl.mk false (.int s))), (some (Sl.mk true (imD false (ws.map (·.1) ++ [s]) fun y => .int (if y = s then ws.length else h y : Nat)))), (some (Sl.mk true (.lst (ws.map pD2)))), (some (Sl.mk false (.int p.1))), (some (Sl.mk false (.int p.2)))]) ?_ ?_
      · simp? only [ixT]
        refine ⟨_, atI_0, ?_⟩
        unfold pD2
        simp? only []
      rintro S rfl
      simp? only []
      refine ⟨by omega, R.length - (ws ++ [(s, p.1)]).length, by simp; omega, ws ++ [(s, p.1)], fun y => if y = s then ws.length else h y, p.2, (some (Sl.mk false (.int p.1))), (some (Sl.mk false (.int p.2))), ?_, ?_, ?_, ?_, V.tc s hsR p hp, rfl, ?_⟩
      · rw [List.map_append]
        exact List.nodup_append.mpr ⟨nd, by simp, fun x hx y hy => by
          have hy : y = s := by simpa using hy
          subst hy; exact fun z => hn (z ▸ hx)⟩
      · intro x hx
        rw [List.map_append] at hx
        rcases List.mem_append.mp hx with hx | hx
        · exact sub x hx
        · have : x = s := by simpa using hx
          rw [this]; exact hsR
      · intro i x hx
        rw [List.map_append] at hx
        by_cases hi : i < (ws.map (·.1)).length
        · rw [List.getElem?_append_left hi] at hx
          have : x ≠ s := fun z => hn (z ▸ List.mem_of_getElem? hx)
          dsimp only
          rw [if_neg this]
          exact ix i x hx
        · rw [List.getElem?_append_right (by omega)] at hx
          have hi2 : i - (ws.map (·.1)).length = 0 := by
            have := (List.getElem?_eq_some_iff.mp hx).1
            simp at this; simp; omega
          rw [hi2] at hx
          have : s = x := by simpa using hx
          dsimp only
          rw [if_pos this.symm]
          rw [List.length_map] at *
          omega
      · exact wk_app.mpr ⟨s, wk, wk_one.mpr ⟨rfl, hp⟩⟩
      · rw [List.map_append, List.map_append]; rfl
    · have hn : s ∈ ws.map (·.1) := by simpa using hb
      exact ⟨rfl, ws, h, s, a, b, nd, sub, ix, wk, hn, rfl⟩
  rintro S ⟨ws, h, s, a, b, nd, sub, ix, wk, hn, rfl⟩
  have lw : ws.length ≤ R.length := by have := nd_le nd sub; rwa [List.length_map] at this
  obtain ⟨j, hj⟩ := List.getElem?_of_mem hn
  have hj2 := (List.getElem?_eq_some_iff.mp hj).1
  rw [List.length_map] at hj2
  have hh := ix j s hj
  simp? only [ix_im hn]
  rw [hh, cut_drop (by omega), Int.toNat_natCast]
  refine ⟨ws.drop j, ⟨?_, by rw [List.length_drop]; omega, s, sub s hn, ?_⟩, rfl⟩
  · intro z
    have := congrArg List.length z
    rw [List.length_drop] at this
    simp at this
    omega
  · rw [← List.take_append_drop j ws] at wk
    obtain ⟨u, w1, w2⟩ := wk_app.mp wk
    have ed : ws.drop j = ws[j] :: ws.drop (j + 1) := List.drop_eq_getElem_cons hj2
    have es : ws[j].1 = s := by
      rw [List.getElem?_map, List.getElem?_eq_getElem hj2] at hj
      simpa using hj
    have : u = s := by
      rw [ed] at w2
      exact w2.1.symm.trans es
    rw [this] at w2
    exact w2
set_option Elab.async false
set_option linter.all false
set_option maxRecDepth 100000
open M PySem L2
def cof (g t b : Int) : Int := t * b - g
def Bk (C : Int → Option P2i) : Int → List P2i → Int → Prop
  | x, [], y => x = y
  | x, p :: ps, y => C x = some p ∧ Bk C p.1 ps y
def wsum (g t : Int) (ps : List P2i) : Int := (ps.map fun p => cof g t p.2).sum
theorem wsum_cons (g t : Int) (p : P2i) (ps : List P2i) : wsum g t (p :: ps) = cof g t p.2 + wsum g t ps := by unfold wsum; rw [List.map_cons, List.sum_cons]
def upd1 {α : Type} (f : Int → α) (k : Int) (v : α) : Int → α := fun y => if y = k then v else f y
theorem upd1_s {α : Type} {f : Int → α} {k : Int} {v : α} : upd1 f k v k = v := if_pos rfl
theorem upd1_n {α : Type} {f : Int → α} {k y : Int} {v : α} (h : y ≠ k) : upd1 f k v y = f y := if_neg h
structure BF (R : List Int) (T : Int → List P2i) (g t : Int) (k : Nat) (dn : List T3) (N : Int → Int) (C : Int → Option P2i) (l : Int → Nat) (low : List Int) : Prop where
  i1 : ∀ e ∈ dn, N e.1 + cof g t e.2.1 < N e.2.2 → k ≤ l e.1
  i2 : ∀ s ∈ R, ∀ p ∈ T s, N s + cof g t p.1 < N p.2 → k ≤ l s + 1
  i3 : ∀ v p, C v = some p → p.1 ∈ R ∧ (p.2, v) ∈ T p.1 ∧ N p.1 + cof g t p.2 ≤ N v ∧ l v ≤ l p.1 + 1
  i4 : ∀ v, C v = none → l v = 0
  i5 : ∀ v, l v ≤ k
  i6 : ∀ x ps, ps ≠ [] → Bk C x ps x → wsum g t ps < 0
  i7 : (low = [] → ∀ v, l v < k) ∧ ∀ v ∈ low, l v = k ∧ v ∈ R
theorem bf_pot {R : List Int} {T : Int → List P2i} {g t : Int} {k : Nat} {dn : List T3} {N : Int → Int} {C : Int → Option P2i} {l : Int → Nat} {low : List Int} (I : BF R T g t k dn N C l low) {s : Int} {p : P2i} (hn : N s + cof g t p.1 < N p.2) :
    ∀ (ps : List P2i) (x y : Int), Bk (upd1 C p.2 (some (s, p.1))) x ps y → N y + wsum g t ps ≤ N x ∧ (Bk C x ps y ∨ N y + wsum g t ps < N x)
  | [], x, y, h => by cases h; exact ⟨by unfold wsum; simp, .inl rfl⟩
  | q :: ps, x, y, ⟨h1, h2⟩ => by
    obtain ⟨a, b⟩ := bf_pot I hn ps q.1 y h2
    rw [wsum_cons]
    by_cases hx : x = p.2
    · subst hx
      rw [upd1_s] at h1
      injection h1 with h1
      subst h1
      dsimp only at a hn ⊢
      exact ⟨by omega, .inr (by omega)⟩
    · rw [upd1_n hx] at h1
      have h3 := (I.i3 x q h1).2.2.1
      refine ⟨by omega, ?_⟩
      rcases b with b | b
      · exact .inl ⟨h1, b⟩
      · exact .inr (by omega)
theorem BF.put {R : List Int} {T : Int → List P2i} {g t : Int} {k : Nat} {dn : List T3} {N : Int → Int} {C : Int → Option P2i} {l : Int → Nat} {low : List Int} (I : BF R T g t k dn N C l low) {s : Int} {p : P2i} (hs : s ∈ R) (hp : p ∈ T s) (hc : p.2 ∈ R) (hn : N s + cof g t p.1 < N p.2) :
    BF R T g t k (dn ++ [(s, p.1, p.2)]) (upd1 N p.2 (N s + cof g t p.1)) (upd1 C p.2 (some (s, p.1))) (upd1 l p.2 k) (low ++ [p.2]) := by
  have down : ∀ y, upd1 N p.2 (N s + cof g t p.1) y ≤ N y := fun y => by
    by_cases hy : y = p.2
    · subst hy; rw [upd1_s]; omega
    · rw [upd1_n hy]; exact Int.le_refl _
  have up : ∀ y, l y ≤ upd1 l p.2 k y := fun y => by
    by_cases hy : y = p.2
    · subst hy; rw [upd1_s]; exact I.i5 _
    · rw [upd1_n hy]; exact Nat.le_refl _
  have ks := I.i2 s hs p hp hn
  refine ⟨fun e he h => ?_, fun s' hs' p' hp' h => ?_, fun v q h => ?_, fun v h => ?_, fun v => ?_, fun x ps ne h => ?_, ?_, ?_⟩
  · by_cases h1 : e.1 = p.2
    · rw [h1, upd1_s]; exact Nat.le_refl _
    · rw [upd1_n h1] at h ⊢
      have := down e.2.2
      rcases List.mem_append.mp he with he | he
      · exact I.i1 e he (by omega)
      · rw [List.mem_singleton.mp he] at h this
        dsimp only at h
        rw [upd1_s] at h
        omega
  · by_cases h1 : s' = p.2
    · rw [h1, upd1_s]; omega
    · rw [upd1_n h1] at h ⊢
      have := down p'.2
      exact I.i2 s' hs' p' hp' (by omega)
  · by_cases h1 : v = p.2
    · subst h1
      rw [upd1_s] at h
      injection h with h
      subst h
      dsimp only
      rw [upd1_s, upd1_s]
      have := down s
      have := up s
      exact ⟨hs, hp, by omega, by omega⟩
    · rw [upd1_n h1] at h
      obtain ⟨a, b, c, d⟩ := I.i3 v q h
      rw [upd1_n h1, upd1_n h1]
      have := down q.1
      have := up q.1
      exact ⟨a, b, by omega, by omega⟩
  · by_cases h1 : v = p.2
    · subst h1; rw [upd1_s] at h; cases h
    · rw [upd1_n h1] at h ⊢; exact I.i4 v h
  · by_cases h1 : v = p.2
    · subst h1; rw [upd1_s]; exact Nat.le_refl _
    · rw [upd1_n h1]; exact I.i5 v
  · rcases (bf_pot I hn ps x x h).2 with b | b
    · exact I.i6 x ps ne b
    · omega
  · intro h; simp at h
  · intro v hv
    rcases List.mem_append.mp hv with hv | hv
    · obtain ⟨a1, a2⟩ := I.i7.2 v hv
      have := up v
      have h5 : upd1 l p.2 k v ≤ k := by
        by_cases h1 : v = p.2
        · subst h1; rw [upd1_s]; exact Nat.le_refl _
        · rw [upd1_n h1]; exact I.i5 v
      exact ⟨by omega, a2⟩
    · rw [List.mem_singleton.mp hv, upd1_s]; exact ⟨rfl, hc⟩
theorem BF.skip {R : List Int} {T : Int → List P2i} {g t : Int} {k : Nat} {dn : List T3} {N : Int → Int} {C : Int → Option P2i} {l : Int → Nat} {low : List Int} (I : BF R T g t k dn N C l low) {s : Int} {p : P2i} (hn : ¬ N s + cof g t p.1 < N p.2) :
    BF R T g t k (dn ++ [(s, p.1, p.2)]) N C l low :=
  ⟨fun e he h => by
    rcases List.mem_append.mp he with he | he
    · exact I.i1 e he h
    · rw [List.mem_singleton.mp he] at h; exact absurd h hn, I.i2, I.i3, I.i4, I.i5, I.i6, I.i7⟩
theorem bk_none {C : Int → Option P2i} (h : ∀ v, C v = none) {x y : Int} : ∀ {ps : List P2i}, ps ≠ [] → ¬ Bk C x ps y
  | [], ne, _ => ne rfl
  | p :: ps, _, ⟨h1, _⟩ => by rw [h] at h1; cases h1
theorem BF.zero (R : List Int) (T : Int → List P2i) (g t : Int) : BF R T g t 1 [] (fun _ => 0) (fun _ => none) (fun _ => 0) [] :=
  ⟨by simp, fun _ _ _ _ _ => by omega, fun _ _ h => (nomatch h), fun _ _ => rfl, fun _ => by omega, fun x ps ne h => absurd h (bk_none (fun _ => rfl) ne), fun _ _ => by omega, by simp⟩
def edT (T : Int → List P2i) (s : Int) : List T3 := (T s).map fun p => (s, p.1, p.2)
theorem BF.next {R : List Int} {T : Int → List P2i} {g t : Int} {k : Nat} {N : Int → Int} {C : Int → Option P2i} {l : Int → Nat} {low : List Int} (I : BF R T g t k (R.flatMap (edT T)) N C l low) : BF R T g t (k + 1) [] N C l [] :=
  ⟨by simp, fun s hs p hp h => by
    have := I.i1 (s, p.1, p.2) (List.mem_flatMap.mpr ⟨s, hs, List.mem_map.mpr ⟨p, hp, rfl⟩⟩) h
    dsimp only at this
    omega, I.i3, I.i4, fun v => by have := I.i5 v; omega, I.i6, fun _ v => by have := I.i5 v; omega, by simp⟩
theorem BF.bear {R : List Int} {T : Int → List P2i} {g t : Int} {k : Nat} {N : Int → Int} {C : Int → Option P2i} {l : Int → Nat} (I : BF R T g t k (R.flatMap (edT T)) N C l []) : ∀ s ∈ R, ∀ p ∈ T s, N p.2 ≤ N s + cof g t p.1 := fun s hs p hp => by
  refine Int.not_lt.mp fun h => ?_
  have := I.i1 (s, p.1, p.2) (List.mem_flatMap.mpr ⟨s, hs, List.mem_map.mpr ⟨p, hp, rfl⟩⟩) h
  have := I.i7.1 rfl s
  dsimp only at *
  omega
def prC (C : Int → Option P2i) (x : Int) : Int := match C x with | some p => p.1 | none => x
def itC (C : Int → Option P2i) : Nat → Int → Int
  | 0, x => x
  | n + 1, x => prC C (itC C n x)
theorem itC_add (C : Int → Option P2i) (m : Nat) (x : Int) : ∀ n, itC C (m + n) x = itC C n (itC C m x)
  | 0 => rfl
  | n + 1 => by show prC C (itC C (m + n) x) = prC C (itC C n (itC C m x)); rw [itC_add C m x n]
theorem pigeon {R : List Int} (f : Nat → Int) (h : ∀ i ≤ R.length, f i ∈ R) : ∃ i j, i < j ∧ j ≤ R.length ∧ f i = f j := by
  refine Classical.byContradiction fun hc => ?_
  have nd : ((List.range (R.length + 1)).map f).Nodup := nd_map f List.nodup_range fun a ha b hb e => by
    have ha := List.mem_range.mp ha
    have hb := List.mem_range.mp hb
    rcases Nat.lt_trichotomy a b with z | z | z
    · exact absurd ⟨a, b, z, by omega, e⟩ hc
    · exact z
    · exact absurd ⟨b, a, z, by omega, e.symm⟩ hc
  have := nd_le nd fun x hx => by
    obtain ⟨i, hi, rfl⟩ := List.mem_map.mp hx
    have := List.mem_range.mp hi
    exact h i (by omega)
  rw [List.length_map, List.length_range] at this
  omega
structure Ret (R : List Int) (C : Int → Option P2i) (c : Int) (m : Nat) : Prop where
  m1 : 1 ≤ m
  mR : m ≤ R.length
  al : ∀ a, itC C a c ∈ R ∧ C (itC C a c) ≠ none
  re : itC C m c = c
theorem BF.back {R : List Int} {T : Int → List P2i} {g t : Int} {k : Nat} {dn : List T3} {N : Int → Int} {C : Int → Option P2i} {l : Int → Nat} {low : List Int} (I : BF R T g t k dn N C l low) {v : Int} (hv : v ∈ R) (hl : R.length ≤ l v) :
    (∀ a, a ≤ R.length → itC C a v ∈ R ∧ (a < R.length → C (itC C a v) ≠ none)) ∧ ∃ m, Ret R C (itC C R.length v) m := by
  have st : ∀ a, a ≤ R.length → itC C a v ∈ R ∧ R.length ≤ l (itC C a v) + a := by
    intro a
    induction a with
    | zero => intro _; exact ⟨hv, hl⟩
    | succ a ih =>
      intro ha
      obtain ⟨h1, h2⟩ := ih (by omega)
      cases e : C (itC C a v) with
      | none => have := I.i4 _ e; omega
      | some p =>
        obtain ⟨b1, _, _, b4⟩ := I.i3 _ p e
        have e2 : itC C (a + 1) v = p.1 := by show prC C (itC C a v) = _; unfold prC; rw [e]
        rw [e2]
        exact ⟨b1, by omega⟩
  have first : ∀ a, a ≤ R.length → itC C a v ∈ R ∧ (a < R.length → C (itC C a v) ≠ none) := fun a ha => by
    obtain ⟨h1, h2⟩ := st a ha
    refine ⟨h1, fun h e => ?_⟩
    have := I.i4 _ e
    omega
  refine ⟨first, ?_⟩
  obtain ⟨i, j, hij, hj, e⟩ := pigeon (fun a => itC C a v) fun a ha => (first a ha).1
  have per : ∀ d, itC C (j + d) v = itC C (i + d) v := fun d => by rw [itC_add, itC_add, e]
  have low : ∀ a, ∃ b, b < R.length ∧ itC C a v = itC C b v := by
    intro a
    induction a using Nat.strongRecOn with
    | ind a ih =>
      by_cases ha : a < R.length
      · exact ⟨a, ha, rfl⟩
      · obtain ⟨b, hb, eb⟩ := ih (i + (a - j)) (by omega)
        refine ⟨b, hb, ?_⟩
        rw [← eb, ← per, show j + (a - j) = a by omega]
  refine ⟨j - i, by omega, by omega, fun a => ?_, ?_⟩
  · rw [← itC_add]
    obtain ⟨b, hb, eb⟩ := low (R.length + a)
    rw [eb]
    have := first b (by omega)
    exact ⟨this.1, this.2 hb⟩
  · rw [← itC_add, show R.length + (j - i) = j + (R.length - i) by omega, per, show i + (R.length - i) = R.length by omega]
theorem bk_snoc {C : Int → Option P2i} : ∀ {ps : List P2i} {x y : Int} {p : P2i}, Bk C x ps y → C y = some p → Bk C x (ps ++ [p]) p.1
  | [], x, y, p, h, e => by cases h; exact ⟨e, rfl⟩
  | q :: ps, x, y, p, ⟨h1, h2⟩, e => ⟨h1, bk_snoc h2 e⟩
theorem bk_wk {R : List Int} {T : Int → List P2i} {C : Int → Option P2i} (h3 : ∀ v p, C v = some p → p.1 ∈ R ∧ (p.2, v) ∈ T p.1) : ∀ {ps : List P2i} {x y : Int}, Bk C x ps y → Wk T y ps.reverse x
  | [], x, y, h => by cases h; exact rfl
  | p :: ps, x, y, ⟨h1, h2⟩ => by
    rw [List.reverse_cons]
    exact wk_app.mpr ⟨p.1, bk_wk h3 h2, wk_one.mpr ⟨rfl, (h3 x p h1).2⟩⟩
theorem bits_rev (xs : List P2i) : bits xs.reverse = bits xs := by
  unfold bits
  rw [List.map_reverse, List.sum_reverse]
theorem wsum_bits (g t : Int) : ∀ ps : List P2i, wsum g t ps = t * bits ps - g * ps.length
  | [] => by simp [wsum, bits]
  | p :: ps => by
    rw [wsum_cons, wsum_bits g t ps]
    unfold bits cof
    rw [List.map_cons, List.sum_cons, List.length_cons, Int.mul_add, show ((ps.length + 1 : Nat) : Int) = (ps.length : Int) + 1 by omega, Int.mul_add, Int.mul_one]
    omega
set_option Elab.async false
set_option linter.all false
set_option maxRecDepth 100000
open M PySem L2
def cD : Option P2i → D
  | none => .non
  | some p => pD2 p
def cameD (R : List Int) (C : Int → Option P2i) : D := imD false R fun s => cD (C s)
def numD (R : List Int) (N : Int → Int) : D := imD false R fun s => .int (N s)
theorem len_im {R : List Int} {h : Int → D} : lenD (imD false R h) = .ok (.int R.length) := by
  show M.R.ok (D.int ((R.map (Sum.inl : Int → Key)).length : Nat)) = _
  rw [List.length_map]
theorem atI_snoc {α : Type} (xs : List α) (x : α) : L2.atI (xs ++ [x]) (-1) = some x := by
  unfold L2.atI ixN
  rw [if_neg (by decide), if_pos (by simp; omega)]
  rw [show ((-1 : Int) + (((xs ++ [x]).length : Nat) : Int)).toNat = xs.length by simp; omega]
  show (xs ++ [x])[xs.length]? = _
  rw [List.getElem?_append_right (Nat.le_refl _)]
  simp
theorem p_behind {R : List Int} {T : Int → List P2i} {C : Int → Option P2i} {v : Int} {m : Nat} (lR : R.length ≤ 130) (h3 : ∀ v p, C v = some p → p.1 ∈ R ∧ (p.2, v) ∈ T p.1) (hf : ∀ a, a ≤ R.length → itC C a v ∈ R ∧ (a < R.length → C (itC C a v) ≠ none))
    (hr : Ret R C (itC C R.length v) m) : ∃ ps, ps ≠ [] ∧ Bk C (itC C R.length v) ps (itC C R.length v) ∧ Lp R T ps.reverse ∧ d_loop_behind [cameD R C, .int v] = .ok (.lst (ps.reverse.map pD2)) := by
  have hs := size_ge
  suffices h : Ok (d_loop_behind [cameD R C, .int v]) fun d => ∃ ps, ps ≠ [] ∧ Bk C (itC C R.length v) ps (itC C R.length v) ∧ Lp R T ps.reverse ∧ d = .lst (ps.reverse.map pD2) by
    obtain ⟨d, e, ps, h1, h2, h3, rfl⟩ := h
    exact ⟨ps, h1, h2, h3, e⟩
  unfold d_loop_behind m_loop_behind
  rw [ok_nox, k_run]
  refine seq_cut (fun S => ∃ a, S = [(some (Sl.mk false (cameD R C))), (some (Sl.mk false (.int (itC C R.length v)))), a, none]) ?_ ?_
  · have el : lenD (cameD R C) = .ok (.int R.length) := len_im
    simp? only [el]
    refine ⟨by omega, ?_⟩
    rw [Int.toNat_natCast]
    refine for_inv (fun i S => ∃ a, S = [(some (Sl.mk false (cameD R C))), (some (Sl.mk false (.int (itC C i v)))), a, none]) _ 0 _ ⟨none, rfl⟩ ?_ ?_
    · rintro i d S hd ⟨a, rfl⟩
      obtain ⟨hi, rfl⟩ := rngL_get hd
      rw [Nat.zero_add]
      obtain ⟨h1, h2⟩ := hf i (by omega)
      obtain ⟨p, ep⟩ := Option.ne_none_iff_exists'.mp (h2 hi)
      have ix : ixA (cameD R C) (.int (itC C i v)) = .ok (pD2 p) := by unfold cameD; rw [ix_im h1, ep]; rfl
      have e2 : itC C (i + 1) v = p.1 := by show prC C (itC C i v) = _; unfold prC; rw [ep]
      unfold pD2 at ix
      simp? only [ix]
      rw [e2]
      exact ⟨_, atI_0, _, rfl⟩
    · rintro S ⟨a, rfl⟩
      rw [rngL_len, Nat.zero_add]
      exact ⟨rfl, _, rfl⟩
  rintro S ⟨a, rfl⟩
  generalize itC C R.length v = c at hr ⊢
  have cs : ∀ a, ∃ p, C (itC C a c) = some p ∧ itC C (a + 1) c = p.1 := fun a => by
    obtain ⟨p, ep⟩ := Option.ne_none_iff_exists'.mp (hr.al a).2
    exact ⟨p, ep, by show prC C (itC C a c) = _; unfold prC; rw [ep]⟩
  have cix : ∀ a p, C (itC C a c) = some p → ixA (cameD R C) (.int (itC C a c)) = .ok (pD2 p) := fun a p ep => by unfold cameD; rw [ix_im (hr.al a).1, ep]; rfl
  obtain ⟨p0, ep0, en0⟩ := cs 0
  refine seq_cut (fun S => S = [(some (Sl.mk false (cameD R C))), (some (Sl.mk false (.int c))), a, (some (Sl.mk true (.lst ([p0].map pD2))))]) ?_ ?_
  · have := cix 0 p0 ep0
    have this : ixA (cameD R C) (.int c) = .ok (pD2 p0) := this
    simp? only [this]
  rintro S rfl
  refine seq_cut (fun S => ∃ (ps : List P2i), ps ≠ [] ∧ Bk C c ps c ∧ ps.length ≤ R.length ∧ S = [(some (Sl.mk false (cameD R C))), (some (Sl.mk false (.int c))), a, (some (Sl.mk true (.lst (ps.map pD2))))]) ?_ ?_
  · refine while_inv (fun w S => ∃ (i : Nat) (ps : List P2i) (q : P2i), w = m - i ∧ i + 1 ≤ m ∧ ps.length = i ∧ Bk C c (ps ++ [q]) q.1 ∧ q.1 = itC C (i + 1) c ∧ S = [(some (Sl.mk false (cameD R C))), (some (Sl.mk false (.int c))), a, (some (Sl.mk true (.lst ((ps ++ [q]).map pD2))))]) (m - 0) 300 _ (by have := hr.mR; omega) ⟨0, [], p0, rfl, hr.m1, rfl, ⟨ep0, rfl⟩, en0.symm, rfl⟩ ?_
    rintro w S ⟨i, ps, q, rfl, him, hl, hb, hq, rfl⟩
    have hmR := hr.mR
    have al : L2.atI ((ps ++ [q]).map pD2) (-1) = some (pD2 q) := by rw [List.map_append]; exact atI_snoc _ _
    have e0 : Ok (tB' (e2 neD (e2 ixA (e2 ixA (eW 3) (e1 negD (eI (1)))) (eI (0))) (eW 1)) [(some (Sl.mk false (cameD R C))), (some (Sl.mk false (.int c))), a, (some (Sl.mk true (.lst ((ps ++ [q]).map pD2))))]) fun b => b = !decide (q.1 = c) := by
      simp? only [al]
      refine ⟨_, rfl, ?_⟩
      simp? only []
    refine e0.mono ?_
    rintro _ rfl
    refine ⟨fun h => ?_, fun h => ?_⟩
    · have h : q.1 ≠ c := by simpa using h
      have hlt : i + 1 < m := by
        rcases Nat.lt_or_ge (i + 1) m with z | z
        · exact z
        · have : i + 1 = m := by omega
          rw [this, hr.re] at hq
          exact absurd hq h
      obtain ⟨p1, ep1, en1⟩ := cs (i + 1)
      have ixq := cix (i + 1) p1 ep1
      rw [← hq] at ixq ep1
      have e1 : Ok (e2 ixA (eW 0) (e2 ixA (e2 ixA (eW 3) (e1 negD (eI (1)))) (eI (0))) [(some (Sl.mk false (cameD R C))), (some (Sl.mk false (.int c))), a, (some (Sl.mk true (.lst ((ps ++ [q]).map pD2))))]) fun d => d = pD2 p1 := by
        simp? only [al]
        refine ⟨_, rfl, ?_⟩
        simp? only [ixq]
      obtain ⟨d, e1, rfl⟩ := e1
      rw [k_app]
      simp? only [e1]
      refine ⟨by rw [List.length_append, hl]; simp; omega, m - (i + 1), by omega, i + 1, ps ++ [q], p1, rfl, by omega, by rw [List.length_append, hl]; rfl, bk_snoc hb ep1, en1.symm, by simp⟩
    · have h : q.1 = c := by simpa using h
      rw [h] at hb
      exact ⟨rfl, ps ++ [q], by simp, hb, by rw [List.length_append, hl]; simp; omega, rfl⟩
  rintro S ⟨ps, ne, hb, hl, rfl⟩
  simp? only []
  show Ok (.ok (D.lst (ps.map pD2).reverse)) _
  rw [ok_ok, ← List.map_reverse]
  exact ⟨ps, ne, hb, ⟨by simpa using ne, by rw [List.length_reverse]; exact hl, c, (hr.al 0).1, bk_wk h3 hb⟩, rfl⟩
set_option Elab.async false
set_option linter.all false
set_option maxRecDepth 100000
open M PySem L2
theorem seq_ret {QS : Fl × M.Env → Prop} {S : M.Env} {s r : FS} (P : M.Env → Prop) (B : D → Prop) (h : Ok (s S) fun z => (z.1 = .nx ∧ P z.2) ∨ ∃ d, z.1 = .rt d ∧ B d) (k : ∀ S', P S' → Ok (r S') QS) (kb : ∀ d S', B d → QS (.rt d, S')) : Ok (sSeq s r S) QS := by
  rw [k_seq]
  refine h.mono fun z hz => ?_
  obtain ⟨fl, S'⟩ := z
  rcases hz with ⟨rfl, hp⟩ | ⟨d, rfl, hp⟩
  · exact k S' hp
  · exact kb d S' hp
theorem num_put {N : Int → Int} {x n : Int} : (fun y => if y = x then D.int n else D.int (N y)) = fun y => D.int (upd1 N x n y) := by
  funext y
  by_cases h : y = x
  · rw [if_pos h, h, upd1_s]
  · rw [if_neg h, upd1_n h]
theorem came_put {C : Int → Option P2i} {x : Int} {p : P2i} : (fun y => if y = x then pD2 p else cD (C y)) = fun y => cD (upd1 C x (some p) y) := by
  funext y
  by_cases h : y = x
  · rw [if_pos h, h, upd1_s]; rfl
  · rw [if_neg h, upd1_n h]
theorem p_lesser {R : List Int} {T : Int → List P2i} (V : TabV R T) (lR : R.length ≤ 130) (lE : (R.flatMap (edT T)).length ≤ 400) {g t : Int} (hg : 0 ≤ g) (hgt : g ≤ t) (ht : t ≤ 200) :
    (∃ N : Int → Int, (∀ s ∈ R, ∀ p ∈ T s, N p.2 ≤ N s + cof g t p.1) ∧ d_lesser_loop [tabD true R T, .int g, .int t] = .ok (.tup [numD R N, .non])) ∨
    ∃ xs, Lp R T xs ∧ t * bits xs < g * xs.length ∧ d_lesser_loop [tabD true R T, .int g, .int t] = .ok (.tup [.non, .lst (xs.map pD2)]) := by
  have hs := size_ge
  suffices h : Ok (d_lesser_loop [tabD true R T, .int g, .int t]) fun d => (∃ N : Int → Int, (∀ s ∈ R, ∀ p ∈ T s, N p.2 ≤ N s + cof g t p.1) ∧ d = .tup [numD R N, .non]) ∨ ∃ xs, Lp R T xs ∧ t * bits xs < g * xs.length ∧ d = .tup [.non, .lst (xs.map pD2)] by
    obtain ⟨d, e, h⟩ := h
    rcases h with ⟨N, h, rfl⟩ | ⟨xs, h1, h2, rfl⟩
    · exact .inl ⟨N, h, e⟩
    · exact .inr ⟨xs, h1, h2, e⟩
  have ek : keysF (tabD true R T) = .ok (R.map .int) := by unfold tabD; rw [keys_im]
  have el : lenD (tabD true R T) = .ok (.int R.length) := by
    show M.R.ok (D.int ((R.map (Sum.inl : Int → Key)).length : Nat)) = _
    rw [List.length_map]
  have npos := List.length_pos_iff.mpr V.ne
  unfold d_lesser_loop m_lesser_loop
  rw [ok_nox, k_run]
  refine seq_cut (fun S => S = [(some (Sl.mk false (tabD true R T))), (some (Sl.mk false (.int g))), (some (Sl.mk false (.int t))), (some (Sl.mk true (numD [] fun _ => 0))), none, none, none, none, none, none, none]) (by simp? only []; rfl) ?_
  rintro S rfl
  refine seq_cut (fun S => S = [(some (Sl.mk false (tabD true R T))), (some (Sl.mk false (.int g))), (some (Sl.mk false (.int t))), (some (Sl.mk true (numD [] fun _ => 0))), (some (Sl.mk true (cameD [] fun _ => none))), none, none, none, none, none, none]) (by simp? only []; rfl) ?_
  rintro S rfl
  refine seq_cut (fun S => ∃ a, S = [(some (Sl.mk false (tabD true R T))), (some (Sl.mk false (.int g))), (some (Sl.mk false (.int t))), (some (Sl.mk true (numD R fun _ => 0))), (some (Sl.mk true (cameD R fun _ => none))), a, none, none, none, none, none]) ?_ ?_
  · simp? only [ek]
    refine for_typed D.int (fun done S => ∃ a, S = [(some (Sl.mk false (tabD true R T))), (some (Sl.mk false (.int g))), (some (Sl.mk false (.int t))), (some (Sl.mk true (numD done fun _ => 0))), (some (Sl.mk true (cameD done fun _ => none))), a, none, none, none, none, none]) R _ ⟨none, rfl⟩ ?_ ?_
    · rintro done x rest S eq ⟨a, rfl⟩
      have nd := V.nd
      rw [eq] at nd
      have nd1 := (List.nodup_append.mp nd).1
      have nx : x ∉ done := fun z => (List.nodup_append.mp nd).2.2 x z x (by simp) rfl
      have ld : done.length < 201 := by have := V.ln; have := congrArg List.length eq; simp at this; omega
      have ez : (fun y : Int => if y = x then D.int 0 else D.int 0) = fun _ => .int 0 := by funext y; simp
      have ez2 : (fun y : Int => if y = x then D.non else D.non) = fun _ => .non := by funext y; simp
      unfold numD cameD cD
      simp? only [put_im nd1 (show done.length < sizeLine by omega), if_neg nx, ez, ez2]
      exact ⟨_, rfl⟩
    · rintro S ⟨a, rfl⟩
      exact ⟨rfl, _, rfl⟩
  rintro S ⟨a5, rfl⟩
  refine seq_ret (fun S => ∃ (N : Int → Int) (C : Int → Option P2i) (l : Int → Nat) (low : List Int) (a b c d e : Option Sl), BF R T g t (R.length + 1) [] N C l [] ∧ low ≠ [] ∧ (∀ v ∈ low, l v = R.length ∧ v ∈ R) ∧
    S = [(some (Sl.mk false (tabD true R T))), (some (Sl.mk false (.int g))), (some (Sl.mk false (.int t))), (some (Sl.mk true (numD R N))), (some (Sl.mk true (cameD R C))), a, b, (some (Sl.mk true (.lst (low.map .int)))), c, d, e]) (fun d => ∃ N : Int → Int, (∀ s ∈ R, ∀ p ∈ T s, N p.2 ≤ N s + cof g t p.1) ∧ d = .tup [numD R N, .non]) ?_ ?_ ?_
  rotate_left
  · rintro S ⟨N, C, l, low, a, b, c, d, e, I, ne, hl, rfl⟩
    obtain ⟨xs, v, rfl⟩ : ∃ xs v, low = xs ++ [v] := ⟨low.dropLast, low.getLast ne, (List.dropLast_concat_getLast ne).symm⟩
    obtain ⟨lv, vR⟩ := hl v (by simp)
    obtain ⟨hf, m, hr⟩ := I.back vR (by omega)
    obtain ⟨ps, pne, pb, pl, ep⟩ := p_behind lR (fun v p e => ⟨(I.i3 v p e).1, (I.i3 v p e).2.1⟩) hf hr
    have neg := I.i6 _ ps pne pb
    rw [wsum_bits] at neg
    have al : L2.atI ((xs ++ [v]).map D.int) (-1) = some (.int v) := by rw [List.map_append]; exact atI_snoc _ _
    simp? only [al, ep]
    refine .inr ⟨ps.reverse, pl, ?_, rfl⟩
    rw [bits_rev, List.length_reverse]
    omega
  · rintro d S ⟨N, h, rfl⟩
    exact .inl ⟨N, h, rfl⟩
  simp? only [el]
  refine ⟨by omega, ?_⟩
  rw [Int.toNat_natCast]
  refine for_inv (fun i S => ∃ (N : Int → Int) (C : Int → Option P2i) (l : Int → Nat) (a b c d e f : Option Sl), BF R T g t (i + 1) [] N C l [] ∧ (i = 0 ∨ ∃ low : List Int, low ≠ [] ∧ (∀ v ∈ low, l v = i ∧ v ∈ R) ∧ c = (some (Sl.mk true (.lst (low.map .int))))) ∧
    S = [(some (Sl.mk false (tabD true R T))), (some (Sl.mk false (.int g))), (some (Sl.mk false (.int t))), (some (Sl.mk true (numD R N))), (some (Sl.mk true (cameD R C))), a, b, c, d, e, f]) _ 0 _ ⟨_, _, _, _, _, _, _, _, _, BF.zero R T g t, .inl rfl, rfl⟩ ?_ ?_
  rotate_left
  · rintro S ⟨N, C, l, a, b, c, d, e, f, I, h, rfl⟩
    rw [rngL_len, Nat.zero_add] at I h
    rcases h with h | ⟨low, h1, h2, rfl⟩
    · omega
    · exact .inl ⟨rfl, N, C, l, low, _, _, _, _, _, I, h1, h2, rfl⟩
  rintro i d S hd ⟨N, C, l, a, b, c, d', e, f, I, _, rfl⟩
  obtain ⟨hi, rfl⟩ := rngL_get hd
  rw [Nat.zero_add] at I ⊢
  rw [k_gN]
  simp only [List.set_cons_succ, List.set_cons_zero]
  refine seq_cut (fun S => S = [(some (Sl.mk false (tabD true R T))), (some (Sl.mk false (.int g))), (some (Sl.mk false (.int t))), (some (Sl.mk true (numD R N))), (some (Sl.mk true (cameD R C))), a, (some (Sl.mk false (.int (0 + (i : Int))))), (some (Sl.mk true (.lst (([] : List Int).map .int)))), d', e, f]) (by simp? only []) ?_
  rintro S rfl
  refine seq_cut (fun S => ∃ (N : Int → Int) (C : Int → Option P2i) (l : Int → Nat) (low : List Int) (a c d e : Option Sl), BF R T g t (i + 1) (R.flatMap (edT T)) N C l low ∧
    S = [(some (Sl.mk false (tabD true R T))), (some (Sl.mk false (.int g))), (some (Sl.mk false (.int t))), (some (Sl.mk true (numD R N))), (some (Sl.mk true (cameD R C))), a, (some (Sl.mk false (.int (0 + (i : Int))))), (some (Sl.mk true (.lst (low.map .int)))), c, d, e]) ?_ ?_
  · simp? only [ek]
    refine for_typed D.int (fun done S => ∃ (N : Int → Int) (C : Int → Option P2i) (l : Int → Nat) (low : List Int) (a c d e : Option Sl), BF R T g t (i + 1) (done.flatMap (edT T)) N C l low ∧ low.length ≤ (done.flatMap (edT T)).length ∧
      S = [(some (Sl.mk false (tabD true R T))), (some (Sl.mk false (.int g))), (some (Sl.mk false (.int t))), (some (Sl.mk true (numD R N))), (some (Sl.mk true (cameD R C))), a, (some (Sl.mk false (.int (0 + (i : Int))))), (some (Sl.mk true (.lst (low.map .int)))), c, d, e]) R _ ⟨N, C, l, [], a, d', e, f, I, Nat.le_refl _, rfl⟩ ?_ ?_
    rotate_left
    · rintro S ⟨N, C, l, low, a, c, d, e, I, _, rfl⟩
      exact ⟨rfl, N, C, l, low, a, c, d, e, I, rfl⟩
    rintro done x rest S eq ⟨N, C, l, low, a, c, d, e, I, ll, rfl⟩
    have hx : x ∈ R := by rw [eq]; simp
    have le2 : ((done ++ [x]).flatMap (edT T)).length ≤ 400 := by
      rw [eq, show done ++ x :: rest = (done ++ [x]) ++ rest by simp, List.flatMap_append, List.length_append] at lE
      omega
    have ix : ixA (tabD true R T) (.int x) = .ok (.lst ((T x).map pD2)) := by unfold tabD; rw [ix_im hx]
    simp? only [ix]
    refine for_typed pD2 (fun pd S => ∃ (N : Int → Int) (C : Int → Option P2i) (l : Int → Nat) (low : List Int) (c d e : Option Sl), BF R T g t (i + 1) (done.flatMap (edT T) ++ pd.map fun p => (x, p.1, p.2)) N C l low ∧ low.length ≤ (done.flatMap (edT T) ++ pd.map fun p => (x, p.1, p.2)).length ∧
      S = [(some (Sl.mk false (tabD true R T))), (some (Sl.mk false (.int g))), (some (Sl.mk false (.int t))), (some (Sl.mk true (numD R N))), (some (Sl.mk true (cameD R C))), (some (Sl.mk false (.int x))), (some (Sl.mk false (.int (0 + (i : Int))))), (some (Sl.mk true (.lst (low.map .int)))), c, d, e]) (T x) _ ⟨N, C, l, low, c, d, e, by simpa using I, by simpa using ll, rfl⟩ ?_ ?_
    rotate_left
    · rintro S ⟨N, C, l, low, c, d, e, I, ll, rfl⟩
      refine ⟨N, C, l, low, _, c, d, e, ?_, ?_, rfl⟩
      · rw [List.flatMap_append, List.flatMap_singleton]; exact I
      · rw [List.flatMap_append, List.flatMap_singleton]; exact ll
    rintro pd p rest2 S eq2 ⟨N, C, l, low, c, d, e, I, ll, rfl⟩
    have hp : p ∈ T x := by rw [eq2]; simp
    have hc := V.tc x hx p hp
    have l2 : (done.flatMap (edT T) ++ pd.map fun p => (x, p.1, p.2)).length ≤ 400 := by
      rw [List.flatMap_append, List.length_append, List.flatMap_singleton] at le2
      unfold edT at le2
      rw [eq2, List.map_append, List.length_append] at le2
      rw [List.length_append]
      unfold edT
      omega
    rw [List.map_append, ← List.append_assoc]
    generalize (done.flatMap (edT T) ++ pd.map fun p => (x, p.1, p.2)) = dn at I ll l2 ⊢
    have eN1 : ixA (numD R N) (.int x) = .ok (.int (N x)) := by unfold numD; rw [ix_im hx]
    have eN2 : ixA (numD R N) (.int p.2) = .ok (.int (N p.2)) := by unfold numD; rw [ix_im hc]
    have hb := V.tb x hx p hp
    have lz : R.length < sizeLine := by omega
    have en : N x + t * p.1 - g = N x + cof g t p.1 := by unfold cof; omega
    rw [k_g2p]
    simp only [List.set_cons_succ, List.set_cons_zero]
    refine seq_cut (fun S => S = [(some (Sl.mk false (tabD true R T))), (some (Sl.mk false (.int g))), (some (Sl.mk false (.int t))), (some (Sl.mk true (numD R N))), (some (Sl.mk true (cameD R C))), (some (Sl.mk false (.int x))), (some (Sl.mk false (.int (0 + (i : Int))))), (some (Sl.mk true (.lst (low.map .int)))), (some (Sl.mk false (.int p.1))), (some (Sl.mk false (.int p.2))), (some (Sl.mk false (.int (N x + cof g t p.1))))]) ?_ ?_
    · simp? only [eN1]
      refine ⟨mul_l (by omega) (by omega), ?_⟩
      rw [en]
    rintro S rfl
    have e0 : Ok (tB' (e2 ltD (eW 10) (e2 ixA (eW 3) (eW 9))) [(some (Sl.mk false (tabD true R T))), (some (Sl.mk false (.int g))), (some (Sl.mk false (.int t))), (some (Sl.mk true (numD R N))), (some (Sl.mk true (cameD R C))), (some (Sl.mk false (.int x))), (some (Sl.mk false (.int (0 + (i : Int))))), (some (Sl.mk true (.lst (low.map .int)))), (some (Sl.mk false (.int p.1))), (some (Sl.mk false (.int p.2))), (some (Sl.mk false (.int (N x + cof g t p.1))))]) fun b => b = decide (N x + cof g t p.1 < N p.2) := by
      simp? only [eN2]
    rw [k_if]
    refine e0.mono ?_
    rintro _ rfl
    refine ⟨fun h => ?_, fun h => ?_⟩
    · have h := of_decide_eq_true h
      refine seq_cut (fun S => S = [(some (Sl.mk false (tabD true R T))), (some (Sl.mk false (.int g))), (some (Sl.mk false (.int t))), (some (Sl.mk true (numD R (upd1 N p.2 (N x + cof g t p.1))))), (some (Sl.mk true (cameD R C))), (some (Sl.mk false (.int x))), (some (Sl.mk false (.int (0 + (i : Int))))), (some (Sl.mk true (.lst (low.map .int)))), (some (Sl.mk false (.int p.1))), (some (Sl.mk false (.int p.2))), (some (Sl.mk false (.int (N x + cof g t p.1))))]) ?_ ?_
      · unfold numD
        simp? only [put_im V.nd lz, if_pos hc]
        rw [num_put]
      rintro S rfl
      refine seq_cut (fun S => S = [(some (Sl.mk false (tabD true R T))), (some (Sl.mk false (.int g))), (some (Sl.mk false (.int t))), (some (Sl.mk true (numD R (upd1 N p.2 (N x + cof g t p.1))))), (some (Sl.mk true (cameD R (upd1 C p.2 (some (x, p.1)))))), (some (Sl.mk false (.int x))), (some (Sl.mk false (.int (0 + (i : Int))))), (some (Sl.mk true (.lst (low.map .int)))), (some (Sl.mk false (.int p.1))), (some (Sl.mk false (.int p.2))), (some (Sl.mk false (.int (N x + cof g t p.1))))]) ?_ ?_
      · unfold cameD
        simp? only [put_im V.nd lz, if_pos hc]
        have := came_put (C := C) (x := p.2) (p := (x, p.1))
        unfold pD2 at this
        dsimp only at this
        rw [this]
      rintro S rfl
      simp? only []
      refine ⟨by omega, _, _, _, low ++ [p.2], (some (Sl.mk false (.int p.1))), (some (Sl.mk false (.int p.2))), (some (Sl.mk false (.int (N x + cof g t p.1)))), I.put hx hp hc h, ?_, ?_⟩
      · rw [List.length_append, List.length_append]; simp; omega
      · rw [List.map_append]; rfl
    · have h := of_decide_eq_false h
      simp? only []
      exact ⟨N, C, l, low, _, _, _, I.skip h, by rw [List.length_append]; omega, rfl⟩
  rintro S ⟨N, C, l, low, a, c, d, e, I, rfl⟩
  have e0 : Ok (tNo (tT' (eW 7)) [(some (Sl.mk false (tabD true R T))), (some (Sl.mk false (.int g))), (some (Sl.mk false (.int t))), (some (Sl.mk true (numD R N))), (some (Sl.mk true (cameD R C))), a, (some (Sl.mk false (.int (0 + (i : Int))))), (some (Sl.mk true (.lst (low.map .int)))), c, d, e]) fun b => b = (low.map D.int).isEmpty := by
    simp? only []
    simp
  rw [k_if]
  refine e0.mono ?_
  rintro _ rfl
  refine ⟨fun h => ?_, fun h => ?_⟩
  · have h : low = [] := by cases low with | nil => rfl | cons x r => cases h
    subst h
    simp? only []
    exact .inr ⟨_, rfl, N, I.bear, rfl⟩
  · have h : low ≠ [] := fun z => by subst z; cases h
    simp? only []
    exact ⟨N, C, l, _, _, _, _, _, _, I.next, .inr ⟨low, h, I.i7.2, rfl⟩, rfl⟩
set_option Elab.async false
set_option linter.all false
set_option maxRecDepth 100000
open M PySem L2
structure Cm (T : Int → List P2i) (bg K : List Int) (C : Int → Option P2i) (rk : Int → Nat) : Prop where
  nd : K.Nodup
  st : ∀ s ∈ bg, s ∈ K
  no : ∀ v ∈ K, C v = none → v ∈ bg
  so : ∀ v ∈ K, ∀ p, C v = some p → p.1 ∈ K ∧ (p.2, v) ∈ T p.1 ∧ rk p.1 < rk v
  rb : ∀ v ∈ K, rk v ≤ K.length
theorem Cm.put {T : Int → List P2i} {bg K : List Int} {C : Int → Option P2i} {rk : Int → Nat} (H : Cm T bg K C rk) {s : Int} {p : P2i} (hs : s ∈ K) (hp : p ∈ T s) (hn : p.2 ∉ K) : Cm T bg (K ++ [p.2]) (upd1 C p.2 (some (s, p.1))) (upd1 rk p.2 (K.length + 1)) := by
  have ne : ∀ v ∈ K, v ≠ p.2 := fun v hv z => hn (z ▸ hv)
  refine ⟨List.nodup_append.mpr ⟨H.nd, by simp, fun a ha b hb => by rw [List.mem_singleton] at hb; subst hb; exact ne a ha⟩, fun x hx => List.mem_append_left _ (H.st x hx), fun v hv h => ?_, fun v hv q h => ?_, fun v hv => ?_⟩
  · rcases List.mem_append.mp hv with hv | hv
    · rw [upd1_n (ne v hv)] at h; exact H.no v hv h
    · rw [List.mem_singleton.mp hv, upd1_s] at h; cases h
  · rcases List.mem_append.mp hv with hv | hv
    · rw [upd1_n (ne v hv)] at h
      obtain ⟨a, b, c⟩ := H.so v hv q h
      rw [upd1_n (ne v hv), upd1_n (ne _ a)]
      exact ⟨List.mem_append_left _ a, b, c⟩
    · have hv := List.mem_singleton.mp hv
      subst hv
      rw [upd1_s] at h
      injection h with h
      subst h
      rw [upd1_s, upd1_n (ne s hs)]
      have := H.rb s hs
      exact ⟨List.mem_append_left _ hs, hp, by omega⟩
  · rw [List.length_append, List.length_singleton]
    rcases List.mem_append.mp hv with hv | hv
    · rw [upd1_n (ne v hv)]; have := H.rb v hv; omega
    · rw [List.mem_singleton.mp hv, upd1_s]; exact Nat.le_refl _
theorem p_word_to {size : Int} {steps : List T3} {bg R : List Int} {T : Int → List P2i} (V : TabV R T) (lR : R.length ≤ 130) (mv : d_moves_from [supO size steps bg] = .ok (tabD true R T)) (sub : ∀ s ∈ bg, s ∈ R) (nb : bg.Nodup)
    (all : ∀ P : Int → Prop, (∀ s ∈ bg, P s) → (∀ s, P s → ∀ p ∈ T s, P p.2) → ∀ x ∈ R, P x) {goal : Int} (hg : goal ∈ R) :
    ∃ (xs : List P2i), (∃ s, s ∈ bg ∧ Wk T s xs goal) ∧ xs.length ≤ 300 ∧ d_word_to [supO size steps bg, .int goal] = .ok (.tup (xs.map fun p => .int p.2)) := by
  have hs := size_ge
  have lb : bg.length ≤ R.length := nd_le nb sub
  suffices h : Ok (d_word_to [supO size steps bg, .int goal]) fun d => ∃ (xs : List P2i), (∃ s, s ∈ bg ∧ Wk T s xs goal) ∧ xs.length ≤ 300 ∧ d = .tup (xs.map fun p => .int p.2) by
    obtain ⟨d, e, xs, h1, h2, rfl⟩ := h
    exact ⟨xs, h1, h2, e⟩
  unfold d_word_to m_word_to
  rw [ok_nox, k_run]
  refine seq_cut (fun S => S = [(some (Sl.mk false (supO size steps bg))), (some (Sl.mk false (.int goal))), (some (Sl.mk false (tabD true R T))), none, none, none, none, none, none, none]) (by simp? only [mv]) ?_
  rintro S rfl
  refine seq_cut (fun S => S = [(some (Sl.mk false (supO size steps bg))), (some (Sl.mk false (.int goal))), (some (Sl.mk false (tabD true R T))), (some (Sl.mk true (cameD [] fun _ => none))), none, none, none, none, none, none]) (by simp? only []; rfl) ?_
  rintro S rfl
  refine seq_cut (fun S => ∃ a, S = [(some (Sl.mk false (supO size steps bg))), (some (Sl.mk false (.int goal))), (some (Sl.mk false (tabD true R T))), (some (Sl.mk true (cameD bg fun _ => none))), a, none, none, none, none, none]) ?_ ?_
  · simp? only [su_2]
    refine for_typed D.int (fun done S => ∃ a, S = [(some (Sl.mk false (supO size steps bg))), (some (Sl.mk false (.int goal))), (some (Sl.mk false (tabD true R T))), (some (Sl.mk true (cameD done fun _ => none))), a, none, none, none, none, none]) bg _ ⟨none, rfl⟩ ?_ ?_
    · rintro done x rest S eq ⟨a, rfl⟩
      have nd := nb
      rw [eq] at nd
      have nd1 := (List.nodup_append.mp nd).1
      have nx : x ∉ done := fun z => (List.nodup_append.mp nd).2.2 x z x (by simp) rfl
      have ld : done.length < 201 := by have := congrArg List.length eq; simp at this; omega
      have ez2 : (fun y : Int => if y = x then D.non else D.non) = fun _ => .non := by funext y; simp
      unfold cameD cD
      simp? only [put_im nd1 (show done.length < sizeLine by omega), if_neg nx, ez2]
      exact ⟨_, rfl⟩
    · rintro S ⟨a, rfl⟩
      exact ⟨rfl, _, rfl⟩
  rintro S ⟨a4, rfl⟩
  refine seq_cut (fun S => S = [(some (Sl.mk false (supO size steps bg))), (some (Sl.mk false (.int goal))), (some (Sl.mk false (tabD true R T))), (some (Sl.mk true (cameD bg fun _ => none))), a4, (some (Sl.mk false (.lst (bg.map .int)))), none, none, none, none]) (by simp? only [su_2]) ?_
  rintro S rfl
  refine seq_cut (fun S => ∃ (K : List Int) (C : Int → Option P2i) (rk : Int → Nat) (a b c d e : Option Sl), Cm T bg K C rk ∧ (∀ s ∈ K, s ∈ R) ∧ (∀ s ∈ K, ∀ p ∈ T s, p.2 ∈ K) ∧
    S = [(some (Sl.mk false (supO size steps bg))), (some (Sl.mk false (.int goal))), (some (Sl.mk false (tabD true R T))), (some (Sl.mk true (cameD K C))), a, b, c, d, e, none]) ?_ ?_
  · refine while_inv (fun w S => ∃ (K : List Int) (C : Int → Option P2i) (rk : Int → Nat) (lv : List Int) (o : Bool) (a c d e : Option Sl), Cm T bg K C rk ∧ (∀ s ∈ K, s ∈ R) ∧ (∀ s ∈ lv, s ∈ K) ∧ (∀ s ∈ K, s ∉ lv → ∀ p ∈ T s, p.2 ∈ K) ∧ lv.length ≤ 130 ∧
      w = 2 * (R.length - K.length) + (if lv = [] then 0 else 1) ∧
      S = [(some (Sl.mk false (supO size steps bg))), (some (Sl.mk false (.int goal))), (some (Sl.mk false (tabD true R T))), (some (Sl.mk true (cameD K C))), a, some ⟨o, .lst (lv.map .int)⟩, c, d, e, none]) (2 * (R.length - bg.length) + (if bg = [] then 0 else 1)) 300 _ (by split <;> omega)
      ⟨bg, fun _ => none, fun _ => 0, bg, false, a4, none, none, none, ⟨nb, fun _ h => h, fun _ h _ => h, fun _ _ _ h => (nomatch h), fun _ _ => Nat.zero_le _⟩, sub, fun _ h => h, fun s h1 h2 => absurd h1 h2, by omega, rfl, rfl⟩ ?_
    rintro w S ⟨K, C, rk, lv, o, a, c, d, e, H, kR, lK, cl, ll, rfl, rfl⟩
    have lKR := nd_le H.nd kR
    have e0 : Ok (tT' (eW 5) [(some (Sl.mk false (supO size steps bg))), (some (Sl.mk false (.int goal))), (some (Sl.mk false (tabD true R T))), (some (Sl.mk true (cameD K C))), a, some ⟨o, .lst (lv.map .int)⟩, c, d, e, none]) fun b => b = !(lv.map D.int).isEmpty := by simp? only []
    refine e0.mono ?_
    rintro _ rfl
    refine ⟨fun h => ?_, fun h => ?_⟩
    rotate_left
    · have h : lv = [] := by cases lv with | nil => rfl | cons x r => cases h
      subst h
      exact ⟨rfl, K, C, rk, _, _, _, _, _, H, kR, fun s hs => cl s hs (by simp), rfl⟩
    have h : lv ≠ [] := fun z => by subst z; cases h
    refine seq_cut (fun S => S = [(some (Sl.mk false (supO size steps bg))), (some (Sl.mk false (.int goal))), (some (Sl.mk false (tabD true R T))), (some (Sl.mk true (cameD K C))), a, some ⟨o, .lst (lv.map .int)⟩, (some (Sl.mk true (.lst (([] : List Int).map .int)))), d, e, none]) (by simp? only []) ?_
    rintro S rfl
    refine seq_cut (fun S => ∃ (K2 : List Int) (C2 : Int → Option P2i) (rk2 : Int → Nat) (a d e : Option Sl), Cm T bg (K ++ K2) C2 rk2 ∧ (∀ s ∈ K ++ K2, s ∈ R) ∧ (∀ s ∈ K, ∀ p ∈ T s, p.2 ∈ K ++ K2) ∧
      S = [(some (Sl.mk false (supO size steps bg))), (some (Sl.mk false (.int goal))), (some (Sl.mk false (tabD true R T))), (some (Sl.mk true (cameD (K ++ K2) C2))), a, some ⟨o, .lst (lv.map .int)⟩, (some (Sl.mk true (.lst (K2.map .int)))), d, e, none]) ?_ ?_
    · simp? only []
      refine for_typed D.int (fun done S => ∃ (K2 : List Int) (C2 : Int → Option P2i) (rk2 : Int → Nat) (a d e : Option Sl), Cm T bg (K ++ K2) C2 rk2 ∧ (∀ s ∈ K ++ K2, s ∈ R) ∧ (∀ s ∈ K, (s ∉ lv ∨ s ∈ done) → ∀ p ∈ T s, p.2 ∈ K ++ K2) ∧
        S = [(some (Sl.mk false (supO size steps bg))), (some (Sl.mk false (.int goal))), (some (Sl.mk false (tabD true R T))), (some (Sl.mk true (cameD (K ++ K2) C2))), a, some ⟨o, .lst (lv.map .int)⟩, (some (Sl.mk true (.lst (K2.map .int)))), d, e, none]) lv _ ⟨[], C, rk, a, d, e, by simpa using H, by simpa using kR, fun s h1 h2 p hp => by simpa using cl s h1 (h2.resolve_right (by simp)) p hp, by simp⟩ ?_ ?_
      rotate_left
      · rintro S ⟨K2, C2, rk2, a, d, e, H2, k2, c2, rfl⟩
        exact ⟨rfl, K2, C2, rk2, a, d, e, H2, k2, fun s hs => c2 s hs (Classical.em (s ∈ lv) |>.symm), rfl⟩
      rintro done x rest S eq ⟨K2, C2, rk2, a, d, e, H2, k2, c2, rfl⟩
      have hxv : x ∈ lv := by rw [eq]; simp
      have hxK := lK x hxv
      have hx := kR x hxK
      have ix : ixA (tabD true R T) (.int x) = .ok (.lst ((T x).map pD2)) := by unfold tabD; rw [ix_im hx]
      simp? only [ix]
      refine for_typed pD2 (fun pd S => ∃ (K2 : List Int) (C2 : Int → Option P2i) (rk2 : Int → Nat) (d e : Option Sl), Cm T bg (K ++ K2) C2 rk2 ∧ (∀ s ∈ K ++ K2, s ∈ R) ∧ (∀ s ∈ K, (s ∉ lv ∨ s ∈ done) → ∀ p ∈ T s, p.2 ∈ K ++ K2) ∧ (∀ p ∈ pd, p.2 ∈ K ++ K2) ∧
        S = [(some (Sl.mk false (supO size steps bg))), (some (Sl.mk false (.int goal))), (some (Sl.mk false (tabD true R T))), (some (Sl.mk true (cameD (K ++ K2) C2))), (some (Sl.mk false (.int x))), some ⟨o, .lst (lv.map .int)⟩, (some (Sl.mk true (.lst (K2.map .int)))), d, e, none]) (T x) _ ⟨K2, C2, rk2, d, e, H2, k2, c2, by simp, rfl⟩ ?_ ?_
      rotate_left
      · rintro S ⟨K2, C2, rk2, d, e, H2, k2, c2, pc, rfl⟩
        refine ⟨K2, C2, rk2, _, d, e, H2, k2, fun s hs hd p hp => ?_, rfl⟩
        rcases hd with hd | hd
        · exact c2 s hs (.inl hd) p hp
        · rcases List.mem_append.mp hd with hd | hd
          · exact c2 s hs (.inr hd) p hp
          · rw [List.mem_singleton.mp hd] at hp; exact pc p hp
      rintro pd p rest2 S eq2 ⟨K2, C2, rk2, d, e, H2, k2, c2, pc, rfl⟩
      have hp : p ∈ T x := by rw [eq2]; simp
      have hc := V.tc x hx p hp
      have l2 := nd_le H2.nd k2
      have nin : notInA (.int p.2) (cameD (K ++ K2) C2) = .ok (.bl (!decide (p.2 ∈ K ++ K2))) := by
        unfold notInA cameD; rw [dlook_im]
        by_cases hx : p.2 ∈ K ++ K2
        · rw [if_pos hx, decide_eq_true hx]; rfl
        · rw [if_neg hx, decide_eq_false hx]; rfl
      rw [k_g2p]
      simp only [List.set_cons_succ, List.set_cons_zero]
      have e0 : Ok (tB' (e2 notInA (eW 8) (eW 3)) [(some (Sl.mk false (supO size steps bg))), (some (Sl.mk false (.int goal))), (some (Sl.mk false (tabD true R T))), (some (Sl.mk true (cameD (K ++ K2) C2))), (some (Sl.mk false (.int x))), some ⟨o, .lst (lv.map .int)⟩, (some (Sl.mk true (.lst (K2.map .int)))), (some (Sl.mk false (.int p.1))), (some (Sl.mk false (.int p.2))), none]) fun b => b = !decide (p.2 ∈ K ++ K2) := by simp? only [nin]
      rw [k_if]
      refine e0.mono ?_
      rintro _ rfl
      refine ⟨fun h => ?_, fun h => ?_⟩
      · have hn : p.2 ∉ K ++ K2 := by simpa using h
        have lz : (K ++ K2).length < sizeLine := by omega
        have H3 := H2.put (List.mem_append_left _ hxK) hp hn
        have ea : K ++ K2 ++ [p.2] = K ++ (K2 ++ [p.2]) := List.append_assoc ..
        rw [ea] at H3
        refine seq_cut (fun S => S = [(some (Sl.mk false (supO size steps bg))), (some (Sl.mk false (.int goal))), (some (Sl.mk false (tabD true R T))), (some (Sl.mk true (cameD (K ++ (K2 ++ [p.2])) (upd1 C2 p.2 (some (x, p.1)))))), (some (Sl.mk false (.int x))), some ⟨o, .lst (lv.map .int)⟩, (some (Sl.mk true (.lst (K2.map .int)))), (some (Sl.mk false (.int p.1))), (some (Sl.mk false (.int p.2))), none]) ?_ ?_
        · unfold cameD
          simp? only [put_im H2.nd lz, if_neg hn]
          have := came_put (C := C2) (x := p.2) (p := (x, p.1))
          unfold pD2 at this
          dsimp only at this
          rw [this, ea]
        rintro S rfl
        simp? only []
        refine ⟨by rw [List.length_append] at l2; omega, K2 ++ [p.2], _, _, (some (Sl.mk false (.int p.1))), (some (Sl.mk false (.int p.2))), H3, ?_, ?_, ?_, by rw [List.map_append]; rfl⟩
        · intro s hs
          rw [← ea] at hs
          rcases List.mem_append.mp hs with hs | hs
          · exact k2 s hs
          · rw [List.mem_singleton.mp hs]; exact hc
        · intro s hs hd q hq
          rw [← ea]
          exact List.mem_append_left _ (c2 s hs hd q hq)
        · intro q hq
          rw [← ea]
          rcases List.mem_append.mp hq with hq | hq
          · exact List.mem_append_left _ (pc q hq)
          · rw [List.mem_singleton.mp hq]; exact List.mem_append_right _ (by simp)
      · have hn : p.2 ∈ K ++ K2 := Classical.byContradiction fun z => by rw [decide_eq_false z] at h; cases h
        refine ok_ok.mpr ⟨K2, C2, rk2, _, _, H2, k2, c2, fun q hq => ?_, rfl⟩
        rcases List.mem_append.mp hq with hq | hq
        · exact pc q hq
        · rw [List.mem_singleton.mp hq]; exact hn
    rintro S ⟨K2, C2, rk2, a, d, e, H2, k2, c2, rfl⟩
    have l2 := nd_le H2.nd k2
    simp? only []
    rw [List.length_append] at l2
    refine ⟨_, ?_, K ++ K2, C2, rk2, K2, _, _, _, _, _, H2, k2, fun s hs => List.mem_append_right _ hs, fun s hs hn p hp => ?_, by omega, rfl, rfl⟩
    · rw [if_neg h, List.length_append]
      by_cases z : K2 = []
      · rw [if_pos z]; omega
      · rw [if_neg z]
        have := List.length_pos_iff.mpr z
        omega
    · rcases List.mem_append.mp hs with hs | hs
      · exact c2 s hs p hp
      · exact absurd hs hn
  rintro S ⟨K, C, rk, a, b, c, d, e, H, kR, cl, rfl⟩
  have gK : ∀ x ∈ R, x ∈ K := all (· ∈ K) H.st fun s hs p hp => cl s hs p hp
  have lKR := nd_le H.nd kR
  refine seq_cut (fun S => S = [(some (Sl.mk false (supO size steps bg))), (some (Sl.mk false (.int goal))), (some (Sl.mk false (tabD true R T))), (some (Sl.mk true (cameD K C))), a, b, c, d, e, (some (Sl.mk true (.lst (([] : List Int).map .int))))]) (by simp? only []) ?_
  rintro S rfl
  refine seq_cut (fun S => ∃ (xs : List P2i) (s : Int) (a b c d e : Option Sl), s ∈ bg ∧ Wk T s xs goal ∧ xs.length ≤ 300 ∧ S = [(some (Sl.mk false (supO size steps bg))), (some (Sl.mk false (.int s))), (some (Sl.mk false (tabD true R T))), (some (Sl.mk true (cameD K C))), a, b, c, d, e, (some (Sl.mk true (.lst ((xs.map (·.2)).reverse.map .int))))]) ?_ ?_
  · refine while_inv (fun w S => ∃ (xs : List P2i) (s : Int) (a b c d e : Option Sl), s ∈ K ∧ Wk T s xs goal ∧ xs.length + rk s ≤ 200 ∧ w = rk s ∧ S = [(some (Sl.mk false (supO size steps bg))), (some (Sl.mk false (.int s))), (some (Sl.mk false (tabD true R T))), (some (Sl.mk true (cameD K C))), a, b, c, d, e, (some (Sl.mk true (.lst ((xs.map (·.2)).reverse.map .int))))]) (rk goal) 300 _ (by have := H.rb goal (gK goal hg); omega) ⟨[], goal, a, b, c, d, e, gK goal hg, rfl, by have := H.rb goal (gK goal hg); simp; omega, rfl, rfl⟩ ?_
    rintro w S ⟨xs, s, a, b, c, d, e, hsK, wk, lx, rfl, rfl⟩
    have ix : ixA (cameD K C) (.int s) = .ok (cD (C s)) := by unfold cameD; rw [ix_im hsK]
    have e0 : Ok (tB' (e2 isntD (e2 ixA (eW 3) (eW 1)) eN) [(some (Sl.mk false (supO size steps bg))), (some (Sl.mk false (.int s))), (some (Sl.mk false (tabD true R T))), (some (Sl.mk true (cameD K C))), a, b, c, d, e, (some (Sl.mk true (.lst ((xs.map (·.2)).reverse.map .int))))]) fun b => b = (C s).isSome := by
      simp? only [ix]
      cases C s <;> exact ⟨_, rfl, _, rfl, rfl⟩
    refine e0.mono ?_
    rintro _ rfl
    cases e1 : C s with
    | none => exact ⟨fun h => (nomatch h), fun _ => ⟨rfl, xs, s, _, _, _, _, _, H.no s hsK e1, wk, by omega, rfl⟩⟩
    | some p =>
      refine ⟨fun _ => ?_, fun h => (nomatch h)⟩
      obtain ⟨a1, a2, a3⟩ := H.so s hsK p e1
      rw [e1] at ix
      have ix : ixA (cameD K C) (.int s) = .ok (.tup [.int p.1, .int p.2]) := ix
      refine seq_cut (fun S => S = [(some (Sl.mk false (supO size steps bg))), (some (Sl.mk false (.int p.1))), (some (Sl.mk false (tabD true R T))), (some (Sl.mk true (cameD K C))), a, b, c, (some (Sl.mk false (.int p.2))), e, (some (Sl.mk true (.lst ((xs.map (·.2)).reverse.map .int))))]) (by simp? only [ix]) ?_
      rintro S rfl
      simp? only []
      refine ⟨by simp only [List.length_reverse, List.length_map]; omega, rk p.1, a3, p :: xs, p.1, a, b, c, (some (Sl.mk false (.int p.2))), e, a1, ⟨rfl, s, a2, wk⟩, by rw [List.length_cons]; omega, rfl, ?_⟩
      rw [List.map_cons, List.reverse_cons, List.map_append]
      rfl
  rintro S ⟨xs, s, a, b, c, d, e, hb, wk, lx, rfl⟩
  simp? only []
  show Ok (.ok (D.lst ((xs.map (·.2)).reverse.map D.int).reverse)) _
  rw [ok_ok, ← List.map_reverse, List.reverse_reverse]
  simp? only []
  exact ⟨xs, ⟨s, hb, wk⟩, lx, by rw [List.map_map]; rfl⟩
set_option Elab.async false
set_option linter.all false
set_option maxRecDepth 100000
open M PySem L2
theorem countP_lt {α : Type} {p q : α → Bool} : ∀ {l : List α}, (∀ x ∈ l, p x = true → q x = true) → (∃ x ∈ l, q x = true ∧ p x = false) → l.countP p < l.countP q
  | [], _, ⟨x, h, _⟩ => by simp at h
  | y :: l, h, ⟨x, hx, h1, h2⟩ => by
    have hm : l.countP p ≤ l.countP q := List.countP_mono_left fun z hz => h z (List.mem_cons_of_mem _ hz)
    rw [List.countP_cons, List.countP_cons]
    have hy := h y (List.mem_cons_self ..)
    rcases List.mem_cons.mp hx with rfl | hx
    · rw [if_neg (by rw [h2]; decide), if_pos h1]; omega
    · have := countP_lt (l := l) (fun z hz => h z (List.mem_cons_of_mem _ hz)) ⟨x, hx, h1, h2⟩
      by_cases c : p y = true
      · rw [if_pos c, if_pos (hy c)]; omega
      · rw [if_neg c]; split <;> omega
def prs (n : Nat) : List (Nat × Nat) := (List.range (n + 1)).flatMap fun j => (List.range (n + 1)).map fun i => (i, j)
def frN (n p q : Nat) : Nat := (prs n).countP fun e => decide (e.1 * q < p * e.2)
theorem frN_le (n p q : Nat) : frN n p q ≤ (n + 1) * (n + 1) := by
  refine Nat.le_trans List.countP_le_length ?_
  unfold prs
  rw [List.length_flatMap]
  have : ∀ (f : Nat → Nat) (l : List Nat), (∀ x ∈ l, f x ≤ n + 1) → (l.map f).sum ≤ l.length * (n + 1) := by
    intro f l
    induction l with
    | nil => intro _; simp
    | cons x l ih =>
      intro h
      have := ih fun y hy => h y (List.mem_cons_of_mem _ hy)
      have := h x (List.mem_cons_self ..)
      rw [List.map_cons, List.sum_cons, List.length_cons, Nat.add_mul, Nat.one_mul]
      omega
  refine Nat.le_trans (this _ _ fun x _ => by simp) ?_
  rw [List.length_range]
  exact Nat.le_refl _
theorem frN_lt {n p q p' q' : Nat} (hq : 1 ≤ q) (hq' : 1 ≤ q') (hp : p' ≤ n) (hn : q' ≤ n) (h : p' * q < p * q') : frN n p' q' < frN n p q := by
  unfold frN
  refine countP_lt (fun e _ he => ?_) ⟨(p', q'), ?_, decide_eq_true h, decide_eq_false (by show ¬ p' * q' < p' * q'; omega)⟩
  · have he := of_decide_eq_true he
    refine decide_eq_true ?_
    refine Nat.lt_of_mul_lt_mul_right (a := q') ?_
    have e2 : 0 < e.2 := Nat.pos_of_ne_zero fun z => by rw [z] at he; omega
    have a1 : e.1 * q' * q < p' * e.2 * q := Nat.mul_lt_mul_of_pos_right he (by omega)
    have a2 : p' * q * e.2 < p * q' * e.2 := Nat.mul_lt_mul_of_pos_right h e2
    have r1 : e.1 * q * q' = e.1 * q' * q := Nat.mul_right_comm ..
    have r2 : p' * e.2 * q = p' * q * e.2 := Nat.mul_right_comm ..
    have r3 : p * e.2 * q' = p * q' * e.2 := Nat.mul_right_comm ..
    omega
  · unfold prs
    rw [List.mem_flatMap]
    exact ⟨q', List.mem_range.mpr (by omega), List.mem_map.mpr ⟨p', List.mem_range.mpr (by omega), rfl⟩⟩
def rateO (R : List Int) (p q : Nat) (lead xs : List P2i) (N : Int → Int) : D := .obj 5 [.int p, .int q, .tup (lead.map fun p => .int p.2), .tup (xs.map fun p => .int p.2), numD R N]
structure Rt (R : List Int) (T : Int → List P2i) (bg : List Int) (p q : Nat) (lead xs : List P2i) (N : Int → Int) : Prop where
  lp : Lp R T xs
  lo : Low (bits xs).toNat xs.length p q
  be : ∀ s ∈ R, ∀ e ∈ T s, N e.2 ≤ N s + cof p q e.1
  wk : ∃ s c, s ∈ bg ∧ Wk T s lead c ∧ Wk T c xs c
  ll : lead.length ≤ 300
theorem p_rate {size : Int} {steps : List T3} {bg R : List Int} {T : Int → List P2i} (V : TabV R T) (lR : R.length ≤ 130) (lE : (R.flatMap (edT T)).length ≤ 400) (mv : d_moves_from [supO size steps bg] = .ok (tabD true R T)) (sub : ∀ s ∈ bg, s ∈ R) (nb : bg.Nodup) (bne : bg ≠ [])
    (all : ∀ P : Int → Prop, (∀ s ∈ bg, P s) → (∀ s, P s → ∀ p ∈ T s, P p.2) → ∀ x ∈ R, P x) : ∃ p q lead xs N, Rt R T bg p q lead xs N ∧ d_rate [supO size steps bg] = .ok (rateO R p q lead xs N) := by
  have hs := size_ge
  suffices h : Ok (d_rate [supO size steps bg]) fun d => ∃ p q lead xs N, Rt R T bg p q lead xs N ∧ d = rateO R p q lead xs N by
    obtain ⟨d, e, p, q, lead, xs, N, h, rfl⟩ := h
    exact ⟨p, q, lead, xs, N, h, e⟩
  obtain ⟨b0, br, rfl⟩ := List.exists_cons_of_ne_nil bne
  obtain ⟨x0, lp0, es⟩ := p_some_loop V lR (sub b0 (List.mem_cons_self ..))
  unfold d_rate m_rate
  rw [ok_nox, k_run]
  refine seq_cut (fun S => S = [(some (Sl.mk false (supO size steps (b0 :: br)))), (some (Sl.mk false (tabD true R T))), none, none, none, none, none, none, none, none]) (by simp? only [mv]) ?_
  rintro S rfl
  refine seq_cut (fun S => S = [(some (Sl.mk false (supO size steps (b0 :: br)))), (some (Sl.mk false (tabD true R T))), (some (Sl.mk false (.lst (x0.map pD2)))), none, none, none, none, none, none, none]) ?_ ?_
  · simp? only [su_2]
    refine ⟨_, atI_0, ?_⟩
    simp? only [es]
  rintro S rfl
  refine while_inv (fun w S => ∃ (xs : List P2i) (a b c d e f g : Option Sl), Lp R T xs ∧ w = frN R.length (mP xs) (mQ xs) ∧ S = [(some (Sl.mk false (supO size steps (b0 :: br)))), (some (Sl.mk false (tabD true R T))), (some (Sl.mk false (.lst (xs.map pD2)))), a, b, c, d, e, f, g]) (frN R.length (mP x0) (mQ x0)) 20000 _ (by
    have := frN_le R.length (mP x0) (mQ x0)
    have := Nat.mul_le_mul (show R.length + 1 ≤ 131 by omega) (show R.length + 1 ≤ 131 by omega)
    omega) ⟨x0, none, none, none, none, none, none, none, lp0, rfl, rfl⟩ ?_
  rintro w S ⟨xs, a, b, c, d, e, f, g, lp, rfl, rfl⟩
  obtain ⟨lw, em⟩ := p_mean V lR lp
  obtain ⟨b1, b2, b3⟩ := lp.b V
  have hln := lp.ln
  have pq := lw.pq (by omega)
  have q1 := lw.q1
  have qt := lw.qt
  have e0 : Ok (tT' (eB true) [(some (Sl.mk false (supO size steps (b0 :: br)))), (some (Sl.mk false (tabD true R T))), (some (Sl.mk false (.lst (xs.map pD2)))), a, b, c, d, e, f, g]) fun b => b = true := by simp? only []
  refine e0.mono ?_
  rintro _ rfl
  refine ⟨fun _ => ?_, fun h => (nomatch h)⟩
  refine seq_cut (fun S => S = [(some (Sl.mk false (supO size steps (b0 :: br)))), (some (Sl.mk false (tabD true R T))), (some (Sl.mk false (.lst (xs.map pD2)))), (some (Sl.mk false (.int (mP xs : Nat)))), (some (Sl.mk false (.int (mQ xs : Nat)))), c, d, e, f, g]) (by simp? only [em]) ?_
  rintro S rfl
  rcases p_lesser V lR lE (g := (mP xs : Nat)) (t := (mQ xs : Nat)) (by omega) (by omega) (by omega) with ⟨N, be, el⟩ | ⟨ys, lpy, lt, el⟩
  · refine seq_cut (fun S => S = [(some (Sl.mk false (supO size steps (b0 :: br)))), (some (Sl.mk false (tabD true R T))), (some (Sl.mk false (.lst (xs.map pD2)))), (some (Sl.mk false (.int (mP xs : Nat)))), (some (Sl.mk false (.int (mQ xs : Nat)))), (some (Sl.mk false (numD R N))), (some (Sl.mk false (.non))), e, f, g]) (by simp? only [el]) ?_
    rintro S rfl
    obtain ⟨p0, r0, exs⟩ := List.exists_cons_of_ne_nil lp.ne
    obtain ⟨s, sR, wk⟩ := lp.wk
    have ps : p0.1 = s := by rw [exs] at wk; exact wk.1
    obtain ⟨ld, ⟨s0, hs0, wl⟩, ll, ew⟩ := p_word_to V lR mv sub nb all (goal := p0.1) (by rw [ps]; exact sR)
    have ix0 : L2.atI (xs.map pD2) 0 = some (.tup [.int p0.1, .int p0.2]) := by rw [exs]; exact atI_0
    have e1 : Ok (tB' (e2 isD (eW 6) eN) [(some (Sl.mk false (supO size steps (b0 :: br)))), (some (Sl.mk false (tabD true R T))), (some (Sl.mk false (.lst (xs.map pD2)))), (some (Sl.mk false (.int (mP xs : Nat)))), (some (Sl.mk false (.int (mQ xs : Nat)))), (some (Sl.mk false (numD R N))), (some (Sl.mk false (.non))), e, f, g]) fun b => b = true := by
      simp? only []
      exact ⟨_, rfl, _, rfl, rfl⟩
    rw [k_seq, k_if]
    refine e1.mono ?_
    rintro _ rfl
    refine ⟨fun _ => ?_, fun h => (nomatch h)⟩
    refine seq_cut (fun S => S = [(some (Sl.mk false (supO size steps (b0 :: br)))), (some (Sl.mk false (tabD true R T))), (some (Sl.mk false (.lst (xs.map pD2)))), (some (Sl.mk false (.int (mP xs : Nat)))), (some (Sl.mk false (.int (mQ xs : Nat)))), (some (Sl.mk false (numD R N))), (some (Sl.mk false (.non))), (some (Sl.mk false (.tup (ld.map fun p => .int p.2)))), f, g]) ?_ ?_
    · simp? only [ix0]
      refine ⟨_, atI_0, ?_⟩
      simp? only [ew]
    rintro S rfl
    simp? only []
    refine k_lcM pD2 (fun p => .int p.2) xs ?_ (by omega) ?_ ?_
    · simp? only []
    · intro p hp
      simp? only [k_g2p, wipeS]
    · simp? only []
      refine ⟨_, rfl, mP xs, mQ xs, ld, xs, N, ⟨lp, lw, be, ⟨s0, s, hs0, by rw [← ps]; exact wl, wk⟩, ll⟩, rfl⟩
  · refine seq_cut (fun S => S = [(some (Sl.mk false (supO size steps (b0 :: br)))), (some (Sl.mk false (tabD true R T))), (some (Sl.mk false (.lst (xs.map pD2)))), (some (Sl.mk false (.int (mP xs : Nat)))), (some (Sl.mk false (.int (mQ xs : Nat)))), (some (Sl.mk false (.non))), (some (Sl.mk false (.lst (ys.map pD2)))), e, f, g]) (by simp? only [el]) ?_
    rintro S rfl
    have e1 : Ok (tB' (e2 isD (eW 6) eN) [(some (Sl.mk false (supO size steps (b0 :: br)))), (some (Sl.mk false (tabD true R T))), (some (Sl.mk false (.lst (xs.map pD2)))), (some (Sl.mk false (.int (mP xs : Nat)))), (some (Sl.mk false (.int (mQ xs : Nat)))), (some (Sl.mk false (.non))), (some (Sl.mk false (.lst (ys.map pD2)))), e, f, g]) fun b => b = false := by
      simp? only []
      exact ⟨_, rfl, _, rfl, rfl⟩
    rw [k_seq, k_if]
    refine e1.mono ?_
    rintro _ rfl
    refine ⟨fun h => (nomatch h), fun _ => ?_⟩
    simp? only []
    obtain ⟨lwy, _⟩ := p_mean V lR lpy
    obtain ⟨c1, c2, c3⟩ := lpy.b V
    have hly := lpy.ln
    have pqy := lwy.pq (by omega)
    have qty := lwy.qt
    refine ⟨_, frN_lt (q := mQ xs) (p := mP xs) q1 lwy.q1 (by omega) (by omega) ?_, ys, _, _, _, _, _, _, _, lpy, rfl, rfl⟩
    have cr := lwy.cr
    have lt2 : mQ xs * (bits ys).toNat < mP xs * ys.length := by
      have h1 : ((mQ xs : Nat) : Int) * bits ys = ((mQ xs * (bits ys).toNat : Nat) : Int) := by rw [Int.natCast_mul, show (((bits ys).toNat : Nat) : Int) = bits ys by omega]
      have h2 : ((mP xs : Nat) : Int) * (ys.length : Int) = ((mP xs * ys.length : Nat) : Int) := by rw [Int.natCast_mul]
      omega
    refine Nat.lt_of_mul_lt_mul_right (a := ys.length) ?_
    have a1 : mQ xs * (bits ys).toNat * mQ ys < mP xs * ys.length * mQ ys := Nat.mul_lt_mul_of_pos_right lt2 lwy.q1
    have r1 : mP ys * mQ xs * ys.length = mQ xs * (mP ys * ys.length) := by rw [Nat.mul_comm (mP ys), Nat.mul_assoc]
    have r2 : mQ xs * (bits ys).toNat * mQ ys = mQ xs * ((bits ys).toNat * mQ ys) := Nat.mul_assoc ..
    have r3 : mP xs * mQ ys * ys.length = mP xs * ys.length * mQ ys := Nat.mul_right_comm ..
    rw [r1, r3, cr, ← r2]
    exact a1
set_option Elab.async false
set_option linter.all false
set_option maxRecDepth 100000
open M PySem L2
def kP2 (p : P2i) : List Key := [.inl p.1, .inl p.2]
def pmD (K : List P2i) (g : P2i → D) : D := .dit (K.map kP2) (K.map g)
theorem kP2_inj {p q : P2i} (h : kP2 p = kP2 q) : p = q := by
  obtain ⟨a, b⟩ := p
  obtain ⟨c, d⟩ := q
  simpa [kP2] using h
theorem getL_pm {g : P2i → D} {p : P2i} : ∀ L : List P2i, getL (L.map kP2) (L.map g) (kP2 p) = if p ∈ L then some (g p) else none
  | [] => by simp [getL]
  | q :: L => by
    rw [List.map_cons, List.map_cons]
    simp only [getL]
    by_cases h : q = p
    · subst h; simp
    · rw [if_neg (fun e => h (kP2_inj e)), getL_pm L]
      by_cases hp : p ∈ L
      · rw [if_pos hp, if_pos (List.mem_cons_of_mem _ hp)]
      · rw [if_neg hp, if_neg (fun z => (List.mem_cons.mp z).elim (fun e => h e.symm) hp)]
theorem getOr_pm {K : List P2i} {g : P2i → D} {a b : Int} {z : D} : getOr (pmD K g) (.tup [.int a, .int b]) z = .ok (if (a, b) ∈ K then g (a, b) else z) := by
  unfold getOr pmD dlook
  dsimp only
  rw [keyT_2, Option.map_some, show ([.inl a, .inl b] : List Key) = kP2 (a, b) from rfl, getL_pm]
  by_cases h : (a, b) ∈ K <;> simp [h]
theorem put_pm {K : List P2i} {g : P2i → D} {a b : Int} {d : D} (nd : K.Nodup) (hl : K.length < sizeLine) {i : Nat} {S : M.Env} :
    putA i S (pmD K g) d (.tup [.int a, .int b]) = .ok (.nx, S.set i (some ⟨true, pmD (if (a, b) ∈ K then K else K ++ [(a, b)]) (fun y => if y = (a, b) then d else g y)⟩)) := by
  have ni : (K.map kP2).Nodup := nd_map _ nd fun x _ y _ h => kP2_inj h
  have e0 : putA i S (pmD K g) d (.tup [.int a, .int b]) = if (K.map kP2).Nodup ∧ (K.map kP2).length < sizeLine then M.R.ok (.nx, S.set i (some ⟨true, .dit (putL (K.map kP2) (K.map g) (kP2 (a, b)) d).1 (putL (K.map kP2) (K.map g) (kP2 (a, b)) d).2⟩)) else .fail := by
    unfold putA pmD
    simp only [keyT_2]
    rfl
  rw [e0, if_pos ⟨ni, by rw [List.length_map]; exact hl⟩]
  by_cases h : (a, b) ∈ K
  · rw [if_pos h]
    obtain ⟨n, hn, e⟩ := List.getElem_of_mem h
    have ei := putL_old (ks := K.map kP2) (ds := K.map g) (d := d) ni (n := n) (q := kP2 (a, b)) (by simp [hn, e])
    have es : (K.map g).set n d = K.map (fun y => if y = (a, b) then d else g y) := by
      apply List.ext_getElem?
      intro j
      rw [List.getElem?_set]
      by_cases hj : n = j
      · subst hj
        simp [hn, e]
      · rw [if_neg hj, List.getElem?_map, List.getElem?_map]
        cases e2 : K[j]? with
        | none => rfl
        | some y =>
          obtain ⟨hj2, rfl⟩ := List.getElem?_eq_some_iff.mp e2
          have : K[j] ≠ (a, b) := fun z => hj ((List.getElem_inj nd).mp (z.trans e.symm)).symm
          simp [this]
    rw [ei]
    dsimp only
    rw [es]; rfl
  · rw [if_neg h, putL_fresh (fun z => h (by
      obtain ⟨y, hy, e⟩ := List.mem_map.mp z
      rw [← kP2_inj e]; exact hy))]
    have es : K.map g = K.map (fun y => if y = (a, b) then d else g y) := List.map_congr_left fun y hy => by rw [if_neg (fun z : y = (a, b) => h (z ▸ hy))]
    show M.R.ok (Fl.nx, S.set i (some ⟨true, .dit (K.map kP2 ++ [kP2 (a, b)]) (K.map g ++ [d])⟩)) = _
    rw [es]
    unfold pmD
    simp
def thn (L : List T3) (p : P2i) : List Int := (L.filter fun e => decide (e.1 = p.1 ∧ e.2.1 = p.2)).map fun e => e.2.2
theorem thn_mem {L : List T3} {p : P2i} {x : Int} : x ∈ thn L p ↔ (p.1, p.2, x) ∈ L := by
  unfold thn
  simp only [List.mem_map, List.mem_filter, decide_eq_true_eq]
  constructor
  · rintro ⟨⟨a, b, c⟩, ⟨he, h1, h2⟩, rfl⟩
    dsimp only at h1 h2 ⊢
    rw [← h1, ← h2]; exact he
  · intro h; exact ⟨_, ⟨h, rfl, rfl⟩, rfl⟩
theorem thn_snoc (L : List T3) (e : T3) (p : P2i) : thn (L ++ [e]) p = thn L p ++ (if e.1 = p.1 ∧ e.2.1 = p.2 then [e.2.2] else []) := by
  unfold thn
  rw [List.filter_append, List.map_append]
  by_cases h : e.1 = p.1 ∧ e.2.1 = p.2 <;> simp [h]
theorem thn_le (L : List T3) (p : P2i) : (thn L p).length ≤ L.length := by unfold thn; rw [List.length_map]; exact List.length_filter_le ..
structure Mv (L : List T3) (K : List P2i) : Prop where
  nd : K.Nodup
  ln : K.length ≤ L.length
  mem : ∀ p, p ∈ K ↔ ∃ x, (p.1, p.2, x) ∈ L
def movD (L : List T3) (K : List P2i) : D := pmD K fun p => .lst ((thn L p).map .int)
theorem Mv.val {L : List T3} {K : List P2i} (H : Mv L K) (p : P2i) : (if p ∈ K then D.lst ((thn L p).map .int) else .lst []) = .lst ((thn L p).map .int) := by
  by_cases h : p ∈ K
  · rw [if_pos h]
  · rw [if_neg h]
    have : thn L p = [] := List.eq_nil_iff_forall_not_mem.mpr fun x hx => h ((H.mem p).mpr ⟨x, thn_mem.mp hx⟩)
    rw [this]; rfl
theorem p_lmovD {L : List T3} (hl : L.length ≤ 300) : ∃ K, Mv L K ∧ d__law_moves [.lst (L.map tD)] = .ok (movD L K) := by
  have hs := size_ge
  suffices h : Ok (d__law_moves [.lst (L.map tD)]) fun d => ∃ K, Mv L K ∧ d = movD L K by
    obtain ⟨d, e, K, h1, rfl⟩ := h
    exact ⟨K, h1, e⟩
  unfold d__law_moves m__law_moves
  rw [ok_nox, k_run]
  refine seq_cut (fun S => S = [(some (Sl.mk false (.lst (L.map tD)))), (some (Sl.mk true (movD [] []))), none, none, none]) (by simp? only []; rfl) ?_
  rintro S rfl
  refine seq_cut (fun S => ∃ K a b c, Mv L K ∧ S = [(some (Sl.mk false (.lst (L.map tD)))), (some (Sl.mk true (movD L K))), a, b, c]) ?_ ?_
  · simp? only []
    refine for_typed tD (fun done S => ∃ K a b c, Mv done K ∧ S = [(some (Sl.mk false (.lst (L.map tD)))), (some (Sl.mk true (movD done K))), a, b, c]) L _ ⟨[], none, none, none, ⟨List.nodup_nil, Nat.le_refl _, by simp⟩, rfl⟩ ?_ ?_
    · rintro done x rest S eq ⟨K, a, b, c, H, rfl⟩
      have ld : done.length < 300 := by have := congrArg List.length eq; simp at this; omega
      have lk := H.ln
      have hg : getOr (movD done K) (.tup [.int x.1, .int x.2.1]) (.lst []) = .ok (.lst ((thn done (x.1, x.2.1)).map .int)) := by
        unfold movD; rw [getOr_pm, H.val]
      have lt := thn_le done (x.1, x.2.1)
      have isd : isDct (movD done K) = true := rfl
      rw [k_gT3]
      simp? only [isd, hg]
      have hp : putA 1 [(some (Sl.mk false (.lst (L.map tD)))), (some (Sl.mk true (movD done K))), (some (Sl.mk false (.int x.1))), (some (Sl.mk false (.int x.2.1))), (some (Sl.mk false (.int x.2.2)))] (movD done K) (.lst ((thn done (x.1, x.2.1)).map .int ++ [.int x.2.2])) (.tup [.int x.1, .int x.2.1]) = .ok (.nx, [(some (Sl.mk false (.lst (L.map tD)))), (some (Sl.mk true (movD (done ++ [x]) (if (x.1, x.2.1) ∈ K then K else K ++ [(x.1, x.2.1)])))), (some (Sl.mk false (.int x.1))), (some (Sl.mk false (.int x.2.1))), (some (Sl.mk false (.int x.2.2)))]) := by
        unfold movD
        rw [put_pm H.nd (by omega)]
        have ef : (fun y => if y = (x.1, x.2.1) then D.lst ((thn done (x.1, x.2.1)).map .int ++ [.int x.2.2]) else D.lst ((thn done y).map .int)) = fun y => D.lst ((thn (done ++ [x]) y).map .int) := by
          funext y
          rw [thn_snoc]
          by_cases hy : y = (x.1, x.2.1)
          · subst hy; rw [if_pos rfl, if_pos ⟨rfl, rfl⟩, List.map_append]; rfl
          · rw [if_neg hy, if_neg (fun z => hy (by obtain ⟨y1, y2⟩ := y; rw [z.1, z.2])), List.append_nil]
        rw [ef]
        rfl
      refine ⟨by omega, ?_⟩
      simp? only [hp]
      refine ⟨_, _, _, _, ⟨?_, ?_, fun p => ?_⟩, rfl⟩
      · by_cases h : (x.1, x.2.1) ∈ K
        · rw [if_pos h]; exact H.nd
        · rw [if_neg h]; exact List.nodup_append.mpr ⟨H.nd, by simp, fun a ha b hb => by rw [List.mem_singleton] at hb; subst hb; exact fun z => h (z ▸ ha)⟩
      · rw [List.length_append, List.length_singleton]
        split
        · omega
        · rw [List.length_append, List.length_singleton]; omega
      · have key : p ∈ (if (x.1, x.2.1) ∈ K then K else K ++ [(x.1, x.2.1)]) ↔ p ∈ K ∨ p = (x.1, x.2.1) := by
          by_cases g : (x.1, x.2.1) ∈ K
          · rw [if_pos g]; exact ⟨.inl, fun z => z.elim id fun z => z ▸ g⟩
          · rw [if_neg g]; simp
        rw [key, H.mem]
        constructor
        · rintro (⟨y, hy⟩ | rfl)
          · exact ⟨y, List.mem_append_left _ hy⟩
          · exact ⟨x.2.2, by simp⟩
        · rintro ⟨y, hy⟩
          rcases List.mem_append.mp hy with hy | hy
          · exact .inl ⟨y, hy⟩
          · have := List.mem_singleton.mp hy
            exact .inr (by rw [← this])
    · rintro S ⟨K, a, b, c, H, rfl⟩
      exact ⟨rfl, K, a, b, c, H, rfl⟩
  rintro S ⟨K, a, b, c, H, rfl⟩
  simp? only []
  exact ⟨K, H, rfl⟩
theorem p_laftD {L : List T3} {K : List P2i} (hl : L.length ≤ 300) (H : Mv L K) (X : List Int) (b : Int) : ∃ Y : List Int, (∀ y, y ∈ Y ↔ ∃ s ∈ X, (s, b, y) ∈ L) ∧ d__law_after [movD L K, .tup (X.map .int), .int b] = .ok (.tup (Y.map .int)) := by
  have hs := size_ge
  suffices h : Ok (d__law_after [movD L K, .tup (X.map .int), .int b]) fun d => ∃ Y : List Int, (∀ y, y ∈ Y ↔ ∃ s ∈ X, (s, b, y) ∈ L) ∧ d = .tup (Y.map .int) by
    obtain ⟨d, e, Y, h1, rfl⟩ := h
    exact ⟨Y, h1, e⟩
  unfold d__law_after m__law_after
  rw [ok_nox, k_run]
  refine seq_cut (fun S => S = [(some (Sl.mk false (movD L K))), (some (Sl.mk false (.tup (X.map .int)))), (some (Sl.mk false (.int b))), (some (Sl.mk true (.lst (([] : List Int).map .int)))), none, none]) (by simp? only []) ?_
  rintro S rfl
  have lb : ∀ F : List Int, F.Nodup → (∀ y ∈ F, ∃ s, (s, b, y) ∈ L) → F.length < sizeLine := fun F nd h => by
    have := nd_le (b := L.map fun e => e.2.2) nd fun y hy => by
      obtain ⟨s, hs⟩ := h y hy
      exact List.mem_map.mpr ⟨_, hs, rfl⟩
    rw [List.length_map] at this
    omega
  refine seq_cut (fun S => ∃ (F : List Int) (d e : Option Sl), (∀ y, y ∈ F ↔ ∃ s ∈ X, (s, b, y) ∈ L) ∧ S = [(some (Sl.mk false (movD L K))), (some (Sl.mk false (.tup (X.map .int)))), (some (Sl.mk false (.int b))), (some (Sl.mk true (.lst (F.map .int)))), d, e]) ?_ ?_
  · simp? only []
    refine for_typed D.int (fun done S => ∃ (F : List Int) (d e : Option Sl), F.Nodup ∧ (∀ y, y ∈ F ↔ ∃ s ∈ done, (s, b, y) ∈ L) ∧ S = [(some (Sl.mk false (movD L K))), (some (Sl.mk false (.tup (X.map .int)))), (some (Sl.mk false (.int b))), (some (Sl.mk true (.lst (F.map .int)))), d, e]) X _ ⟨[], none, none, List.nodup_nil, by simp, rfl⟩ ?_ ?_
    · rintro done x rest S eq ⟨F, d, e, nd, hF, rfl⟩
      have hg : getOr (movD L K) (.tup [.int x, .int b]) (.lst []) = .ok (.lst ((thn L (x, b)).map .int)) := by
        unfold movD; rw [getOr_pm, H.val]
      have isd : isDct (movD L K) = true := rfl
      simp? only [isd, hg]
      refine for_typed D.int (fun dn S => ∃ (F : List Int) (e : Option Sl), F.Nodup ∧ (∀ y, y ∈ F ↔ (∃ s ∈ done, (s, b, y) ∈ L) ∨ y ∈ dn) ∧ S = [(some (Sl.mk false (movD L K))), (some (Sl.mk false (.tup (X.map .int)))), (some (Sl.mk false (.int b))), (some (Sl.mk true (.lst (F.map .int)))), (some (Sl.mk false (.int x))), e]) (thn L (x, b)) _ ⟨F, e, nd, fun y => by rw [hF]; simp, rfl⟩ ?_ ?_
      · rintro dn y rest2 S eq2 ⟨F, e, nd, hF, rfl⟩
        have hy : (x, b, y) ∈ L := thn_mem.mp (by rw [eq2]; simp : y ∈ thn L (x, b))
        have bd := lb F nd fun z hz => by
          rcases (hF z).mp hz with ⟨s, _, h⟩ | h
          · exact ⟨s, h⟩
          · exact ⟨x, thn_mem.mp (by rw [eq2]; exact List.mem_append_left _ h : z ∈ thn L (x, b))⟩
        rw [k_gN]
        simp only [List.set_cons_succ, List.set_cons_zero]
        have e0 : Ok (tB' (e2 notInA (eW 5) (eW 3)) [(some (Sl.mk false (movD L K))), (some (Sl.mk false (.tup (X.map .int)))), (some (Sl.mk false (.int b))), (some (Sl.mk true (.lst (F.map .int)))), (some (Sl.mk false (.int x))), (some (Sl.mk false (.int y)))]) fun b => b = !decide (y ∈ F) := by simp? only [k_ninI]
        rw [k_if]
        refine e0.mono ?_
        rintro _ rfl
        refine ⟨fun h => ?_, fun h => ?_⟩
        · have hn : y ∉ F := by simpa using h
          simp? only []
          refine ⟨by omega, F ++ [y], (some (Sl.mk false (.int y))), List.nodup_append.mpr ⟨nd, by simp, fun a ha b hb => by rw [List.mem_singleton] at hb; subst hb; exact fun z => hn (z ▸ ha)⟩, fun z => ?_, by rw [List.map_append]; rfl⟩
          rw [List.mem_append, List.mem_append, hF]
          simp [or_assoc]
        · have hn : y ∈ F := by simpa using h
          refine ok_ok.mpr ⟨F, _, nd, fun z => ?_, rfl⟩
          rw [List.mem_append, hF]
          constructor
          · rintro (h | h)
            · exact .inl h
            · exact .inr (.inl h)
          · rintro (h | h | h)
            · exact .inl h
            · exact .inr h
            · rw [List.mem_singleton.mp h]; exact (hF y).mp hn
      · rintro S ⟨F, e, nd, hF, rfl⟩
        refine ⟨F, _, e, nd, fun y => ?_, rfl⟩
        rw [hF]
        constructor
        · rintro (⟨s, h1, h2⟩ | h)
          · exact ⟨s, List.mem_append_left _ h1, h2⟩
          · exact ⟨x, by simp, thn_mem.mp h⟩
        · rintro ⟨s, h1, h2⟩
          rcases List.mem_append.mp h1 with h1 | h1
          · exact .inl ⟨s, h1, h2⟩
          · rw [List.mem_singleton.mp h1] at h2; exact .inr (thn_mem.mpr h2)
    · rintro S ⟨F, d, e, nd, hF, rfl⟩
      exact ⟨rfl, F, d, e, hF, rfl⟩
  rintro S ⟨F, d, e, hF, rfl⟩
  simp? only [k_srtI]
  exact ⟨_, fun y => by rw [(List.mergeSort_perm F ile).mem_iff]; exact hF y, rfl⟩
theorem p_is_word {xs : List P2i} (h : ∀ p ∈ xs, p.2 = 0 ∨ p.2 = 1) : d__law_is_word [.tup (xs.map fun p => .int p.2)] = .ok (.bl true) := by
  refine Ok.eq ?_
  unfold d__law_is_word m__law_is_word
  rw [ok_nox, k_run]
  have i1 : isiD (.tup (xs.map fun p => .int p.2)) (.ty "tuple") = .ok (.bl true) := rfl
  refine seq_cut (fun S => S = [(some (Sl.mk false (.tup (xs.map fun p => .int p.2)))), none]) (by simp? only [i1]) ?_
  rintro S rfl
  refine seq_cut (fun S => ∃ a, S = [(some (Sl.mk false (.tup (xs.map fun p => .int p.2)))), a]) ?_ ?_
  · simp? only []
    refine for_typed (fun p : P2i => D.int p.2) (fun _ S => ∃ a, S = [(some (Sl.mk false (.tup (xs.map fun p => .int p.2)))), a]) xs _ ⟨none, rfl⟩ ?_ ?_
    · rintro done x rest S eq ⟨a, rfl⟩
      have hx := h x (by rw [eq]; simp)
      have i2 : isiD (.int x.2) (.ty "int") = .ok (.bl true) := rfl
      have i3 : isiD (.int x.2) (.ty "bool") = .ok (.bl false) := rfl
      have i4 : notInD (.int x.2) (.tup [.int 0, .int 1]) = .ok (.bl false) := by rcases hx with e | e <;> rw [e] <;> rfl
      simp? only [i2, i3, i4]
      exact ⟨_, rfl⟩
    · rintro S ⟨a, rfl⟩
      exact ⟨rfl, _, rfl⟩
  rintro S ⟨a, rfl⟩
  simp? only []
set_option Elab.async false
set_option linter.all false
set_option maxRecDepth 100000
open M PySem L2
theorem k_rng2R {i j : Int} {QL : List D → Prop} : Ok (rng2 [.int i, .int j]) QL ↔ (-(2 ^ 62) ≤ i ∧ i < 2 ^ 62 ∧ -(2 ^ 62) ≤ j ∧ j < 2 ^ 62) ∧ QL (rngL i (j - i).toNat) := by
  show Ok (if _ then _ else _) QL ↔ _
  rw [ok_if, ok_ok]
theorem k_isintR {i : Int} : d__law_is_int [.int i] = .ok (.bl true) := rfl
theorem ro_0 {R : List Int} {p q : Nat} {lead xs : List P2i} {N : Int → Int} : fldD 5 0 (rateO R p q lead xs N) = .ok (.int p) := rfl
theorem ro_1 {R : List Int} {p q : Nat} {lead xs : List P2i} {N : Int → Int} : fldD 5 1 (rateO R p q lead xs N) = .ok (.int q) := rfl
theorem ro_2 {R : List Int} {p q : Nat} {lead xs : List P2i} {N : Int → Int} : fldD 5 2 (rateO R p q lead xs N) = .ok (.tup (lead.map fun p => .int p.2)) := rfl
theorem ro_3 {R : List Int} {p q : Nat} {lead xs : List P2i} {N : Int → Int} : fldD 5 3 (rateO R p q lead xs N) = .ok (.tup (xs.map fun p => .int p.2)) := rfl
theorem ro_4 {R : List Int} {p q : Nat} {lead xs : List P2i} {N : Int → Int} : fldD 5 4 (rateO R p q lead xs N) = .ok (numD R N) := rfl
theorem p_bears {R : List Int} {T : Int → List P2i} {L : List T3} {bg : List Int} {p q : Nat} {lead xs : List P2i} {N : Int → Int} (V : TabV R T) (lR : R.length ≤ 130) (hT : ∀ s e, e ∈ T s ↔ (s, e.1, e.2) ∈ L) (H : Rt R T bg p q lead xs N) (cl : ∀ e ∈ L, e.1 ∈ R → e.2.2 ∈ R) :
    d__law_bears [rateO R p q lead xs N, .lst (L.map tD), .lst (R.map .int)] = .ok (.bl true) := by
  have hs := size_ge
  obtain ⟨b1, b2, b3⟩ := H.lp.b V
  have pq := H.lo.pq (by omega)
  have q1 := H.lo.q1
  have qt := H.lo.qt
  have hln := H.lp.ln
  refine Ok.eq ?_
  unfold d__law_bears m__law_bears
  rw [ok_nox, k_run]
  refine seq_cut (fun S => S = [(some (Sl.mk false (rateO R p q lead xs N))), (some (Sl.mk false (.lst (L.map tD)))), (some (Sl.mk false (.lst (R.map .int)))), (some (Sl.mk false (.int p))), (some (Sl.mk false (.int q))), (some (Sl.mk false (numD R N))), none, none, none, none]) (by simp? only [ro_0, ro_1, ro_4, putS]) ?_
  rintro S rfl
  refine seq_cut (fun S => S = [(some (Sl.mk false (rateO R p q lead xs N))), (some (Sl.mk false (.lst (L.map tD)))), (some (Sl.mk false (.lst (R.map .int)))), (some (Sl.mk false (.int p))), (some (Sl.mk false (.int q))), (some (Sl.mk false (numD R N))), none, none, none, none]) ?_ ?_
  · simp? only [k_isintR]
    refine ⟨fun _ => ⟨fun h => absurd (of_decide_eq_false h) (by omega), fun _ => ⟨fun _ h => absurd (of_decide_eq_false h) (by omega), fun h => absurd (of_decide_eq_false h) (by omega)⟩⟩, fun h => absurd (of_decide_eq_false h) (by omega)⟩
  rintro S rfl
  refine seq_cut (fun S => ∃ a, S = [(some (Sl.mk false (rateO R p q lead xs N))), (some (Sl.mk false (.lst (L.map tD)))), (some (Sl.mk false (.lst (R.map .int)))), (some (Sl.mk false (.int p))), (some (Sl.mk false (.int q))), (some (Sl.mk false (numD R N))), a, none, none, none]) ?_ ?_
  · simp? only []
    rw [k_rng2R]
    refine ⟨⟨by omega, by omega, by omega, by omega⟩, ?_⟩
    refine for_inv (fun _ S => ∃ a, S = [(some (Sl.mk false (rateO R p q lead xs N))), (some (Sl.mk false (.lst (L.map tD)))), (some (Sl.mk false (.lst (R.map .int)))), (some (Sl.mk false (.int p))), (some (Sl.mk false (.int q))), (some (Sl.mk false (numD R N))), a, none, none, none]) _ 0 _ ⟨none, rfl⟩ ?_ ?_
    · rintro i d S hd ⟨a, rfl⟩
      obtain ⟨hi, rfl⟩ := rngL_get hd
      have ek : (2 : Int) + (i : Int) = ((2 + i : Nat) : Int) := by omega
      rw [ek]
      generalize hk : 2 + i = k
      have m1 : (p : Int) % (k : Int) = ((p % k : Nat) : Int) := by simp
      have m2 : (q : Int) % (k : Int) = ((q % k : Nat) : Int) := by simp
      simp? only [m1, m2]
      have h0 : 0 < (k : Int) := by omega
      refine ⟨h0, fun h => ⟨h0, ?_⟩, fun _ => ⟨_, rfl⟩⟩
      refine ⟨fun h2 => ?_, fun _ => ⟨_, rfl⟩⟩
      have h := of_decide_eq_true h
      have h2 := of_decide_eq_true h2
      exact (H.lo.co k (by omega) (Nat.dvd_of_mod_eq_zero (by omega)) (Nat.dvd_of_mod_eq_zero (by omega))).elim
    · rintro S ⟨a, rfl⟩
      exact ⟨rfl, _, rfl⟩
  rintro S ⟨a, rfl⟩
  have i1 : isiD (numD R N) (.ty "dict") = .ok (.bl true) := rfl
  have il : lenD (numD R N) = .ok (.int R.length) := len_im
  refine seq_cut (fun S => S = [(some (Sl.mk false (rateO R p q lead xs N))), (some (Sl.mk false (.lst (L.map tD)))), (some (Sl.mk false (.lst (R.map .int)))), (some (Sl.mk false (.int p))), (some (Sl.mk false (.int q))), (some (Sl.mk false (numD R N))), a, none, none, none]) (by simp? only [i1, il]) ?_
  rintro S rfl
  refine seq_cut (fun S => ∃ b, S = [(some (Sl.mk false (rateO R p q lead xs N))), (some (Sl.mk false (.lst (L.map tD)))), (some (Sl.mk false (.lst (R.map .int)))), (some (Sl.mk false (.int p))), (some (Sl.mk false (.int q))), (some (Sl.mk false (numD R N))), a, b, none, none]) ?_ ?_
  · simp? only []
    refine for_typed D.int (fun _ S => ∃ b, S = [(some (Sl.mk false (rateO R p q lead xs N))), (some (Sl.mk false (.lst (L.map tD)))), (some (Sl.mk false (.lst (R.map .int)))), (some (Sl.mk false (.int p))), (some (Sl.mk false (.int q))), (some (Sl.mk false (numD R N))), a, b, none, none]) R _ ⟨none, rfl⟩ ?_ ?_
    · rintro done x rest S eq ⟨b, rfl⟩
      have hx : x ∈ R := by rw [eq]; simp
      have nin : notInA (.int x) (numD R N) = .ok (.bl false) := by unfold notInA numD; rw [dlook_im, if_pos hx]; rfl
      have ix : ixA (numD R N) (.int x) = .ok (.int (N x)) := by unfold numD; rw [ix_im hx]
      simp? only [nin, ix, k_isintR]
      exact ⟨_, rfl⟩
    · rintro S ⟨b, rfl⟩
      exact ⟨rfl, _, rfl⟩
  rintro S ⟨b, rfl⟩
  refine seq_cut (fun S => ∃ b c d, S = [(some (Sl.mk false (rateO R p q lead xs N))), (some (Sl.mk false (.lst (L.map tD)))), (some (Sl.mk false (.lst (R.map .int)))), (some (Sl.mk false (.int p))), (some (Sl.mk false (.int q))), (some (Sl.mk false (numD R N))), a, b, c, d]) ?_ ?_
  · simp? only []
    refine for_typed tD (fun _ S => ∃ b c d, S = [(some (Sl.mk false (rateO R p q lead xs N))), (some (Sl.mk false (.lst (L.map tD)))), (some (Sl.mk false (.lst (R.map .int)))), (some (Sl.mk false (.int p))), (some (Sl.mk false (.int q))), (some (Sl.mk false (numD R N))), a, b, c, d]) L _ ⟨b, none, none, rfl⟩ ?_ ?_
    · rintro done x rest S eq ⟨b, c, d, rfl⟩
      have hx : x ∈ L := by rw [eq]; simp
      have inn : inA (.int x.1) (numD R N) = .ok (.bl (decide (x.1 ∈ R))) := in_im
      simp? only [k_gT3, inn]
      refine ⟨fun h => ?_, fun _ => ⟨_, _, _, rfl⟩⟩
      have h := of_decide_eq_true h
      have h2 := cl x hx h
      have hx2 : (x.2.1, x.2.2) ∈ T x.1 := (hT _ _).mpr hx
      have be := H.be x.1 h _ hx2
      have ix : ixA (numD R N) (.int x.1) = .ok (.int (N x.1)) := by unfold numD; rw [ix_im h]
      have ix2 : ixA (numD R N) (.int x.2.2) = .ok (.int (N x.2.2)) := by unfold numD; rw [ix_im h2]
      unfold cof at be
      dsimp only at be
      simp? only [ix, ix2]
      refine ⟨mul_l (by omega) (by omega), fun h => ?_, fun _ => ⟨_, _, _, rfl⟩⟩
      have := of_decide_eq_true h
      omega
    · rintro S ⟨b, c, d, rfl⟩
      exact ⟨rfl, _, _, _, rfl⟩
  rintro S ⟨b, c, d, rfl⟩
  simp? only []
theorem p_round {R : List Int} {T : Int → List P2i} {L : List T3} {bg : List Int} {p q : Nat} {lead xs : List P2i} {N : Int → Int} (V : TabV R T) (lR : R.length ≤ 130) (hL : L.length ≤ 300) (hT : ∀ s e, e ∈ T s ↔ (s, e.1, e.2) ∈ L) (H : Rt R T bg p q lead xs N) (sub : ∀ s ∈ bg, s ∈ R) :
    d__law_goes_round [rateO R p q lead xs N, .lst (L.map tD), .tup (bg.map .int)] = .ok (.bl true) := by
  have hs := size_ge
  obtain ⟨b1, b2, b3⟩ := H.lp.b V
  have pq := H.lo.pq (by omega)
  have q1 := H.lo.q1
  have qt := H.lo.qt
  have hln := H.lp.ln
  have cr := H.lo.cr
  obtain ⟨s0, c0, hs0, wl, wx⟩ := H.wk
  obtain ⟨cR, lb⟩ := wk_in V (sub s0 hs0) wl
  have xb := (wk_in V cR wx).2
  have w1 := p_is_word fun e he => (lb e he).2
  have w2 := p_is_word fun e he => (xb e he).2
  obtain ⟨K, hK, eM⟩ := p_lmovD hL
  refine Ok.eq ?_
  unfold d__law_goes_round m__law_goes_round
  rw [ok_nox, k_run]
  have hx0 : (xs.map fun p => D.int p.2).length = xs.length := List.length_map ..
  refine seq_cut (fun S => S = [(some (Sl.mk false (rateO R p q lead xs N))), (some (Sl.mk false (.lst (L.map tD)))), (some (Sl.mk false (.tup (bg.map .int)))), none, none, none, none, none]) ?_ ?_
  · simp? only [ro_2, ro_3, w1, w2]
    exact fun h => absurd (of_decide_eq_true h) (by omega)
  rintro S rfl
  have esum : sumAD (.tup (xs.map fun p => D.int p.2)) = .ok (.int (bits xs)) := by
    have : asI (xs.map fun p => D.int p.2) = some (xs.map (·.2)) := asI_mapf _ xs
    show (match asI (xs.map fun p => D.int p.2) with | some ns => M.R.ok (D.int ns.sum) | none => .fail) = _
    rw [this]; rfl
  have crI : bits xs * (q : Int) = (p : Int) * (xs.length : Int) := by
    have h1 : bits xs * ((q : Nat) : Int) = (((bits xs).toNat * q : Nat) : Int) := by rw [Int.natCast_mul, show (((bits xs).toNat : Nat) : Int) = bits xs by omega]
    have h2 : ((p : Nat) : Int) * (xs.length : Int) = ((p * xs.length : Nat) : Int) := by rw [Int.natCast_mul]
    rw [h1, h2, cr]
  refine seq_cut (fun S => S = [(some (Sl.mk false (rateO R p q lead xs N))), (some (Sl.mk false (.lst (L.map tD)))), (some (Sl.mk false (.tup (bg.map .int)))), none, none, none, none, none]) ?_ ?_
  · simp? only [ro_0, ro_1, ro_3, esum]
    exact ⟨mul_r (by omega) (by omega), mul_r (by omega) (by omega), fun h => absurd crI (of_decide_eq_false h)⟩
  rintro S rfl
  refine seq_cut (fun S => S = [(some (Sl.mk false (rateO R p q lead xs N))), (some (Sl.mk false (.lst (L.map tD)))), (some (Sl.mk false (.tup (bg.map .int)))), (some (Sl.mk false (movD L K))), none, none, none, none]) (by simp? only [eM]) ?_
  rintro S rfl
  refine seq_cut (fun S => ∃ X : List Int, (∀ y ∈ bg, y ∈ X) ∧ S = [(some (Sl.mk false (rateO R p q lead xs N))), (some (Sl.mk false (.lst (L.map tD)))), (some (Sl.mk false (.tup (bg.map .int)))), (some (Sl.mk false (movD L K))), (some (Sl.mk false (.tup (X.map .int)))), none, none, none]) ?_ ?_
  · simp? only [k_srtIT]
    exact ⟨_, fun y hy => (List.mergeSort_perm bg ile).mem_iff.mpr hy, rfl⟩
  rintro S ⟨X, hX, rfl⟩
  refine seq_cut (fun S => ∃ (X : List Int) (a : Option Sl), c0 ∈ X ∧ S = [(some (Sl.mk false (rateO R p q lead xs N))), (some (Sl.mk false (.lst (L.map tD)))), (some (Sl.mk false (.tup (bg.map .int)))), (some (Sl.mk false (movD L K))), (some (Sl.mk false (.tup (X.map .int)))), a, none, none]) ?_ ?_
  · simp? only [ro_2]
    refine for_typed (fun p : P2i => D.int p.2) (fun done S => ∃ (X : List Int) (a : Option Sl), (∀ t, Wk T s0 done t → t ∈ X) ∧ S = [(some (Sl.mk false (rateO R p q lead xs N))), (some (Sl.mk false (.lst (L.map tD)))), (some (Sl.mk false (.tup (bg.map .int)))), (some (Sl.mk false (movD L K))), (some (Sl.mk false (.tup (X.map .int)))), a, none, none]) lead _ ⟨X, none, fun t h => by cases h; exact hX _ hs0, rfl⟩ ?_ ?_
    · rintro done x rest S eq ⟨X, a, hX, rfl⟩
      obtain ⟨Y, hY, eY⟩ := p_laftD hL hK X x.2
      simp? only [eY]
      refine ⟨Y, _, fun t h => ?_, rfl⟩
      obtain ⟨u, h1, h2⟩ := wk_app.mp h
      obtain ⟨e1, h3⟩ := wk_one.mp h2
      exact (hY t).mpr ⟨u, hX u h1, (hT u (x.2, t)).mp h3⟩
    · rintro S ⟨X, a, hX, rfl⟩
      exact ⟨rfl, X, a, hX c0 wl, rfl⟩
  rintro S ⟨X, a, hc, rfl⟩
  rw [k_seq, k_for]
  have ei : Ok ((fun S => (eV 4) S >>= itemsD) [(some (Sl.mk false (rateO R p q lead xs N))), (some (Sl.mk false (.lst (L.map tD)))), (some (Sl.mk false (.tup (bg.map .int)))), (some (Sl.mk false (movD L K))), (some (Sl.mk false (.tup (X.map .int)))), a, none, none]) fun ds => ds = X.map .int := by simp? only []
  refine ei.mono ?_
  rintro ds rfl
  refine for_typed D.int (fun done S => c0 ∉ done ∧ ∃ (a b c : Option Sl), S = [(some (Sl.mk false (rateO R p q lead xs N))), (some (Sl.mk false (.lst (L.map tD)))), (some (Sl.mk false (.tup (bg.map .int)))), (some (Sl.mk false (movD L K))), (some (Sl.mk false (.tup (X.map .int)))), a, b, c]) X _ ⟨by simp, a, none, none, rfl⟩ ?_ ?_
  · rintro done x rest S eq ⟨hn, a, b, c, rfl⟩
    rw [k_gN]
    simp only [List.set_cons_succ, List.set_cons_zero]
    refine seq_cut (fun S => S = [(some (Sl.mk false (rateO R p q lead xs N))), (some (Sl.mk false (.lst (L.map tD)))), (some (Sl.mk false (.tup (bg.map .int)))), (some (Sl.mk false (movD L K))), (some (Sl.mk false (.tup (X.map .int)))), a, (some (Sl.mk false (.int x))), (some (Sl.mk false (.tup ([x].map .int))))]) (by simp? only []) ?_
    rintro S rfl
    refine seq_cut (fun S => ∃ (Y : List Int) (a : Option Sl), (∀ t, Wk T x xs t → t ∈ Y) ∧ S = [(some (Sl.mk false (rateO R p q lead xs N))), (some (Sl.mk false (.lst (L.map tD)))), (some (Sl.mk false (.tup (bg.map .int)))), (some (Sl.mk false (movD L K))), (some (Sl.mk false (.tup (X.map .int)))), a, (some (Sl.mk false (.int x))), (some (Sl.mk false (.tup (Y.map .int))))]) ?_ ?_
    · simp? only [ro_3]
      refine for_typed (fun p : P2i => D.int p.2) (fun dn S => ∃ (Y : List Int) (a : Option Sl), (∀ t, Wk T x dn t → t ∈ Y) ∧ S = [(some (Sl.mk false (rateO R p q lead xs N))), (some (Sl.mk false (.lst (L.map tD)))), (some (Sl.mk false (.tup (bg.map .int)))), (some (Sl.mk false (movD L K))), (some (Sl.mk false (.tup (X.map .int)))), a, (some (Sl.mk false (.int x))), (some (Sl.mk false (.tup (Y.map .int))))]) xs _ ⟨[x], a, fun t h => by cases h; simp, rfl⟩ ?_ ?_
      · rintro dn y rest2 S eq2 ⟨Y, a, hY, rfl⟩
        obtain ⟨Z, hZ, eZ⟩ := p_laftD hL hK Y y.2
        simp? only [eZ]
        refine ⟨Z, _, fun t h => ?_, rfl⟩
        obtain ⟨u, h1, h2⟩ := wk_app.mp h
        obtain ⟨e1, h3⟩ := wk_one.mp h2
        exact (hZ t).mpr ⟨u, hY u h1, (hT u (y.2, t)).mp h3⟩
      · rintro S ⟨Y, a, hY, rfl⟩
        exact ⟨rfl, Y, a, hY, rfl⟩
    rintro S ⟨Y, a, hY, rfl⟩
    have e0 : Ok (tB' (e2 inA (eW 6) (eW 7)) [(some (Sl.mk false (rateO R p q lead xs N))), (some (Sl.mk false (.lst (L.map tD)))), (some (Sl.mk false (.tup (bg.map .int)))), (some (Sl.mk false (movD L K))), (some (Sl.mk false (.tup (X.map .int)))), a, (some (Sl.mk false (.int x))), (some (Sl.mk false (.tup (Y.map .int))))]) fun b => b = decide (x ∈ Y) := by simp? only [k_inIT]
    rw [k_if]
    refine e0.mono ?_
    rintro _ rfl
    refine ⟨fun _ => ?_, fun h => ?_⟩
    · simp? only []
    · have h := of_decide_eq_false h
      refine ok_ok.mpr ⟨fun z => ?_, _, _, _, rfl⟩
      rcases List.mem_append.mp z with z | z
      · exact hn z
      · have := List.mem_singleton.mp z
        subst this
        exact h (hY _ wx)
  · rintro S ⟨hn, _⟩
    exact absurd hc hn
set_option Elab.async false
set_option linter.all false
set_option maxRecDepth 100000
open M PySem L2
theorem edT_le : ∀ (R : List Int), R.Nodup → ∀ L : List T3, (R.flatMap (edT (outs L))).length ≤ L.length
  | [], _, L => Nat.zero_le _
  | s :: R, nd, L => by
    have h1 := List.nodup_cons.mp nd
    have ih := edT_le R h1.2 (L.filter fun e => !decide (e.1 = s))
    have e1 : R.flatMap (edT (outs L)) = R.flatMap (edT (outs (L.filter fun e => !decide (e.1 = s)))) := by
      rw [List.flatMap_def, List.flatMap_def]
      congr 1
      refine List.map_congr_left fun y hy => ?_
      have hne : y ≠ s := fun z => h1.1 (by rw [← z]; exact hy)
      unfold edT outs
      rw [List.filter_filter]
      congr 3
      funext e
      by_cases h : e.1 = y
      · have : e.1 ≠ s := fun z => hne (h.symm.trans z)
        simp [h, hne]
      · simp [h]
    have e2 : (edT (outs L) s).length ≤ (L.filter fun e => decide (e.1 = s)).length := by
      unfold edT outs
      rw [List.length_map, List.length_map]
      exact Nat.le_refl _
    have e3 : L.length = (L.filter fun e => decide (e.1 = s)).length + (L.filter fun e => !decide (e.1 = s)).length := by
      have := List.length_eq_countP_add_countP (p := fun e : T3 => decide (e.1 = s)) (l := L)
      rw [List.countP_eq_length_filter, List.countP_eq_length_filter] at this
      rw [this]
      congr 2
      refine List.filter_congr fun e _ => ?_
      by_cases h : e.1 = s <;> simp [h]
    rw [List.flatMap_cons, List.length_append, e1]
    omega
structure Rg (L : List T3) (R bg : List Int) (sp : D) : Prop where
  ex : ∃ (d : D) (p q : Nat), d_rate [sp] = .ok d ∧ d__law_bears [d, .lst (L.map tD), .lst (R.map .int)] = .ok (.bl true) ∧ d__law_goes_round [d, .lst (L.map tD), .tup (bg.map .int)] = .ok (.bl true) ∧ fldD 5 0 d = .ok (.int p) ∧ fldD 5 1 d = .ok (.int q)
theorem p_rg {size : Int} {L : List T3} {bg R : List Int} (V : DrS size L bg) (h : Lst L bg R) (hs : srtN R = R) (nd : R.Nodup) (bd : ∀ x ∈ R, 0 ≤ x ∧ x < size) : Rg L R bg (supO size (L.mergeSort tle) bg) := by
  have T0 := V.tb nd bd h
  obtain ⟨R2, n2, b2, l2, e2⟩ := p_reachedB V.sup
  have eR : srtN R2 = R := by rw [l2.sort.uq h, hs]
  rw [eR] at e2
  have ll : (L.mergeSort tle).length ≤ 300 := by rw [List.length_mergeSort]; exact T0.tl
  have lR : R.length ≤ 130 := by have := nd_bound nd bd; have := V.s2; omega
  have mv := p_moves_from nd T0.ln ll e2
  have T1 : Tb0 (L.mergeSort tle) R := ⟨nd, T0.ln, T0.ne, ll, fun s hs => by
    obtain ⟨e, he, z⟩ := T0.ev s hs
    exact ⟨e, ms_t.mpr he, z⟩, fun e he => T0.cl e (ms_t.mp he), fun e he => T0.tb e (ms_t.mp he)⟩
  have W := T1.tab
  have hT : ∀ s e, e ∈ outs (L.mergeSort tle) s ↔ (s, e.1, e.2) ∈ L := fun s e => by rw [outs_mem, ms_t]
  have lE := edT_le R nd (L.mergeSort tle)
  obtain ⟨p, q, lead, xs, N, H, er⟩ := p_rate W lR (by omega) mv h.st (strict_nd V.bS) V.b0 fun P p1 p2 => h.mn P p1 fun e he hP => p2 e.1 hP (e.2.1, e.2.2) ((hT _ _).mpr he)
  exact ⟨_, p, q, er, p_bears W lR hT H T0.cl, p_round W lR T0.tl hT H h.st, rfl, rfl⟩
theorem pure_law : ∀ ns : List Int, ns.length ≤ 63 → (∀ z ∈ ns, PySem.Builtin.Int.intBits z ≤ 1048576) → d_law [.scr ns] = .ok (.bl true) := by
  intro ns h63 hb
  have hs := size_ge
  apply Ok.eq
  unfold d_law m_law
  rw [ok_nox, k_run]
  obtain ⟨size, L, bg, V, eD⟩ := p_drawn ns h63
  obtain ⟨R1, n1, b1, l1, eR⟩ := p_lreached V
  have nd : (srtN R1).Nodup := strict_nd (srtN_strict R1)
  have bd : ∀ x ∈ srtN R1, 0 ≤ x ∧ x < size := fun x hx => b1 x ((srtN_mem R1).mp hx)
  have l2 : Lst (L.map trn) bg (srtN R1) := l1.srt.of (fun e he => ⟨trn e, List.mem_map_of_mem he, rfl, rfl⟩) fun e he => by
    obtain ⟨x, hx, rfl⟩ := List.mem_map.mp he
    exact ⟨x, hx, rfl, rfl⟩
  have G1 := p_rg V l1.srt (srtN_id (srtN_strict R1)) nd bd
  have G2 := p_rg V.turn l2 (srtN_id (srtN_strict R1)) nd bd
  have s1 : d_Supply [.int size, .lst (L.map tD), .tup (bg.map .int)] = .ok (supO size (L.mergeSort tle) bg) := p_made (t1 := false) (t2 := true) V
  have s2 : d_Supply [.int size, .lst ((L.map trn).map tD), .tup (bg.map .int)] = .ok (supO size ((L.map trn).mergeSort tle) bg) := p_made (t1 := false) (t2 := true) V.turn
  have y1 := p_stays V
  have y2 := p_stays V.turn
  have lL := V.ln
  generalize supO size (L.mergeSort tle) bg = sp1 at G1 s1 y1
  generalize supO size ((L.map trn).mergeSort tle) bg = sp2 at G2 s2 y2
  generalize srtN R1 = R at G1 G2 eR
  obtain ⟨d1, p1, q1, r1, be1, go1, f1, g1⟩ := G1.ex
  obtain ⟨d2, p2, q2, r2, be2, go2, f2, g2⟩ := G2.ex
  refine seq_cut (fun S => S = [(some (Sl.mk false (.scr ns))), (some (Sl.mk false (.int size))), (some (Sl.mk false (.lst (L.map tD)))), (some (Sl.mk false (.tup (bg.map .int)))), none, none, none, none, none, none, none, none, none, none]) ?_ ?_
  · simp? only [eD]
  rintro S rfl
  refine seq_cut (fun S => S = [(some (Sl.mk false (.scr ns))), (some (Sl.mk false (.int size))), (some (Sl.mk false (.lst (L.map tD)))), (some (Sl.mk false (.tup (bg.map .int)))), (some (Sl.mk false (.lst ((L.map trn).map tD)))), none, none, none, none, none, none, none, none, none]) ?_ ?_
  · simp? only []
    refine k_lcM tD (fun e => tD (trn e)) L ?_ (by omega) ?_ ?_
    · simp? only []
    · intro x hx
      simp? only [k_gT3, wipeS]
      rfl
    · simp? only []
      rw [List.map_map]; rfl
  rintro S rfl
  refine seq_cut (fun S => S = [(some (Sl.mk false (.scr ns))), (some (Sl.mk false (.int size))), (some (Sl.mk false (.lst (L.map tD)))), (some (Sl.mk false (.tup (bg.map .int)))), (some (Sl.mk false (.lst ((L.map trn).map tD)))), (some (Sl.mk false (.lst (R.map .int)))), none, none, none, none, none, none, none, none]) ?_ ?_
  · simp? only [eR]
  rintro S rfl
  generalize eW1 : D.tup [.int size, .lst (L.map tD), .tup (bg.map .int)] = w1 at y1
  generalize eW2 : D.tup [.int size, .lst ((L.map trn).map tD), .tup (bg.map .int)] = w2 at y2
  refine seq_cut (fun S => S = [(some (Sl.mk false (.scr ns))), (some (Sl.mk false (.int size))), (some (Sl.mk false (.lst (L.map tD)))), (some (Sl.mk false (.tup (bg.map .int)))), (some (Sl.mk false (.lst ((L.map trn).map tD)))), (some (Sl.mk false (.lst (R.map .int)))), (some (Sl.mk false (.lst [w1, w2]))), none, none, none, none, none, none, none]) ?_ ?_
  · simp? only []
    rw [← eW1, ← eW2]
  rintro S rfl
  refine seq_cut (fun S => S = [(some (Sl.mk false (.scr ns))), (some (Sl.mk false (.int size))), (some (Sl.mk false (.lst (L.map tD)))), (some (Sl.mk false (.tup (bg.map .int)))), (some (Sl.mk false (.lst ((L.map trn).map tD)))), (some (Sl.mk false (.lst (R.map .int)))), (some (Sl.mk false (.lst [w1, w2]))), (some (Sl.mk false (.lst [sp1, sp2]))), none, none, none, none, none, none]) ?_ ?_
  · simp? only [s1, s2]
  rintro S rfl
  refine seq_cut (fun S => S = [(some (Sl.mk false (.scr ns))), (some (Sl.mk false (.int size))), (some (Sl.mk false (.lst (L.map tD)))), (some (Sl.mk false (.tup (bg.map .int)))), (some (Sl.mk false (.lst ((L.map trn).map tD)))), (some (Sl.mk false (.lst (R.map .int)))), (some (Sl.mk false (.lst [w1, w2]))), (some (Sl.mk false (.lst [sp1, sp2]))), (some (Sl.mk true (.lst (([] : List (Nat × Nat)).map fun p => .tup [.int p.1, .int p.2])))), none, none, none, none, none]) ?_ ?_
  · simp? only []
  rintro S rfl
  let pk : Nat → Nat × Nat := fun k => if k = 0 then (p1, q1) else (p2, q2)
  refine seq_cut (fun S => ∃ a b, S = [(some (Sl.mk false (.scr ns))), (some (Sl.mk false (.int size))), (some (Sl.mk false (.lst (L.map tD)))), (some (Sl.mk false (.tup (bg.map .int)))), (some (Sl.mk false (.lst ((L.map trn).map tD)))), (some (Sl.mk false (.lst (R.map .int)))), (some (Sl.mk false (.lst [w1, w2]))), (some (Sl.mk false (.lst [sp1, sp2]))), (some (Sl.mk true (.lst (([0, 1, 0].map pk).map fun p => .tup [.int p.1, .int p.2])))), a, b, none, none, none]) ?_ ?_
  · rw [k_for]
    have ei : Ok ((fun S => (eT (aC (eI (0)) (aC (eI (1)) (aC (eI (0)) aN)))) S >>= itemsD) [(some (Sl.mk false (.scr ns))), (some (Sl.mk false (.int size))), (some (Sl.mk false (.lst (L.map tD)))), (some (Sl.mk false (.tup (bg.map .int)))), (some (Sl.mk false (.lst ((L.map trn).map tD)))), (some (Sl.mk false (.lst (R.map .int)))), (some (Sl.mk false (.lst [w1, w2]))), (some (Sl.mk false (.lst [sp1, sp2]))), (some (Sl.mk true (.lst (([] : List (Nat × Nat)).map fun p => .tup [.int p.1, .int p.2])))), none, none, none, none, none]) fun ds => ds = [0, 1, 0].map fun n : Nat => D.int n := by
      simp? only []
      rfl
    refine ei.mono ?_
    rintro ds rfl
    refine for_typed (fun n : Nat => D.int n) (fun done S => ∃ a b, S = [(some (Sl.mk false (.scr ns))), (some (Sl.mk false (.int size))), (some (Sl.mk false (.lst (L.map tD)))), (some (Sl.mk false (.tup (bg.map .int)))), (some (Sl.mk false (.lst ((L.map trn).map tD)))), (some (Sl.mk false (.lst (R.map .int)))), (some (Sl.mk false (.lst [w1, w2]))), (some (Sl.mk false (.lst [sp1, sp2]))), (some (Sl.mk true (.lst ((done.map pk).map fun p => .tup [.int p.1, .int p.2])))), a, b, none, none, none]) _ _ ⟨none, none, rfl⟩ ?_ ?_
    · rintro done n rest S eq ⟨a, b, rfl⟩
      have ld : done.length < 3 := by have := congrArg List.length eq; simp at this; omega
      have hn : n = 0 ∨ n = 1 := by
        have : n ∈ [0, 1, 0] := by rw [eq]; simp
        simp only [List.mem_cons, List.not_mem_nil, or_false] at this
        omega
      rw [k_gN]
      simp only [List.set_cons_succ, List.set_cons_zero]
      rcases hn with rfl | rfl
      · refine seq_cut (fun S => S = [(some (Sl.mk false (.scr ns))), (some (Sl.mk false (.int size))), (some (Sl.mk false (.lst (L.map tD)))), (some (Sl.mk false (.tup (bg.map .int)))), (some (Sl.mk false (.lst ((L.map trn).map tD)))), (some (Sl.mk false (.lst (R.map .int)))), (some (Sl.mk false (.lst [w1, w2]))), (some (Sl.mk false (.lst [sp1, sp2]))), (some (Sl.mk true (.lst ((done.map pk).map fun p => .tup [.int p.1, .int p.2])))), (some (Sl.mk false (.int ((0 : Nat) : Int)))), (some (Sl.mk false (d1))), none, none, none]) ?_ ?_
        · simp? only []
          refine ⟨_, rfl, ?_⟩
          simp? only [r1]
        rintro S rfl
        refine seq_cut (fun S => S = [(some (Sl.mk false (.scr ns))), (some (Sl.mk false (.int size))), (some (Sl.mk false (.lst (L.map tD)))), (some (Sl.mk false (.tup (bg.map .int)))), (some (Sl.mk false (.lst ((L.map trn).map tD)))), (some (Sl.mk false (.lst (R.map .int)))), (some (Sl.mk false (.lst [w1, w2]))), (some (Sl.mk false (.lst [sp1, sp2]))), (some (Sl.mk true (.lst ((done.map pk).map fun p => .tup [.int p.1, .int p.2])))), (some (Sl.mk false (.int ((0 : Nat) : Int)))), (some (Sl.mk false (d1))), none, none, none]) ?_ ?_
        · subst eW1
          simp? only []
          refine ⟨_, rfl, ?_⟩
          simp? only []
          refine ⟨_, rfl, ?_⟩
          simp? only [be1]
          refine ⟨_, rfl, ?_⟩
          simp? only []
          refine ⟨_, rfl, ?_⟩
          simp? only [go1]
        rintro S rfl
        simp? only [f1, g1]
        refine ⟨by omega, (some (Sl.mk false (.int ((0 : Nat) : Int)))), (some (Sl.mk false (d1))), ?_⟩
        rw [List.map_append, List.map_append]
        rfl
      · refine seq_cut (fun S => S = [(some (Sl.mk false (.scr ns))), (some (Sl.mk false (.int size))), (some (Sl.mk false (.lst (L.map tD)))), (some (Sl.mk false (.tup (bg.map .int)))), (some (Sl.mk false (.lst ((L.map trn).map tD)))), (some (Sl.mk false (.lst (R.map .int)))), (some (Sl.mk false (.lst [w1, w2]))), (some (Sl.mk false (.lst [sp1, sp2]))), (some (Sl.mk true (.lst ((done.map pk).map fun p => .tup [.int p.1, .int p.2])))), (some (Sl.mk false (.int ((1 : Nat) : Int)))), (some (Sl.mk false (d2))), none, none, none]) ?_ ?_
        · simp? only []
          refine ⟨_, rfl, ?_⟩
          simp? only [r2]
        rintro S rfl
        refine seq_cut (fun S => S = [(some (Sl.mk false (.scr ns))), (some (Sl.mk false (.int size))), (some (Sl.mk false (.lst (L.map tD)))), (some (Sl.mk false (.tup (bg.map .int)))), (some (Sl.mk false (.lst ((L.map trn).map tD)))), (some (Sl.mk false (.lst (R.map .int)))), (some (Sl.mk false (.lst [w1, w2]))), (some (Sl.mk false (.lst [sp1, sp2]))), (some (Sl.mk true (.lst ((done.map pk).map fun p => .tup [.int p.1, .int p.2])))), (some (Sl.mk false (.int ((1 : Nat) : Int)))), (some (Sl.mk false (d2))), none, none, none]) ?_ ?_
        · subst eW2
          simp? only []
          refine ⟨_, rfl, ?_⟩
          simp? only []
          refine ⟨_, rfl, ?_⟩
          simp? only [be2]
          refine ⟨_, rfl, ?_⟩
          simp? only []
          refine ⟨_, rfl, ?_⟩
          simp? only [go2]
        rintro S rfl
        simp? only [f2, g2]
        refine ⟨by omega, (some (Sl.mk false (.int ((1 : Nat) : Int)))), (some (Sl.mk false (d2))), ?_⟩
        rw [List.map_append, List.map_append]
        rfl
    · rintro S ⟨a, b, rfl⟩
      exact ⟨rfl, _, _, rfl⟩
  rintro S ⟨a, b, rfl⟩
  have e8 : ([0, 1, 0].map pk).map (fun p => D.tup [.int p.1, .int p.2]) = [.tup [.int p1, .int q1], .tup [.int p2, .int q2], .tup [.int p1, .int q1]] := rfl
  rw [e8]
  refine seq_cut (fun S => S = [(some (Sl.mk false (.scr ns))), (some (Sl.mk false (.int size))), (some (Sl.mk false (.lst (L.map tD)))), (some (Sl.mk false (.tup (bg.map .int)))), (some (Sl.mk false (.lst ((L.map trn).map tD)))), (some (Sl.mk false (.lst (R.map .int)))), (some (Sl.mk false (.lst [w1, w2]))), (some (Sl.mk false (.lst [sp1, sp2]))), (some (Sl.mk true (.lst [.tup [.int p1, .int q1], .tup [.int p2, .int q2], .tup [.int p1, .int q1]]))), a, b, none, none, none]) ?_ ?_
  · simp? only []
    refine ⟨_, rfl, _, rfl, ?_⟩
    simp? only [k_neS (show dok 60 (.tup [.int p1, .int q1]) = true from rfl)]
  rintro S rfl
  simp? only []
  refine ⟨_, rfl, _, rfl, ?_⟩
  simp? only [y1]
  refine ⟨_, rfl, _, rfl, ?_⟩
  simp? only [y2]
end Pf
set_option Elab.async false
set_option linter.all false
set_option maxRecDepth 100000
set_option maxHeartbeats 0
open PySem PySem.W PySem.Calls PyProof.Rows
theorem PySem.Challenge.cw_firstbreach_k17_rate_has_loop_and_number_holds : PySem.Challenge.rw_firstbreach_k17_rate_has_loop_and_number.Holds := by
  w_on; o_law
  refine HandSHeadRun.head_any (r := OpenLaw.row PySem.Challenge.rw_firstbreach_k17_rate_has_loop_and_number) (q := view (OpenLaw.row PySem.Challenge.rw_firstbreach_k17_rate_has_loop_and_number).prog [39]) (H := Pf.hk) (ob := Pf.ob) (M := 4000) (loose := Pf.looseN) (d := HandSHeadRun.topDef (OpenLaw.row PySem.Challenge.rw_firstbreach_k17_rate_has_loop_and_number).prog 39) (kwd := []) Pf.ob_eq
    (by kernel_rfl) (fun s => by kernel_rfl) Pf.run (by kernel_rfl) (by kernel_rfl) (by kernel_rfl) (by rfl) (by first | assumption | decide +kernel) (by decide +kernel) ⟨rfl, rfl, rfl, rfl, rfl, by decide +kernel⟩ ?hw ?hc
  case hw => w_witness2
  case hc =>
    refine M.walk_ofX (l := PySem.Challenge.rw_firstbreach_k17_rate_has_loop_and_number) (n := 63) (k := 5) (x := "_law_script") (den := Pf.d_law) rfl (by decide) (by kernel_rfl) ⟨rfl, by decide, by decide⟩ ?F Pf.pure_law
    intro w mg fa h Y G hmg0
    obtain ⟨K, KX, c⟩ := Y
    have hmg : mg ("law" : PySem.Str) = some (.ref fa) := by
      have e : (HandSHeadRun.topDef (OpenLaw.row PySem.Challenge.rw_firstbreach_k17_rate_has_loop_and_number).prog 39).name = ("law" : PySem.Str) := by kernel_rfl
      rw [← e]
      exact hmg0
    obtain ⟨fd, hb, hF⟩ := Pf.facts (P := (PySem.Challenge.rw_firstbreach_k17_rate_has_loop_and_number).prog) (w := w) KX G hmg c
    exact ⟨K, fd, Pf.clK K, KX, hb, hF⟩
