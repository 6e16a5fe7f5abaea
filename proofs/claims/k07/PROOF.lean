import PyProof.Rows.All
import HandS.ForMost
import HandS.Flow
import HandS.Deep
import HandS.Evl
import HandS.WordsExc
import HandS.Exc
import HandS.TupAny
import HandS.TupMul
import HandS.TupLe
import HandS.WideBits
import HandS.Zip
import HandS.Defaults
import HandS.IsInst
import HandS.Strs
import KE.SortData
import HandS.Text
import HandS.Style
import HandS.MakeKwOnly
import HandS.MakeKw
import HandS.SetBool
import HandS.TupSets
import KE.GoesEnum
import KE.GoesMore
import HandS.Property
import HandS.Head0
import HandS.Head1
import HandS.Head2
import HandS.HeadEnd
import HandS.HeadHook1
import HandS.HeadHook2
import HandS.EndBits
import HandS.HeadNt
import KE.DataAny
import HandS.Conv
import HandS.More
import HandS.HeadHook3
import PyProof.RulesMatch
import HandS.SetFor
import HandS.SetKeys
import HandS.SortKw
import HandS.Keys
import KE.SortKeyHeap
import KE.KMinKey
import HandS.ExcInit
import HandS.ExcCtx
import KE.KExcLine
import KE.KSuper
import HandS.ExcField
import HandS.ExcIs
import HandS.TryOnly
import HandS.HotCalls
import HandS.ClsMeth
import HandS.DictComp
import HandS.Small
import HandS.Star
import HandS.GenBody
import HandS.GenCall
import HandS.GenList
import HandS.GenYield
import HandS.FStr
import PyProof.RulesAssignMore
import HandS.Zip0
import KE.KCallOwn
import KE.DataMinMax
import PySem.Challenge.RW_firstbreach_k07_chosen_job
set_option Elab.async false
set_option linter.all false
set_option maxRecDepth 100000
set_option maxHeartbeats 4000000
namespace M
open PySem L2
inductive D where
  | non | bl (b : Bool) | int (i : Int) | str (x : Str) | ty (n : String)
  | tup (xs : List D) | lst (xs : List D) | dic (ks : List Key) (vs : List D) | dit (ks : List (List Key)) (vs : List D)
  | obj (c : Nat) (fs : List D) | scr (ns : List Int) | cls (c : Nat)
  | dkf (ks : List Key) (vs : List D)
  deriving Inhabited
structure Exc where
  c : Nat
  fs : List D
inductive R (α : Type) where
  | ok (a : α) | exc (x : Exc) | fail
def R.bind {α β : Type} (r : R α) (f : α → R β) : R β := match r with
  | .ok a => f a
  | .exc x => .exc x
  | .fail => .fail
instance : Monad R where
  pure := .ok
  bind := R.bind
@[simp] theorem R.pure_eq {α : Type} (a : α) : (pure a : R α) = .ok a := rfl
@[simp] theorem R.ok_bind {α β : Type} (a : α) (f : α → R β) : (R.ok a >>= f) = f a := rfl
@[simp] theorem R.exc_bind {α β : Type} (x : Exc) (f : α → R β) : (R.exc x >>= f) = .exc x := rfl
@[simp] theorem R.fail_bind {α β : Type} (f : α → R β) : (R.fail >>= f) = .fail := rfl
def R.nox {α : Type} : R α → R α
  | .exc _ => .fail
  | r => r
@[simp] theorem R.nox_ok {α : Type} (a : α) : (R.ok a).nox = .ok a := rfl
@[simp] theorem R.nox_fail {α : Type} : (R.fail : R α).nox = .fail := rfl
def R.need (b : Bool) : R Unit := if b then .ok () else .fail
@[simp] theorem R.need_true : R.need true = .ok () := rfl
structure Sl where
  own : Bool
  d : D
abbrev Env := List (Option Sl)
abbrev FE := Env → R D
abbrev FT := Env → R Bool
abbrev FA := Env → R (List D)
inductive Fl where
  | nx | bk | ct | rt (d : D)
abbrev FS := Env → R (Fl × Env)
abbrev FG := D → Env → R Env
inductive Kd where
  | st | bo | fr
def Ex (H H' : Hp) : Prop := ∀ a o, H a = some o → H' a = some o
theorem Ex.refl (H : Hp) : Ex H H := fun _ _ h => h
theorem Ex.trans {H H1 H2 : Hp} (a : Ex H H1) (b : Ex H1 H2) : Ex H H2 := fun x o h => b x o (a x o h)
theorem Ex.new {H : Hp} {p : Addr} {o : HO} (h : H p = none) : Ex H (upd H p o) := fun a u e => by
  rw [upd_ne (ne_of_none e h)]; exact e
theorem Ex.upd {H H' : Hp} {p : Addr} {o : HO} (e : Ex H H') (h : H p = none) : Ex H (upd H' p o) := fun a u q => by
  rw [upd_ne (ne_of_none q h)]; exact e a u q
theorem Ex.upd2 {H H' : Hp} {p : Addr} {o : HO} (e : Ex H H') (h : H' p = some o) : Ex (L2.upd H p o) H' := fun a u q => by
  by_cases ha : a = p
  · subst ha; rw [upd_same] at q; cases q; exact h
  · rw [upd_ne ha] at q; exact e a u q
theorem Ex.free {H H' : Hp} (e : Ex H H') {l : Addr} (h : H' l = none) : H l = none := by
  cases q : H l with
  | none => rfl
  | some o => rw [e l o q] at h; cases h
theorem Ex.sqL {K : PySem.W.Frag} {H H' : Hp} {a : Addr} {xs : List V} (e : Ex H H') (h : SqL K H a xs) : SqL K H' a xs := by
  rcases h with (h | ⟨o, h⟩) | h
  · exact .inl (.inl (e _ _ h))
  · exact .inl (.inr ⟨o, e _ _ h⟩)
  · exact .inr h
theorem Ex.sqT {K : PySem.W.Frag} {H H' : Hp} {a : Addr} {xs : List V} (e : Ex H H') (h : SqT K H a xs) : SqT K H' a xs := by
  rcases h with (h | ⟨o, h⟩) | h
  · exact .inl (.inl (e _ _ h))
  · exact .inl (.inr ⟨o, e _ _ h⟩)
  · exact .inr h
def okC (xs : List V) : Bool := decide (xs.length < 2) || (decide (3 < xs.length) || xs.all fun x => match x with | .str _ => true | _ => false)
def SqU (K : PySem.W.Frag) (H : Hp) (a : Addr) (xs : List V) : Prop := H a = some (.tup xs) ∨ ∃ (o : Obj) (its : Array Value) (n : Nat), K.lookup a = some o ∧ o.cls = .type "tuple" ∧ o.data = .seq its n ∧ its.size ≤ sizeLine ∧ Vals xs its.toList ∧ okC xs = true
theorem SqU.t {K : PySem.W.Frag} {H : Hp} {a : Addr} {xs : List V} (h : SqU K H a xs) : SqT K H a xs := by
  rcases h with h | ⟨o, its, n, h1, h2, h3, h4, h5, _⟩
  · exact SqT.of h
  · exact .inr ⟨o, its, n, h1, h2, h3, h4, h5⟩
theorem SqU.of {K : PySem.W.Frag} {H : Hp} {a : Addr} {xs : List V} (h : H a = some (.tup xs)) : SqU K H a xs := .inl h
theorem Ex.sqU {K : PySem.W.Frag} {H H' : Hp} {a : Addr} {xs : List V} (e : Ex H H') (h : SqU K H a xs) : SqU K H' a xs := by
  rcases h with h | h
  · exact .inl (e _ _ h)
  · exact .inr h
structure Step (G H G' H' : Hp) : Prop where
  g : Ex G G'
  h : Ex H H'
  gh : Ex G' H'
  gr : ∀ b o, G' b = some o → G b = some o ∨ H b = none
theorem Step.refl {G H : Hp} (e : Ex G H) : Step G H G H := ⟨Ex.refl _, Ex.refl _, e, fun _ _ h => .inl h⟩
theorem Step.trans {G H G1 H1 G2 H2 : Hp} (a : Step G H G1 H1) (b : Step G1 H1 G2 H2) : Step G H G2 H2 :=
  ⟨a.g.trans b.g, a.h.trans b.h, b.gh, fun x o q => by
    rcases b.gr x o q with q | q
    · exact a.gr x o q
    · exact .inr (a.h.free q)⟩
theorem Step.new {G H : Hp} {p : Addr} {o : HO} (e : Ex G H) (h : H p = none) : Step G H (upd G p o) (upd H p o) :=
  ⟨Ex.new (e.free h), Ex.new h, fun a u q => by
    by_cases ha : a = p
    · subst ha; rw [upd_same] at q ⊢; exact q
    · rw [upd_ne ha] at q ⊢; exact e a u q, fun b u q => by
    by_cases hb : b = p
    · subst hb; exact .inr h
    · rw [upd_ne hb] at q; exact .inl q⟩
theorem Step.new' {G H : Hp} {p : Addr} {o : HO} (e : Ex G H) (h : H p = none) : Step G H G (upd H p o) :=
  ⟨Ex.refl _, Ex.new h, e.upd (e.free h), fun _ _ q => .inl q⟩
theorem Step.frz {G0 H0 G H : Hp} {p : Addr} {o : HO} (s : Step G0 H0 G H) (h : H p = some o) (h0 : H0 p = none) (hg : G p = none) : Step G0 H0 (upd G p o) H :=
  ⟨s.g.trans (Ex.new hg), s.h, s.gh.upd2 h, fun b u q => by
    by_cases hb : b = p
    · subst hb; exact .inr h0
    · rw [upd_ne hb] at q; exact s.gr b u q⟩
structure Kn where
  K : PySem.W.Frag
  cl : Nat → Option (Addr × List Str)
mutual
inductive RD (k : Kn) (G : Hp) : D → V → Prop where
  | non : RD k G .non .non
  | bl (b : Bool) : RD k G (.bl b) (.bl b)
  | int (i : Int) : RD k G (.int i) (.int i)
  | str (x : Str) : RD k G (.str x) (.str x)
  | ty (n : String) : RD k G (.ty n) (.ty n)
  | tup {ds : List D} {a : Addr} {vs : List V} : SqU k.K G a vs → RDs k G ds vs → RD k G (.tup ds) (.ref a)
  | lst {ds : List D} {a : Addr} {vs : List V} : G a = some (.lst vs) → RDs k G ds vs → RD k G (.lst ds) (.ref a)
  | cls {c : Nat} {C : Addr} {nm : List Str} : k.cl c = some (C, nm) → RD k G (.cls c) (.ref C)
  | scr {ns : List Int} {a : Addr} : SqL k.K G a (ns.map V.int) → RD k G (.scr ns) (.ref a)
  | dic {ks : List Key} {ds : List D} {a : Addr} {vs : List V} : G a = some (.dK (ks.zip vs)) → ks.length = ds.length → RDs k G ds vs → RD k G (.dic ks ds) (.ref a)
  | dit {ks : List (List Key)} {ds : List D} {a : Addr} {vs : List V} : G a = some (.dT (ks.zip vs)) → ks.length = ds.length → RDs k G ds vs → RD k G (.dit ks ds) (.ref a)
  | dkf {ks : List Key} {ds : List D} {a : Addr} {o : Obj} {vs : List V} : G a = some (.frz o (.dK (ks.zip vs))) → ks.length = ds.length → RDs k G ds vs → RD k G (.dkf ks ds) (.ref a)
  | obj {c : Nat} {ds : List D} {a C dx : Addr} {nm : List Str} {vs : List V} : k.cl c = some (C, nm) → G a = some (.ins C dx (nm.zip vs)) → RDs k G ds vs → RD k G (.obj c ds) (.ref a)
inductive RDs (k : Kn) (G : Hp) : List D → List V → Prop where
  | nil : RDs k G [] []
  | cons {d : D} {ds : List D} {v : V} {vs : List V} : RD k G d v → RDs k G ds vs → RDs k G (d :: ds) (v :: vs)
end
mutual
theorem RD.mono {k : Kn} {G G' : Hp} (e : Ex G G') : ∀ {d : D} {v : V}, RD k G d v → RD k G' d v
  | _, _, .non => .non
  | _, _, .bl b => .bl b
  | _, _, .int i => .int i
  | _, _, .str x => .str x
  | _, _, .ty n => .ty n
  | _, _, .tup h r => .tup (e.sqU h) (RDs.mono e r)
  | _, _, .lst h r => .lst (e _ _ h) (RDs.mono e r)
  | _, _, .scr h => .scr (e.sqL h)
  | _, _, .cls h => .cls h
  | _, _, .dic h l r => .dic (e _ _ h) l (RDs.mono e r)
  | _, _, .dit h l r => .dit (e _ _ h) l (RDs.mono e r)
  | _, _, .dkf h l r => .dkf (e _ _ h) l (RDs.mono e r)
  | _, _, .obj c h r => .obj c (e _ _ h) (RDs.mono e r)
theorem RDs.mono {k : Kn} {G G' : Hp} (e : Ex G G') : ∀ {ds : List D} {vs : List V}, RDs k G ds vs → RDs k G' ds vs
  | _, _, .nil => .nil
  | _, _, .cons a b => .cons (RD.mono e a) (RDs.mono e b)
end
section
variable {k : Kn} {G H : Hp}
theorem RDs.length : ∀ {ds : List D} {vs : List V}, RDs k G ds vs → ds.length = vs.length
  | _, _, .nil => rfl
  | _, _, .cons _ b => by simp [RDs.length b]
theorem RDs.append : ∀ {ds es : List D} {vs us : List V}, RDs k G ds vs → RDs k G es us → RDs k G (ds ++ es) (vs ++ us)
  | _, _, _, _, .nil, s => s
  | _, _, _, _, .cons a b, s => .cons a (RDs.append b s)
theorem RDs.get : ∀ {ds : List D} {vs : List V} {i : Nat} {d : D}, RDs k G ds vs → ds[i]? = some d → ∃ v, vs[i]? = some v ∧ RD k G d v
  | _, _, _, _, .nil, h => by simp at h
  | _, _, 0, _, .cons a _, h => by simp at h; subst h; exact ⟨_, rfl, a⟩
  | _, _, i + 1, d, .cons _ b, h => by
    obtain ⟨v, h1, h2⟩ := RDs.get (i := i) (d := d) b (by simpa using h)
    exact ⟨v, by simpa using h1, h2⟩
theorem RDs.take : ∀ {ds : List D} {vs : List V} (n : Nat), RDs k G ds vs → RDs k G (ds.take n) (vs.take n)
  | _, _, 0, _ => by simpa using .nil
  | _, _, _ + 1, .nil => .nil
  | _, _, n + 1, .cons r t => .cons r (RDs.take n t)
theorem RDs.drop : ∀ {ds : List D} {vs : List V} (n : Nat), RDs k G ds vs → RDs k G (ds.drop n) (vs.drop n)
  | _, _, 0, r => r
  | _, _, _ + 1, .nil => .nil
  | _, _, n + 1, .cons _ t => RDs.drop n t
theorem RDs.reverse : ∀ {ds : List D} {vs : List V}, RDs k G ds vs → RDs k G ds.reverse vs.reverse
  | _, _, .nil => .nil
  | _, _, .cons a b => by rw [List.reverse_cons, List.reverse_cons]; exact RDs.append (RDs.reverse b) (.cons a .nil)
theorem RDs.set : ∀ {ds : List D} {vs : List V} (i : Nat) {d : D} {v : V}, RDs k G ds vs → RD k G d v → RDs k G (ds.set i d) (vs.set i v)
  | _, _, _, _, _, .nil, _ => .nil
  | _, _, 0, _, _, .cons _ t, r => .cons r t
  | _, _, i + 1, _, _, .cons q t, r => .cons q (RDs.set i t r)
theorem RDs.ints : ∀ (ns : List Int), RDs k G (ns.map D.int) (ns.map V.int)
  | [] => .nil
  | n :: ns => .cons (.int n) (RDs.ints ns)
end
inductive Cont (k : Kn) (G : Hp) : D → HO → Prop where
  | lst {ds : List D} {vs : List V} : RDs k G ds vs → Cont k G (.lst ds) (.lst vs)
  | dic {ks : List Key} {ds : List D} {vs : List V} : ks.length = ds.length → RDs k G ds vs → Cont k G (.dic ks ds) (.dK (ks.zip vs))
  | dit {ks : List (List Key)} {ds : List D} {vs : List V} : ks.length = ds.length → RDs k G ds vs → Cont k G (.dit ks ds) (.dT (ks.zip vs))
  | obj {c : Nat} {ds : List D} {C dx : Addr} {nm : List Str} {vs : List V} : k.cl c = some (C, nm) → RDs k G ds vs → Cont k G (.obj c ds) (.ins C dx (nm.zip vs))
theorem Cont.mono {k : Kn} {G G' : Hp} (e : Ex G G') {d : D} {o : HO} (c : Cont k G d o) : Cont k G' d o := by
  cases c with
  | lst r => exact .lst (r.mono e)
  | dic l r => exact .dic l (r.mono e)
  | dit l r => exact .dit l (r.mono e)
  | obj h r => exact .obj h (r.mono e)
theorem Cont.rd {k : Kn} {G : Hp} {d : D} {o : HO} {a : Addr} (c : Cont k G d o) (h : G a = some o) : RD k G d (.ref a) := by
  cases c with
  | lst r => exact .lst h r
  | dic l r => exact .dic h l r
  | dit l r => exact .dit h l r
  | obj q r => exact .obj q h r
structure Cf where
  k : Kn
  H0 : Hp
  G0 : Hp
  W : WX
def OwnAt (S : Env) (σ : St) (i : Nat) (a : Addr) : Prop := (∃ d, S[i]? = some (some ⟨true, d⟩)) ∧ σ[i]? = some (some (.ref a))
structure Rel (c : Cf) (G : Hp) (S : Env) (σ : St) (H : Hp) : Prop where
  st : Step c.G0 c.H0 G H
  len : S.length = σ.length
  fz : ∀ (i : Nat) (d : D), S[i]? = some (some ⟨false, d⟩) → ∃ v, σ[i]? = some (some v) ∧ RD c.k G d v
  ow : ∀ (i : Nat) (d : D), S[i]? = some (some ⟨true, d⟩) → ∃ a o, σ[i]? = some (some (.ref a)) ∧ G a = none ∧ c.H0 a = none ∧ H a = some o ∧ Cont c.k G d o
  nd : ∀ (i j : Nat) (a : Addr), OwnAt S σ i a → OwnAt S σ j a → i = j
section
variable {c : Cf} {G G' H H' : Hp} {S : Env} {σ : St}
theorem Rel.own (r : Rel c G S σ H) {i : Nat} {a : Addr} (h : OwnAt S σ i a) : G a = none ∧ c.H0 a = none ∧ ∃ o d, H a = some o ∧ S[i]? = some (some ⟨true, d⟩) ∧ Cont c.k G d o := by
  obtain ⟨⟨d, hd⟩, hs⟩ := h
  obtain ⟨a', o, e, g, h0, ho, ct⟩ := r.ow i d hd
  rw [hs] at e; cases e
  exact ⟨g, h0, o, d, ho, hd, ct⟩
theorem Rel.grow (r : Rel c G S σ H) (s : Step G H G' H') : Rel c G' S σ H' where
  st := r.st.trans s
  len := r.len
  fz := fun i d h => let ⟨v, e, q⟩ := r.fz i d h; ⟨v, e, q.mono s.g⟩
  ow := fun i d h => by
    obtain ⟨a, o, e, g, h0, ho, ct⟩ := r.ow i d h
    refine ⟨a, o, e, ?_, h0, s.h _ _ ho, ct.mono s.g⟩
    cases q : G' a with
    | none => rfl
    | some u =>
      rcases s.gr a u q with z | z
      · rw [g] at z; cases z
      · rw [ho] at z; cases z
  nd := r.nd
theorem Rel.frz (r : Rel c G S σ H) {i : Nat} {d : D} (h : S[i]? = some (some ⟨true, d⟩)) : ∃ G', Ex G G' ∧ Rel c G' (S.set i (some ⟨false, d⟩)) σ H := by
  obtain ⟨a, o, e, g, h0, ho, ct⟩ := r.ow i d h
  have ow : OwnAt S σ i a := ⟨⟨d, h⟩, e⟩
  have ex : Ex G (upd G a o) := Ex.new g
  have hi : i < S.length := (List.getElem?_eq_some_iff.mp h).1
  refine ⟨upd G a o, ex, ⟨r.st.frz ho h0 g, by rw [List.length_set]; exact r.len, fun j d' q => ?_, fun j d' q => ?_, fun j l b q1 q2 => ?_⟩⟩
  · by_cases hj : i = j
    · subst hj
      rw [List.getElem?_set_self hi] at q; cases q
      exact ⟨_, e, (ct.mono ex).rd upd_same⟩
    · rw [List.getElem?_set_ne hj] at q
      obtain ⟨v, e', q'⟩ := r.fz j d' q
      exact ⟨v, e', q'.mono ex⟩
  · by_cases hj : i = j
    · subst hj
      rw [List.getElem?_set_self hi] at q; cases q
    · rw [List.getElem?_set_ne hj] at q
      obtain ⟨b, u, e', g', h0', ho', ct'⟩ := r.ow j d' q
      have hb : b ≠ a := fun z => hj (r.nd i j a ow ⟨⟨d', q⟩, by rw [← z]; exact e'⟩)
      exact ⟨b, u, e', by rw [upd_ne hb]; exact g', h0', ho', ct'.mono ex⟩
  · have back : ∀ {m : Nat}, OwnAt (S.set i (some ⟨false, d⟩)) σ m b → OwnAt S σ m b := fun {m} hm => by
      obtain ⟨⟨d', q⟩, z⟩ := hm
      by_cases hj : i = m
      · subst hj; rw [List.getElem?_set_self hi] at q; cases q
      · rw [List.getElem?_set_ne hj] at q; exact ⟨⟨d', q⟩, z⟩
    exact r.nd j l b (back q1) (back q2)
theorem Rel.setS (r : Rel c G S σ H) {d : D} {v : V} (i : Nat) (h : RD c.k G d v) : Rel c G (S.set i (some ⟨false, d⟩)) (σ.set i (some v)) H where
  st := r.st
  len := by rw [List.length_set, List.length_set]; exact r.len
  fz := fun j d' q => by
    by_cases hj : i = j
    · subst hj
      have hi : i < S.length := by have := (List.getElem?_eq_some_iff.mp q).1; rwa [List.length_set] at this
      rw [List.getElem?_set_self hi] at q; cases q
      exact ⟨v, List.getElem?_set_self (by rw [← r.len]; exact hi), h⟩
    · rw [List.getElem?_set_ne hj] at q ⊢; exact r.fz j d' q
  ow := fun j d' q => by
    by_cases hj : i = j
    · subst hj
      have hi : i < S.length := by have := (List.getElem?_eq_some_iff.mp q).1; rwa [List.length_set] at this
      rw [List.getElem?_set_self hi] at q; cases q
    · rw [List.getElem?_set_ne hj] at q ⊢; exact r.ow j d' q
  nd := fun j l b q1 q2 => by
    have back : ∀ {m : Nat}, OwnAt (S.set i (some ⟨false, d⟩)) (σ.set i (some v)) m b → OwnAt S σ m b := fun {m} hm => by
      obtain ⟨⟨d', q⟩, z⟩ := hm
      by_cases hj : i = m
      · subst hj
        have hi : i < S.length := by have := (List.getElem?_eq_some_iff.mp q).1; rwa [List.length_set] at this
        rw [List.getElem?_set_self hi] at q; cases q
      · rw [List.getElem?_set_ne hj] at q z; exact ⟨⟨d', q⟩, z⟩
    exact r.nd j l b (back q1) (back q2)
theorem Rel.setO (r : Rel c G S σ H) {d : D} {a : Addr} {o : HO} (i : Nat) (ha : H' a = some o) (hg : G a = none) (h0 : c.H0 a = none) (ct : Cont c.k G d o) (hn : ∀ j, OwnAt S σ j a → j = i) (hh : ∀ b, b ≠ a → H' b = H b) :
    Rel c G (S.set i (some ⟨true, d⟩)) (σ.set i (some (.ref a))) H' where
  st := ⟨r.st.g, fun b u q => by rw [hh b (ne_of_none q h0)]; exact r.st.h b u q, fun b u q => by rw [hh b (ne_of_none q hg)]; exact r.st.gh b u q, r.st.gr⟩
  len := by rw [List.length_set, List.length_set]; exact r.len
  fz := fun j d' q => by
    by_cases hj : i = j
    · subst hj
      have hi : i < S.length := by have := (List.getElem?_eq_some_iff.mp q).1; rwa [List.length_set] at this
      rw [List.getElem?_set_self hi] at q; cases q
    · rw [List.getElem?_set_ne hj] at q ⊢; exact r.fz j d' q
  ow := fun j d' q => by
    by_cases hj : i = j
    · subst hj
      have hi : i < S.length := by have := (List.getElem?_eq_some_iff.mp q).1; rwa [List.length_set] at this
      rw [List.getElem?_set_self hi] at q; cases q
      exact ⟨a, o, List.getElem?_set_self (by rw [← r.len]; exact hi), hg, h0, ha, ct⟩
    · rw [List.getElem?_set_ne hj] at q ⊢
      obtain ⟨b, u, e', g', h0', ho', ct'⟩ := r.ow j d' q
      have hb : b ≠ a := fun z => hj (hn j ⟨⟨d', q⟩, by rw [← z]; exact e'⟩).symm
      exact ⟨b, u, e', g', h0', by rw [hh b hb]; exact ho', ct'⟩
  nd := fun j l b q1 q2 => by
    have back : ∀ {m : Nat}, OwnAt (S.set i (some ⟨true, d⟩)) (σ.set i (some (.ref a))) m b → (m = i ∧ b = a) ∨ (m ≠ i ∧ OwnAt S σ m b) := fun {m} hm => by
      obtain ⟨⟨d', q⟩, z⟩ := hm
      by_cases hj : i = m
      · subst hj
        have hi : i < S.length := by have := (List.getElem?_eq_some_iff.mp q).1; rwa [List.length_set] at this
        rw [List.getElem?_set_self (by rw [← r.len]; exact hi)] at z; cases z
        exact .inl ⟨rfl, rfl⟩
      · rw [List.getElem?_set_ne hj] at q z; exact .inr ⟨Ne.symm hj, ⟨d', q⟩, z⟩
    rcases back q1 with ⟨h1, e1⟩ | ⟨n1, o1⟩ <;> rcases back q2 with ⟨h2, e2⟩ | ⟨n2, o2⟩
    · rw [h1, h2]
    · exact absurd (hn l (by rw [← e1]; exact o2)) n2
    · exact absurd (hn j (by rw [← e2]; exact o1)) n1
    · exact r.nd j l b o1 o2
theorem Rel.unset (r : Rel c G S σ H) (i : Nat) : Rel c G (S.set i none) (σ.set i none) H where
  st := r.st
  len := by rw [List.length_set, List.length_set]; exact r.len
  fz := fun j d' q => by
    by_cases hj : i = j
    · subst hj
      have hi : i < S.length := by have := (List.getElem?_eq_some_iff.mp q).1; rwa [List.length_set] at this
      rw [List.getElem?_set_self hi] at q; cases q
    · rw [List.getElem?_set_ne hj] at q ⊢; exact r.fz j d' q
  ow := fun j d' q => by
    by_cases hj : i = j
    · subst hj
      have hi : i < S.length := by have := (List.getElem?_eq_some_iff.mp q).1; rwa [List.length_set] at this
      rw [List.getElem?_set_self hi] at q; cases q
    · rw [List.getElem?_set_ne hj] at q ⊢; exact r.ow j d' q
  nd := fun j l b q1 q2 => by
    have back : ∀ {m : Nat}, OwnAt (S.set i none) (σ.set i none) m b → OwnAt S σ m b := fun {m} hm => by
      obtain ⟨⟨d', q⟩, z⟩ := hm
      by_cases hj : i = m
      · subst hj
        have hi : i < S.length := by have := (List.getElem?_eq_some_iff.mp q).1; rwa [List.length_set] at this
        rw [List.getElem?_set_self hi] at q; cases q
      · rw [List.getElem?_set_ne hj] at q z; exact ⟨⟨d', q⟩, z⟩
    exact r.nd j l b (back q1) (back q2)
end
def wipeS (S : Env) : List Nat → Env
  | [] => S
  | v :: vs => (wipeS S vs).set v none
theorem Rel.wipe {c : Cf} {G H : Hp} {S : Env} {σ : St} (r : Rel c G S σ H) : ∀ vs : List Nat, Rel c G (wipeS S vs) (L2.wipe σ vs) H
  | [] => r
  | v :: vs => (Rel.wipe r vs).unset v
theorem Rel.mut {c : Cf} {G H : Hp} {S : Env} {σ : St} (r : Rel c G S σ H) {i : Nat} {a : Addr} {d' : D} {o' : HO} (ow : OwnAt S σ i a) (ct : Cont c.k G d' o') : Rel c G (S.set i (some ⟨true, d'⟩)) σ (upd H a o') := by
  obtain ⟨g, h0, _⟩ := r.own ow
  have q := r.setO (H' := upd H a o') i upd_same g h0 ct (fun j oj => r.nd j i a oj ow) (fun b hb => upd_ne hb)
  have e : σ.set i (some (.ref a)) = σ := by
    apply List.ext_getElem?
    intro j
    by_cases hj : i = j
    · subst hj; rw [List.getElem?_set_self (List.getElem?_eq_some_iff.mp ow.2).1, ow.2]
    · rw [List.getElem?_set_ne hj]
  rw [e] at q; exact q
def Now (k : Kn) (G H : Hp) (d : D) (v : V) : Prop := RD k G d v ∨ ∃ a o, v = .ref a ∧ H a = some o ∧ Cont k G d o
inductive Nows (k : Kn) (G H : Hp) : List D → List V → Prop where
  | nil : Nows k G H [] []
  | cons {d : D} {ds : List D} {v : V} {vs : List V} : Now k G H d v → Nows k G H ds vs → Nows k G H (d :: ds) (v :: vs)
section
variable {k : Kn} {G G' H H' : Hp}
theorem Now.grow {d : D} {v : V} (n : Now k G H d v) (s : Step G H G' H') : Now k G' H' d v := by
  rcases n with n | ⟨a, o, e, h, ct⟩
  · exact .inl (n.mono s.g)
  · exact .inr ⟨a, o, e, s.h _ _ h, ct.mono s.g⟩
theorem Nows.grow (s : Step G H G' H') : ∀ {ds : List D} {vs : List V}, Nows k G H ds vs → Nows k G' H' ds vs
  | _, _, .nil => .nil
  | _, _, .cons a b => .cons (a.grow s) (Nows.grow s b)
theorem Nows.of : ∀ {ds : List D} {vs : List V}, RDs k G ds vs → Nows k G H ds vs
  | _, _, .nil => .nil
  | _, _, .cons a b => .cons (.inl a) (Nows.of b)
theorem Now.rd {d : D} {v : V} (e : Ex G H) (n : Now k G H d v) : RD k H d v := by
  rcases n with n | ⟨a, o, rfl, h, ct⟩
  · exact n.mono e
  · exact (ct.mono e).rd h
theorem Nows.rd (e : Ex G H) : ∀ {ds : List D} {vs : List V}, Nows k G H ds vs → RDs k H ds vs
  | _, _, .nil => .nil
  | _, _, .cons a b => .cons (a.rd e) (Nows.rd e b)
theorem Now.lst {ds : List D} {v : V} (e : Ex G H) (n : Now k G H (.lst ds) v) : ∃ a vs, v = .ref a ∧ H a = some (.lst vs) ∧ RDs k G ds vs := by
  rcases n with n | ⟨a, o, rfl, h, ct⟩
  · cases n with | lst h r => exact ⟨_, _, rfl, e _ _ h, r⟩
  · cases ct with | lst r => exact ⟨_, _, rfl, h, r⟩
theorem Now.tup {ds : List D} {v : V} (n : Now k G H (.tup ds) v) : ∃ a vs, v = .ref a ∧ SqU k.K G a vs ∧ RDs k G ds vs := by
  rcases n with n | ⟨a, o, rfl, h, ct⟩
  · cases n with | tup h r => exact ⟨_, _, rfl, h, r⟩
  · cases ct
theorem Now.scr {ns : List Int} {v : V} (n : Now k G H (.scr ns) v) : ∃ a, v = .ref a ∧ SqL k.K G a (ns.map V.int) := by
  rcases n with n | ⟨a, o, rfl, h, ct⟩
  · cases n with | scr h => exact ⟨_, rfl, h⟩
  · cases ct
theorem Now.dic {ks : List Key} {ds : List D} {v : V} (e : Ex G H) (n : Now k G H (.dic ks ds) v) : ∃ a vs, v = .ref a ∧ H a = some (.dK (ks.zip vs)) ∧ ks.length = ds.length ∧ RDs k G ds vs := by
  rcases n with n | ⟨a, o, rfl, h, ct⟩
  · cases n with | dic h l r => exact ⟨_, _, rfl, e _ _ h, l, r⟩
  · cases ct with | dic l r => exact ⟨_, _, rfl, h, l, r⟩
theorem Now.dit {ks : List (List Key)} {ds : List D} {v : V} (e : Ex G H) (n : Now k G H (.dit ks ds) v) : ∃ a vs, v = .ref a ∧ H a = some (.dT (ks.zip vs)) ∧ ks.length = ds.length ∧ RDs k G ds vs := by
  rcases n with n | ⟨a, o, rfl, h, ct⟩
  · cases n with | dit h l r => exact ⟨_, _, rfl, e _ _ h, l, r⟩
  · cases ct with | dit l r => exact ⟨_, _, rfl, h, l, r⟩
theorem Now.dkf {ks : List Key} {ds : List D} {v : V} (e : Ex G H) (n : Now k G H (.dkf ks ds) v) : ∃ a o vs, v = .ref a ∧ H a = some (.frz o (.dK (ks.zip vs))) ∧ ks.length = ds.length ∧ RDs k G ds vs := by
  rcases n with n | ⟨a, o, rfl, h, ct⟩
  · cases n with | dkf h l r => exact ⟨_, _, _, rfl, e _ _ h, l, r⟩
  · cases ct
theorem Now.obj {c : Nat} {ds : List D} {v : V} (e : Ex G H) (n : Now k G H (.obj c ds) v) : ∃ a C dx nm vs, v = .ref a ∧ k.cl c = some (C, nm) ∧ H a = some (.ins C dx (nm.zip vs)) ∧ RDs k G ds vs := by
  rcases n with n | ⟨a, o, rfl, h, ct⟩
  · cases n with | obj q h r => exact ⟨_, _, _, _, _, rfl, q, e _ _ h, r⟩
  · cases ct with | obj q r => exact ⟨_, _, _, _, _, rfl, q, h, r⟩
theorem Now.int {i : Int} {v : V} (n : Now k G H (.int i) v) : v = .int i := by
  rcases n with n | ⟨a, o, rfl, h, ct⟩
  · cases n; rfl
  · cases ct
theorem Now.bl {i : Bool} {v : V} (n : Now k G H (.bl i) v) : v = .bl i := by
  rcases n with n | ⟨a, o, rfl, h, ct⟩
  · cases n; rfl
  · cases ct
theorem Now.str {i : Str} {v : V} (n : Now k G H (.str i) v) : v = .str i := by
  rcases n with n | ⟨a, o, rfl, h, ct⟩
  · cases n; rfl
  · cases ct
theorem Now.non {v : V} (n : Now k G H .non v) : v = .non := by
  rcases n with n | ⟨a, o, rfl, h, ct⟩
  · cases n; rfl
  · cases ct
theorem Now.ty {x : String} {v : V} (n : Now k G H (.ty x) v) : v = .ty x := by
  rcases n with n | ⟨a, o, rfl, h, ct⟩
  · cases n; rfl
  · cases ct
end
def Res (k : Kn) (H : Hp) (G' H' : Hp) (d : D) (v : V) : Kd → Prop
  | .st => RD k G' d v
  | .bo => Now k G' H' d v
  | .fr => ∃ a o, v = .ref a ∧ G' a = none ∧ H a = none ∧ H' a = some o ∧ Cont k G' d o
section
variable {k : Kn} {H0 H G' H' G2 H2 : Hp} {d : D} {v : V} {kd : Kd}
theorem Res.mono (h : Res k H G' H' d v kd) (e : Ex H0 H) : Res k H0 G' H' d v kd := by
  cases kd with
  | st => exact h
  | bo => exact h
  | fr => obtain ⟨a, o, e', hg, h0, r⟩ := h; exact ⟨a, o, e', hg, e.free h0, r⟩
theorem Res.now (h : Res k H G' H' d v kd) : Now k G' H' d v := by
  cases kd with
  | st => exact .inl h
  | bo => exact h
  | fr => obtain ⟨a, o, e, _, _, h, ct⟩ := h; exact .inr ⟨a, o, e, h, ct⟩
end
def Args (k : Kn) (G H : Hp) (ds : List D) (vs : List V) : Bool → Prop
  | true => Nows k G H ds vs
  | false => RDs k G ds vs
theorem Args.nows {k : Kn} {G H : Hp} {ds : List D} {vs : List V} {b : Bool} (h : Args k G H ds vs b) : Nows k G H ds vs := by
  cases b with
  | true => exact h
  | false => exact Nows.of h
def XR (c : Cf) (G : Hp) (x : Exc) (cls : Value) (da : Option Addr) (H : Hp) : Prop :=
  ∃ C nm, c.k.cl x.c = some (C, nm) ∧ cls = .ref C ∧ ((nm = [] ∧ x.fs = [] ∧ da = none) ∨ ∃ d vs, da = some d ∧ H d = some (.xd (nm.zip vs)) ∧ RDs c.k G x.fs vs ∧ nm.length = vs.length)
def PX (c : Cf) (σ : St) (x : Exc) : Prop := ∀ cls da G' H', Step c.G0 c.H0 G' H' → XR c G' x cls da H' → c.W cls da σ H'
def PXs (c : Cf) (x : Exc) : Prop := ∀ σ, PX c σ x
abbrev liftX (E : XK) : WX := fun cls da _ H => E cls da H
def PostE (c : Cf) (k : Kd) (G : Hp) (S : Env) (σ : St) (H : Hp) (Q : VK) : R D → Prop
  | .ok d => ∀ v G' H', Step G H G' H' → Res c.k H G' H' d v k → Q v H'
  | .exc x => PX c σ x
  | .fail => False
def RdE (c : Cf) (k : Kd) (f : FE) : TE := fun σ H Q => ∃ G S, Rel c G S σ H ∧ PostE c k G S σ H Q (f S)
def PostT (c : Cf) (G : Hp) (S : Env) (σ : St) (H : Hp) (Q : Bool → Hp → Prop) : R Bool → Prop
  | .ok b => ∀ G' H', Step G H G' H' → Q b H'
  | .exc x => PX c σ x
  | .fail => False
def RdT (c : Cf) (f : FT) : TT := fun σ H Q => ∃ G S, Rel c G S σ H ∧ PostT c G S σ H Q (f S)
def PostA (c : Cf) (b : Bool) (G : Hp) (S : Env) (σ : St) (H : Hp) (Q : List V → Hp → Prop) : R (List D) → Prop
  | .ok ds => ∀ vs G' H', Step G H G' H' → Args c.k G' H' ds vs b → Q vs H'
  | .exc x => PX c σ x
  | .fail => False
def RdA (c : Cf) (b : Bool) (f : FA) : TA := fun σ H Q => ∃ G S, Rel c G S σ H ∧ PostA c b G S σ H Q (f S)
structure Frm (as : List Nat) (S : Env) (σ : St) (H : Hp) (S' : Env) (σ' : St) (H' : Hp) : Prop where
  len : σ'.length = σ.length
  sg : ∀ (i : Nat), i ∉ as → σ'[i]? = σ[i]?
  sl : ∀ (i : Nat), i ∉ as → i + 1000 ∉ as → S'[i]? = S[i]?
  ow : ∀ (i : Nat) (a : Addr), i ∉ as → i + 1000 ∉ as → OwnAt S σ i a → H' a = H a
theorem Frm.refl (as : List Nat) (S : Env) (σ : St) (H : Hp) : Frm as S σ H S σ H := ⟨rfl, fun _ _ => rfl, fun _ _ _ => rfl, fun _ _ _ _ _ => rfl⟩
theorem Frm.trans {as bs : List Nat} {S S1 S2 : Env} {σ σ1 σ2 : St} {H H1 H2 : Hp} (a : Frm as S σ H S1 σ1 H1) (b : Frm bs S1 σ1 H1 S2 σ2 H2) : Frm (as ++ bs) S σ H S2 σ2 H2 where
  len := b.len.trans a.len
  sg := fun i h => by
    simp only [List.mem_append, not_or] at h
    exact (b.sg i h.2).trans (a.sg i h.1)
  sl := fun i h h' => by
    simp only [List.mem_append, not_or] at h h'
    exact (b.sl i h.2 h'.2).trans (a.sl i h.1 h'.1)
  ow := fun i x h h' o => by
    simp only [List.mem_append, not_or] at h h'
    have o' : OwnAt S1 σ1 i x := ⟨by obtain ⟨d, e⟩ := o.1; exact ⟨d, (a.sl i h.1 h'.1).trans e⟩, (a.sg i h.1).trans o.2⟩
    exact (b.ow i x h.2 h'.2 o').trans (a.ow i x h.1 h'.1 o)
theorem Frm.mono {as bs : List Nat} {S S1 : Env} {σ σ1 : St} {H H1 : Hp} (a : Frm as S σ H S1 σ1 H1) (h : ∀ i, i ∈ as → i ∈ bs) : Frm bs S σ H S1 σ1 H1 :=
  ⟨a.len, fun i q => a.sg i fun z => q (h i z), fun i q q' => a.sl i (fun z => q (h i z)) fun z => q' (h _ z), fun i x q q' => a.ow i x (fun z => q (h i z)) fun z => q' (h _ z)⟩
theorem Frm.step {c : Cf} {as : List Nat} {S : Env} {σ : St} {G H G' H' : Hp} (r : Rel c G S σ H) (s : Step G H G' H') : Frm as S σ H S σ H' :=
  ⟨rfl, fun _ _ => rfl, fun _ _ _ => rfl, fun i a _ _ o => by
    obtain ⟨_, _, u, _, h, _⟩ := r.own o
    rw [h, s.h a u h]⟩
theorem Frm.mut {c : Cf} {G H : Hp} {S : Env} {σ : St} (r : Rel c G S σ H) {i : Nat} {a : Addr} {x : Option Sl} {o' : HO} (ow : OwnAt S σ i a) : Frm [i + 1000] S σ H (S.set i x) σ (upd H a o') :=
  ⟨rfl, fun _ _ => rfl, fun j _ h => List.getElem?_set_ne (fun z => h (by simp [z])), fun j b _ h oj => upd_ne (fun z => h (by
    have : i = j := r.nd i j b (by rw [z]; exact ow) oj
    simp [this]))⟩
def RV (c : Cf) (fr : Bool) (G H : Hp) (d : D) (v : V) : Prop :=
  match fr with
  | true => ∃ a o, v = .ref a ∧ G a = none ∧ c.H0 a = none ∧ H a = some o ∧ Cont c.k G d o
  | false => RD c.k G d v
structure OwR (k : Kn) (as : List Nat) (S' : Env) (σ : St) (G' H' : Hp) : Prop where
  ex : ∃ σ' : St, (∀ i : Nat, i ∉ as → σ'[i]? = σ[i]?) ∧ ∀ (i : Nat) (d : D), S'[i]? = some (some ⟨true, d⟩) → ∃ a o, σ'[i]? = some (some (.ref a)) ∧ G' a = none ∧ H' a = some o ∧ Cont k G' d o
theorem Rel.owR {c : Cf} {as : List Nat} {S : Env} {σ : St} {G H : Hp} (r : Rel c G S σ H) : OwR c.k as S σ G H :=
  ⟨σ, fun _ _ => rfl, fun i d q => by
    obtain ⟨a, o, e, g, _, ho, ct⟩ := r.ow i d q
    exact ⟨a, o, e, g, ho, ct⟩⟩
theorem OwR.sub {k : Kn} {as bs : List Nat} {S : Env} {σ : St} {G H : Hp} (h : OwR k as S σ G H) (hs : ∀ i, i ∈ as → i ∈ bs) : OwR k bs S σ G H := by
  obtain ⟨σ', h1, h2⟩ := h.ex
  exact ⟨σ', fun i hi => h1 i fun z => hi (hs i z), h2⟩
theorem OwR.mv {k : Kn} {as bs : List Nat} {S S1 S2 : Env} {σ σ1 : St} {G H H0 H1 : Hp} (h : OwR k bs S2 σ1 G H) (fm : Frm as S σ H0 S1 σ1 H1) : OwR k (as ++ bs) S2 σ G H := by
  obtain ⟨σ', h1, h2⟩ := h.ex
  refine ⟨σ', fun i hi => ?_, h2⟩
  simp only [List.mem_append, not_or] at hi
  exact (h1 i hi.2).trans (fm.sg i hi.1)
def PostS (c : Cf) (fr : Bool) (as : List Nat) (G : Hp) (S : Env) (σ : St) (H : Hp) (Dn : Ends) : R (Fl × Env) → Prop
  | .ok (.nx, S') => ∀ G' σ' H', Ex G G' → Rel c G' S' σ' H' → Frm as S σ H S' σ' H' → Dn.nx σ' H'
  | .ok (.bk, S') => ∀ G' σ' H', Ex G G' → Rel c G' S' σ' H' → Frm as S σ H S' σ' H' → Dn.bk σ' H'
  | .ok (.ct, S') => ∀ G' σ' H', Ex G G' → Rel c G' S' σ' H' → Frm as S σ H S' σ' H' → Dn.ct σ' H'
  | .ok (.rt d, S') => ∀ v G' H', Step c.G0 c.H0 G' H' → RV c fr G' H' d v → OwR c.k as S' σ G' H' → Dn.rt v H'
  | .exc x => PXs c x
  | .fail => False
def RdS (c : Cf) (fr : Bool) (as : List Nat) (f : FS) : TS := fun Dn σ H => ∃ G S, Rel c G S σ H ∧ PostS c fr as G S σ H Dn (f S)
def PostG (c : Cf) (as : List Nat) (G : Hp) (S : Env) (σ : St) (H : Hp) (Q : St → Hp → Prop) : R Env → Prop
  | .ok S' => ∀ G' σ' H', Step G H G' H' → Rel c G' S' σ' H' → Frm as S σ H S' σ' H' → Q σ' H'
  | _ => False
def RdG (c : Cf) (as : List Nat) (g : FG) : TG := fun v σ H Q => ∃ G S d, Rel c G S σ H ∧ RD c.k G d v ∧ PostG c as G S σ H Q (g d S)
end M
set_option Elab.async false
set_option linter.all false
set_option maxRecDepth 100000
set_option maxHeartbeats 4000000
namespace M
open PySem L2
section
variable {X : Cx}
theorem peI {e : Expr} {t t' : TE} (h : PE X e t) (i : ∀ σ H Q, t' σ H Q → t σ H Q) : PE X e t' := ⟨fun pins s σ H Q I q => h.run pins s σ H Q I (i σ H Q q)⟩
theorem ptI {e : Expr} {t t' : TT} (h : PT X e t) (i : ∀ σ H Q, t' σ H Q → t σ H Q) : PT X e t' := ⟨fun pins s σ H Q I q => h.run pins s σ H Q I (i σ H Q q)⟩
theorem pwI {e : Expr} {t t' : TT} (h : PW X e t) (i : ∀ σ H Q, t' σ H Q → t σ H Q) : PW X e t' := ⟨fun wh pins s σ H Q I q => h.run wh pins s σ H Q I (i σ H Q q)⟩
theorem paI {e : List Expr} {t t' : TA} (h : PA X e t) (i : ∀ σ H Q, t' σ H Q → t σ H Q) : PA X e t' := ⟨fun pos pins s σ H Q I q => h.run pos pins s σ H Q I (i σ H Q q)⟩
theorem psI {e : Stmt} {t t' : TS} (h : PS X e t) (i : ∀ D σ H, t' D σ H → t D σ H) : PS X e t' := ⟨fun pins s σ H D I q => h.run pins s σ H D I (i D σ H q)⟩
theorem pssI {e : List Stmt} {t t' : TS} (h : PSs X e t) (i : ∀ D σ H, t' D σ H → t D σ H) : PSs X e t' := ⟨fun pins s σ H D I q => h.run pins s σ H D I (i D σ H q)⟩
theorem pgI {e : Expr} {t t' : TG} (h : PG X e t) (i : ∀ v σ H Q, t' v σ H Q → t v σ H Q) : PG X e t' := ⟨fun pins s σ H v u Q I r q => h.run pins s σ H v u Q I r (i v σ H Q q)⟩
theorem pgsI {e : List Expr} {t t' : TGs} (h : PGs X e t) (i : ∀ v σ H Q, t' v σ H Q → t v σ H Q) : PGs X e t' := ⟨fun pins s σ H v u Q I r q => h.run pins s σ H v u Q I r (i v σ H Q q)⟩
theorem piI {tg e : Expr} {t t' : TI} (h : PI X tg e t) (i : ∀ σ H Q, t' σ H Q → t σ H Q) : PI X tg e t' := ⟨fun pins s σ H R I q => h.run pins s σ H R I (i σ H R q)⟩
theorem ptsI {e : List Expr} {t t' : TT} (h : PTs X e t) (i : ∀ σ H Q, t' σ H Q → t σ H Q) : PTs X e t' := ⟨fun pins s σ H Q I q => h.run pins s σ H Q I (i σ H Q q)⟩
end
section
variable {X : Cx} {c : Cf}
theorem rdE_go {kd : Kd} {f : FE} {G H : Hp} {S : Env} {σ : St} {Q : VK} {β : Type} {g : D → R β} {Post : R β → Prop} (r : Rel c G S σ H) (p : Post (f S >>= g))
    (hx : ∀ x, Post (.exc x) → PX c σ x) (hf : Post .fail → False) (k : ∀ d v G' H', Step G H G' H' → Res c.k H G' H' d v kd → Post (g d) → Q v H') : RdE c kd f σ H Q := by
  refine ⟨G, S, r, ?_⟩
  cases e : f S with
  | ok d => rw [e] at p; exact fun v G' H' s h => k d v G' H' s h p
  | exc x => rw [e] at p; exact hx x p
  | fail => rw [e] at p; exact hf p
theorem rdT_go {f : FT} {G H : Hp} {S : Env} {σ : St} {Q : Bool → Hp → Prop} {β : Type} {g : Bool → R β} {Post : R β → Prop} (r : Rel c G S σ H) (p : Post (f S >>= g))
    (hx : ∀ x, Post (.exc x) → PX c σ x) (hf : Post .fail → False) (k : ∀ d G' H', Step G H G' H' → Post (g d) → Q d H') : RdT c f σ H Q := by
  refine ⟨G, S, r, ?_⟩
  cases e : f S with
  | ok d => rw [e] at p; exact fun G' H' s => k d G' H' s p
  | exc x => rw [e] at p; exact hx x p
  | fail => rw [e] at p; exact hf p
theorem rdA_go {b : Bool} {f : FA} {G H : Hp} {S : Env} {σ : St} {Q : List V → Hp → Prop} {β : Type} {g : List D → R β} {Post : R β → Prop} (r : Rel c G S σ H) (p : Post (f S >>= g))
    (hx : ∀ x, Post (.exc x) → PX c σ x) (hf : Post .fail → False) (k : ∀ ds vs G' H', Step G H G' H' → Args c.k G' H' ds vs b → Post (g ds) → Q vs H') : RdA c b f σ H Q := by
  refine ⟨G, S, r, ?_⟩
  cases e : f S with
  | ok d => rw [e] at p; exact fun v G' H' s h => k d v G' H' s h p
  | exc x => rw [e] at p; exact hx x p
  | fail => rw [e] at p; exact hf p
abbrev PE' (X : Cx) (c : Cf) (kd : Kd) (e : Expr) (f : FE) : Prop := PE X e (RdE c kd f)
abbrev PT' (X : Cx) (c : Cf) (e : Expr) (f : FT) : Prop := PT X e (RdT c f)
abbrev PA' (X : Cx) (c : Cf) (b : Bool) (es : List Expr) (f : FA) : Prop := PA X es (RdA c b f)
theorem cst_of {e : Expr} {d : D} {v : V} (h : PE X e (tC v)) (r : ∀ G, RD c.k G d v) : PE' X c .st e (fun _ => .ok d) :=
  peI h fun σ H Q ⟨G, S, rel, p⟩ => p v G H (Step.refl rel.st.gh) (r G)
def eI (i : Int) : FE := fun _ => .ok (.int i)
def eS (x : Str) : FE := fun _ => .ok (.str x)
def eB (b : Bool) : FE := fun _ => .ok (.bl b)
def eN : FE := fun _ => .ok .non
theorem d_int {i j pos} : PE' X c .st (.Constant (.int i) j pos) (eI i) := cst_of pe_int fun _ => .int i
theorem d_str {i j pos} : PE' X c .st (.Constant (.str i) j pos) (eS i) := cst_of pe_str fun _ => .str i
theorem d_bl {i j pos} : PE' X c .st (.Constant (.bool i) j pos) (eB i) := cst_of pe_bl fun _ => .bl i
theorem d_non {j pos} : PE' X c .st (.Constant .none j pos) eN := cst_of pe_non fun _ => .non
def eV (i : Nat) : FE := fun S => match S[i]? with
  | some (some ⟨false, d⟩) => .ok d
  | _ => .fail
def eW (i : Nat) : FE := fun S => match S[i]? with
  | some (some ⟨_, d⟩) => .ok d
  | _ => .fail
theorem d_v (i : Nat) {x : Str} {pos : Pos} (hN : X.N[i]? = some x := by rfl) (hv : Vis X.env.scope x := by first | exact Or.inl rfl | exact Or.inr (Or.inl rfl) | exact Or.inr (Or.inr rfl)) (hd : (x == ("__debug__" : Str)) = false := by decide)
    (hcd : (x == ("__classdict__" : Str)) = false := by decide) : PE' X c .st (.Name x pos) (eV i) :=
  peI (pe_var hN hv hd hcd) fun σ H Q ⟨G, S, r, p⟩ => by
    unfold eV at p
    split at p
    · rename_i d e
      obtain ⟨v, e1, q⟩ := r.fz i d e
      exact ⟨v, e1, p v G H (Step.refl r.st.gh) q⟩
    · exact p.elim
theorem d_w (i : Nat) {x : Str} {pos : Pos} (hN : X.N[i]? = some x := by rfl) (hv : Vis X.env.scope x := by first | exact Or.inl rfl | exact Or.inr (Or.inl rfl) | exact Or.inr (Or.inr rfl)) (hd : (x == ("__debug__" : Str)) = false := by decide)
    (hcd : (x == ("__classdict__" : Str)) = false := by decide) : PE' X c .bo (.Name x pos) (eW i) :=
  peI (pe_var hN hv hd hcd) fun σ H Q ⟨G, S, r, p⟩ => by
    unfold eW at p
    split at p
    · rename_i b d e
      cases b with
      | false =>
        obtain ⟨v, e1, q⟩ := r.fz i d e
        exact ⟨v, e1, p v G H (Step.refl r.st.gh) (.inl q)⟩
      | true =>
        obtain ⟨a, o, e1, hg, h0, ho, ct⟩ := r.ow i d e
        exact ⟨_, e1, p _ G H (Step.refl r.st.gh) (.inr ⟨a, o, rfl, ho, ct⟩)⟩
    · exact p.elim
theorem d_z {e : Expr} {f : FE} (h : PE' X c .fr e f) : PE' X c .st e f :=
  peI h fun σ H Q ⟨G, S, r, p⟩ => ⟨G, S, r, by
    cases e1 : f S with
    | ok d =>
      rw [e1] at p
      rintro v G' H' s ⟨a, o, rfl, hg, hn, ha, ct⟩
      exact p _ (upd G' a o) H' (s.frz ha hn hg) ((ct.mono (Ex.new hg)).rd upd_same)
    | exc x => rw [e1] at p; exact p
    | fail => rw [e1] at p; exact p⟩
def Op2 (X : Cx) (k : Kn) (f : Value → Value → Sem Value) (kd : Kd) (g : D → D → R D) : Prop :=
  ∃ r : R2, OpR X f r ∧ ∀ G H x y u v d, Ex G H → Now k G H x u → Now k G H y v → g x y = .ok d → ∀ Q : VK, (∀ w G' H', Step G H G' H' → Res k H G' H' d w kd → Q w H') → r u v H Q
variable {kd k1 k2 k3 : Kd} {a b : Expr} {f g h : FE} {pos : Pos}
def e2 (o : D → D → R D) (f g : FE) : FE := fun S => do
  let x ← f S
  let y ← g S
  (o x y).nox
theorem e2_go {o : D → D → R D} {σ : St} {H : Hp} {Q : VK} {r : R2} (hr : ∀ G H x y u v d, Ex G H → Now c.k G H x u → Now c.k G H y v → o x y = .ok d → ∀ Q : VK, (∀ w G' H', Step G H G' H' → Res c.k H G' H' d w kd → Q w H') → r u v H Q)
    (q : RdE c kd (e2 o f g) σ H Q) : RdE c k1 f σ H fun x H1 => RdE c k2 g σ H1 fun y H2 => r x y H2 Q := by
  obtain ⟨G, S, rel, p⟩ := q
  refine rdE_go (g := fun x => do let y ← g S; (o x y).nox) (Post := PostE c kd G S σ H Q) rel p (fun _ z => z) (fun z => z) fun d1 v1 G1 H1 s1 q1 p1 => ?_
  refine rdE_go (g := fun y => (o d1 y).nox) (Post := PostE c kd G S σ H Q) (rel.grow s1) p1 (fun _ z => z) (fun z => z) fun d2 v2 G2 H2 s2 q2 p2 => ?_
  cases e : o d1 d2 with
  | ok d =>
    rw [e] at p2
    exact hr G2 H2 d1 d2 v1 v2 d s2.gh (q1.now.grow s2) q2.now e Q fun w G3 H3 s3 q3 => p2 w G3 H3 ((s1.trans s2).trans s3) (q3.mono (s1.h.trans s2.h))
  | exc x => rw [e] at p2; exact p2.elim
  | fail => rw [e] at p2; exact p2.elim
theorem d_op {op : Operator} {o : D → D → R D} (ho : Op2 X c.k (binaryOp op) kd o) (ha : PE' X c k1 a f) (hb : PE' X c k2 b g) : PE' X c kd (.BinOp a op b pos) (e2 o f g) := by
  obtain ⟨r, h1, h2⟩ := ho
  exact peI (pe_op h1 ha hb) fun σ H Q q => e2_go h2 q
theorem d_cmp {op : CmpOp} {o : D → D → R D} (ho : Op2 X c.k (compareOp op) kd o) (ha : PE' X c k1 a f) (hb : PE' X c k2 b g) (hm : behindInMarks op b = false := by rfl) : PE' X c kd (.Compare a [op] [b] pos) (e2 o f g) := by
  obtain ⟨r, h1, h2⟩ := ho
  exact peI (pe_cmpR h1 ha hb hm) fun σ H Q q => e2_go h2 q
def Ix2 (X : Cx) (k : Kn) (g : D → D → R D) : Prop :=
  ∃ r : R2, IxR X r ∧ ∀ G H x y u v d, Ex G H → Now k G H x u → Now k G H y v → g x y = .ok d → ∀ Q : VK, (∀ w G' H', Step G H G' H' → Res k H G' H' d w .st → Q w H') → r u v H Q
theorem d_ix {o : D → D → R D} (ho : Ix2 X c.k o) (ha : PE' X c k1 a f) (hb : PE' X c k2 b g) (hi : PlainIx b := by exact fun _ _ => rfl) : PE' X c .st (.Subscript a b pos) (e2 o f g) := by
  obtain ⟨r, h1, h2⟩ := ho
  exact peI (pe_ix h1 ha hb hi) fun σ H Q q => e2_go h2 q
def e1 (o : D → R D) (f : FE) : FE := fun S => do
  let x ← f S
  (o x).nox
theorem e1_go {o : D → R D} {σ : St} {H : Hp} {Q : VK} {r : V → Hp → VK → Prop} (hr : ∀ G H x u d, Ex G H → Now c.k G H x u → o x = .ok d → ∀ Q : VK, (∀ w G' H', Step G H G' H' → Res c.k H G' H' d w kd → Q w H') → r u H Q)
    (q : RdE c kd (e1 o f) σ H Q) : RdE c k1 f σ H fun x H1 => r x H1 Q := by
  obtain ⟨G, S, rel, p⟩ := q
  refine rdE_go (g := fun x => (o x).nox) (Post := PostE c kd G S σ H Q) rel p (fun _ z => z) (fun z => z) fun d1 v1 G1 H1 s1 q1 p1 => ?_
  cases e : o d1 with
  | ok d =>
    rw [e] at p1
    exact hr G1 H1 d1 v1 d s1.gh q1.now e Q fun w G3 H3 s3 q3 => p1 w G3 H3 (s1.trans s3) (q3.mono s1.h)
  | exc x => rw [e] at p1; exact p1.elim
  | fail => rw [e] at p1; exact p1.elim
def Un1 (X : Cx) (k : Kn) (f : Value → Sem Value) (g : D → R D) : Prop :=
  ∃ r : V → Hp → VK → Prop, UnR X f r ∧ ∀ G H x u d, Ex G H → Now k G H x u → g x = .ok d → ∀ Q : VK, (∀ w G' H', Step G H G' H' → Res k H G' H' d w .st → Q w H') → r u H Q
theorem d_un {op : UnaryOp} {o : D → R D} (ho : Un1 X c.k (unaryOp op) o) (ha : PE' X c k1 a f) : PE' X c .st (.UnaryOp op a pos) (e1 o f) := by
  obtain ⟨r, h1, h2⟩ := ho
  exact peI (pe_un h1 ha) fun σ H Q q => e1_go h2 q
def aN : FA := fun _ => .ok []
def aC (f : FE) (g : FA) : FA := fun S => do
  let x ← f S
  let xs ← g S
  .ok (x :: xs)
theorem d_an {b : Bool} : PA' X c b [] aN := paI pa_nil fun σ H Q ⟨G, S, r, p⟩ => p [] G H (Step.refl r.st.gh) (by cases b <;> exact .nil)
theorem d_ac {e : Expr} {es : List Expr} {ga : FA} (ha : PE' X c .st e f) (hr : PA' X c false es ga) (hs : starEach (e :: es) X.env = (false, eval e X.env) :: starEach es X.env := by rfl) : PA' X c false (e :: es) (aC f ga) :=
  paI (pa_cons ha hr hs) fun σ H Q ⟨G, S, rel, p⟩ => by
    refine rdE_go (g := fun x => do let xs ← ga S; .ok (x :: xs)) (Post := PostA c false G S σ H Q) rel p (fun _ z => z) (fun z => z) fun d1 v1 G1 H1 s1 q1 p1 => ?_
    refine rdA_go (g := fun xs => .ok (d1 :: xs)) (Post := PostA c false G S σ H Q) (rel.grow s1) p1 (fun _ z => z) (fun z => z) fun d2 v2 G2 H2 s2 q2 p2 => ?_
    exact p2 _ G2 H2 (s1.trans s2) (.cons (RD.mono s2.g q1) q2)
theorem d_ab {e : Expr} {es : List Expr} {ga : FA} (ha : PE' X c k1 e f) (hr : PA' X c true es ga) (hs : starEach (e :: es) X.env = (false, eval e X.env) :: starEach es X.env := by rfl) : PA' X c true (e :: es) (aC f ga) :=
  paI (pa_cons ha hr hs) fun σ H Q ⟨G, S, rel, p⟩ => by
    refine rdE_go (g := fun x => do let xs ← ga S; .ok (x :: xs)) (Post := PostA c true G S σ H Q) rel p (fun _ z => z) (fun z => z) fun d1 v1 G1 H1 s1 q1 p1 => ?_
    refine rdA_go (g := fun xs => .ok (d1 :: xs)) (Post := PostA c true G S σ H Q) (rel.grow s1) p1 (fun _ z => z) (fun z => z) fun d2 v2 G2 H2 s2 q2 p2 => ?_
    exact p2 _ G2 H2 (s1.trans s2) (.cons (q1.now.grow s2) q2)
def mkT (xs : List D) : R D := if xs.length ≤ sizeLine then .ok (.tup xs) else .fail
def mkL (xs : List D) : R D := if xs.length ≤ sizeLine then .ok (.lst xs) else .fail
def eT (g : FA) : FE := fun S => g S >>= mkT
def eL (g : FA) : FE := fun S => g S >>= mkL
theorem d_tup {es : List Expr} {ga : FA} {x1} (h : PA' X c false es ga) : PE' X c .st (.Tuple es x1 pos) (eT ga) :=
  peI (pe_tup h) fun σ H Q ⟨G, S, rel, p⟩ => by
    refine rdA_go (g := mkT) (Post := PostE c .st G S σ H Q) rel p (fun _ z => z) (fun z => z) fun ds vs G1 H1 s1 q1 p1 => ?_
    have q1 : RDs c.k G1 ds vs := q1
    by_cases hl : ds.length ≤ sizeLine
    · unfold mkT at p1; rw [if_pos hl] at p1
      exact ⟨by rw [← q1.length]; exact hl, fun p hp => p1 _ _ _ (s1.trans (Step.new s1.gh hp)) (.tup (SqU.of upd_same) (q1.mono (Ex.new (s1.gh.free hp))))⟩
    · unfold mkT at p1; rw [if_neg hl] at p1; exact p1.elim
theorem d_lst {es : List Expr} {ga : FA} (h : PA' X c false es ga) : PE' X c .fr (.List es pos) (eL ga) :=
  peI (pe_lst h) fun σ H Q ⟨G, S, rel, p⟩ => by
    refine rdA_go (g := mkL) (Post := PostE c .fr G S σ H Q) rel p (fun _ z => z) (fun z => z) fun ds vs G1 H1 s1 q1 p1 => ?_
    have q1 : RDs c.k G1 ds vs := q1
    by_cases hl : ds.length ≤ sizeLine
    · unfold mkL at p1; rw [if_pos hl] at p1
      exact ⟨by rw [← q1.length]; exact hl, fun p hp => p1 _ _ _ (s1.trans (Step.new' s1.gh hp)) ⟨p, _, rfl, s1.gh.free hp, s1.h.free hp, upd_same, .lst q1⟩⟩
    · unfold mkL at p1; rw [if_neg hl] at p1; exact p1.elim
def ClR (X : Cx) (k : Kn) (f : Value) (kd : Kd) (g : List D → R D) : Prop :=
  ∃ r : List V → Hp → VK → Prop, CallR X f r ∧ ∀ G H ds vs d, Ex G H → Nows k G H ds vs → g ds = .ok d → ∀ Q : VK, (∀ w G' H', Step G H G' H' → Res k H G' H' d w kd → Q w H') → r vs H Q
def eC (o : List D → R D) (g : FA) : FE := fun S => do
  let xs ← g S
  (o xs).nox
theorem eC_go {ba : Bool} {ga : FA} {o : List D → R D} {σ : St} {H : Hp} {Q : VK} {r : List V → Hp → VK → Prop} (hr : ∀ G H ds vs d, Ex G H → Nows c.k G H ds vs → o ds = .ok d → ∀ Q : VK, (∀ w G' H', Step G H G' H' → Res c.k H G' H' d w kd → Q w H') → r vs H Q)
    (q : RdE c kd (eC o ga) σ H Q) : RdA c ba ga σ H fun x H1 => r x H1 Q := by
  obtain ⟨G, S, rel, p⟩ := q
  refine rdA_go (g := fun x => (o x).nox) (Post := PostE c kd G S σ H Q) rel p (fun _ z => z) (fun z => z) fun d1 v1 G1 H1 s1 q1 p1 => ?_
  cases e : o d1 with
  | ok d =>
    rw [e] at p1
    exact hr G1 H1 d1 v1 d s1.gh q1.nows e Q fun w G3 H3 s3 q3 => p1 w G3 H3 (s1.trans s3) (q3.mono s1.h)
  | exc x => rw [e] at p1; exact p1.elim
  | fail => rw [e] at p1; exact p1.elim
theorem d_bltn {ba : Bool} {x : Str} {p : Pos} {e : Expr} {es : List Expr} {ga : FA} {id : String} {o : List D → R D} (ho : ClR X c.k (.builtin id) kd o) (hm : X.mg x = none) (ha : PA' X c ba (e :: es) ga) (hv : bootBuiltins x = some (.builtin id) := by decide +kernel) (hg : Gl X x := by rfl)
    (hn : x ≠ "__name__" := by decide) (hdb : (x == ("__debug__" : Str)) = false := by decide)
    (hs : starEach (e :: es) X.env = (false, eval e X.env) :: starEach es X.env := by rfl) (hs2 : ((backTo pos (starEach es X.env)).any fun x => x.1) = false := by rfl) :
    PE' X c kd (.Call (.Name x p) (e :: es) [] pos) (eC o ga) := by
  obtain ⟨r, h1, h2⟩ := ho
  exact peI (pe_callB h1 hg hm hv ha hn hdb hs hs2) fun σ H Q q => eC_go h2 q
theorem d_btyp {ba : Bool} {x : Str} {p : Pos} {e : Expr} {es : List Expr} {ga : FA} {id : String} {o : List D → R D} (ho : ClR X c.k (.type id) kd o) (hm : X.mg x = none) (ha : PA' X c ba (e :: es) ga) (hv : bootBuiltins x = some (.type id) := by decide +kernel) (hg : Gl X x := by rfl)
    (hn : x ≠ "__name__" := by decide) (hdb : (x == ("__debug__" : Str)) = false := by decide)
    (hs : starEach (e :: es) X.env = (false, eval e X.env) :: starEach es X.env := by rfl) (hs2 : ((backTo pos (starEach es X.env)).any fun x => x.1) = false := by rfl) :
    PE' X c kd (.Call (.Name x p) (e :: es) [] pos) (eC o ga) := by
  obtain ⟨r, h1, h2⟩ := ho
  exact peI (pe_callTy h1 hg hm hv ha hn hdb hs hs2) fun σ H Q q => eC_go h2 q
end
end M
set_option Elab.async false
set_option linter.all false
set_option maxRecDepth 100000
set_option maxHeartbeats 4000000
namespace M
open PySem L2
mutual
def D.toP : D → PyData
  | .bl b => .bool b
  | .int i => .int i
  | .str x => .str x
  | .tup xs => .tuple (D.toPs xs)
  | .lst xs => .list (D.toPs xs)
  | _ => .none
def D.toPs : List D → List PyData
  | [] => []
  | x :: xs => x.toP :: D.toPs xs
end
mutual
def deq : D → D → Bool
  | .non, .non => true
  | .bl a, .bl b => a == b
  | .bl a, .int j => (if a then 1 else 0) == j
  | .int i, .bl b => i == (if b then 1 else 0)
  | .int i, .int j => i == j
  | .str x, .str y => x == y
  | .lst xs, .lst ys => deqs xs ys
  | .tup xs, .tup ys => deqs xs ys
  | _, _ => false
def deqs : List D → List D → Bool
  | [], [] => true
  | x :: xs, y :: ys => deq x y && deqs xs ys
  | _, _ => false
end
mutual
def dok : Nat → D → Bool
  | _, .non => true
  | _, .bl _ => true
  | _, .int _ => true
  | _, .str x => PyData.strOk x
  | n + 1, .tup xs => doks n xs
  | n + 1, .lst xs => doks n xs
  | _, _ => false
def doks : Nat → List D → Bool
  | _, [] => true
  | n, x :: xs => dok n x && doks n xs
end
mutual
theorem dok_lay : ∀ (n : Nat) (d : D), dok n d = true → PyData.canLay0 d.toP = true ∧ PyData.depth d.toP ≤ n
  | n, .non, _ => by simp [D.toP, PyData.canLay0, PyData.depth]
  | n, .bl _, _ => by simp [D.toP, PyData.canLay0, PyData.depth]
  | n, .int _, _ => by simp [D.toP, PyData.canLay0, PyData.depth]
  | n, .str x, h => by
    cases n <;> (simp only [dok] at h; simp [D.toP, PyData.canLay0, PyData.depth, h])
  | n + 1, .tup xs, h => by
    simp only [dok] at h
    have := doks_lay n xs h
    simp only [D.toP, PyData.canLay0, PyData.depth]
    exact ⟨this.1, by omega⟩
  | n + 1, .lst xs, h => by
    simp only [dok] at h
    have := doks_lay n xs h
    simp only [D.toP, PyData.canLay0, PyData.depth]
    exact ⟨this.1, by omega⟩
  | 0, .tup xs, h => by simp [dok] at h
  | 0, .lst xs, h => by simp [dok] at h
  | n, .ty _, h => by cases n <;> simp [dok] at h
  | n, .dic _ _, h => by cases n <;> simp [dok] at h
  | n, .dit _ _, h => by cases n <;> simp [dok] at h
  | n, .dkf _ _, h => by cases n <;> simp [dok] at h
  | n, .obj _ _, h => by cases n <;> simp [dok] at h
  | n, .scr _, h => by cases n <;> simp [dok] at h
  | n, .cls _, h => by cases n <;> simp [dok] at h
theorem doks_lay : ∀ (n : Nat) (ds : List D), doks n ds = true → PyData.canLayAll0 (D.toPs ds) = true ∧ PyData.depthAll (D.toPs ds) ≤ n
  | n, [], _ => by simp [D.toPs, PyData.canLayAll0, PyData.depthAll]
  | n, x :: xs, h => by
    simp only [doks, Bool.and_eq_true] at h
    have a := dok_lay n x h.1
    have b := doks_lay n xs h.2
    simp only [D.toPs, PyData.canLayAll0, PyData.depthAll, Bool.and_eq_true]
    exact ⟨⟨a.1, b.1⟩, by omega⟩
end
mutual
theorem deq_eqv : ∀ (n m : Nat) (x y : D), dok n x = true → dok m y = true → PyData.eqv x.toP y.toP = deq x y
  | n, m, .non, y, _, h => by cases y <;> first | (simp [D.toP, PyData.eqv, deq]; done) | (cases m <;> simp [dok] at h)
  | n, m, .bl _, y, _, h => by cases y <;> first | (simp [D.toP, PyData.eqv, deq]; done) | (cases m <;> simp [dok] at h)
  | n, m, .int _, y, _, h => by cases y <;> first | (simp [D.toP, PyData.eqv, deq]; done) | (cases m <;> simp [dok] at h)
  | n, m, .str _, y, _, h => by cases y <;> first | (simp [D.toP, PyData.eqv, deq]; done) | (cases m <;> simp [dok] at h)
  | n + 1, m, .tup xs, y, h1, h => by
    cases y with
    | tup ys =>
      cases m with
      | zero => simp [dok] at h
      | succ m =>
        simp only [dok] at h h1
        simp only [D.toP, PyData.eqv, deq]
        exact deqs_eqv n m xs ys h1 h
    | _ => first | (simp [D.toP, PyData.eqv, deq]; done) | (cases m <;> simp [dok] at h)
  | n + 1, m, .lst xs, y, h1, h => by
    cases y with
    | lst ys =>
      cases m with
      | zero => simp [dok] at h
      | succ m =>
        simp only [dok] at h h1
        simp only [D.toP, PyData.eqv, deq]
        exact deqs_eqv n m xs ys h1 h
    | _ => first | (simp [D.toP, PyData.eqv, deq]; done) | (cases m <;> simp [dok] at h)
  | 0, _, .tup xs, _, h, _ => by simp [dok] at h
  | 0, _, .lst xs, _, h, _ => by simp [dok] at h
  | n, _, .ty _, _, h, _ => by cases n <;> simp [dok] at h
  | n, _, .dic _ _, _, h, _ => by cases n <;> simp [dok] at h
  | n, _, .dit _ _, _, h, _ => by cases n <;> simp [dok] at h
  | n, _, .dkf _ _, _, h, _ => by cases n <;> simp [dok] at h
  | n, _, .obj _ _, _, h, _ => by cases n <;> simp [dok] at h
  | n, _, .scr _, _, h, _ => by cases n <;> simp [dok] at h
  | n, _, .cls _, _, h, _ => by cases n <;> simp [dok] at h
theorem deqs_eqv : ∀ (n m : Nat) (xs ys : List D), doks n xs = true → doks m ys = true → PyData.eqvAll (D.toPs xs) (D.toPs ys) = deqs xs ys
  | n, m, [], [], _, _ => by simp [D.toPs, PyData.eqvAll, deqs]
  | n, m, [], _ :: _, _, _ => by simp [D.toPs, PyData.eqvAll, deqs]
  | n, m, _ :: _, [], _, _ => by simp [D.toPs, PyData.eqvAll, deqs]
  | n, m, x :: xs, y :: ys, h1, h2 => by
    simp only [doks, Bool.and_eq_true] at h1 h2
    simp only [D.toPs, PyData.eqvAll, deqs]
    rw [deq_eqv n m x y h1.1 h2.1, deqs_eqv n m xs ys h1.2 h2.2]
end
mutual
theorem RD.dp {k : Kn} {H : Hp} : ∀ {d : D} {v : V} (n : Nat), RD k H d v → dok n d = true → Dp k.K H v d.toP
  | _, _, _, .non, _ => by simp only [D.toP]; exact .non
  | _, _, _, .bl b, _ => by simp only [D.toP]; exact .bl b
  | _, _, _, .int b, _ => by simp only [D.toP]; exact .int b
  | _, _, _, .str b, _ => by simp only [D.toP]; exact .str b
  | _, _, n, .tup h r, e => by
    cases n with
    | zero => simp [dok] at e
    | succ n => simp only [dok] at e; simp only [D.toP]; exact .tup h.t (RDs.dp n r e)
  | _, _, n, .lst h r, e => by
    cases n with
    | zero => simp [dok] at e
    | succ n => simp only [dok] at e; simp only [D.toP]; exact .lst (SqL.of h) (RDs.dp n r e)
  | _, _, n, .ty _, e => by cases n <;> simp [dok] at e
  | _, _, n, .scr _, e => by cases n <;> simp [dok] at e
  | _, _, n, .cls _, e => by cases n <;> simp [dok] at e
  | _, _, n, .dic _ _ _, e => by cases n <;> simp [dok] at e
  | _, _, n, .dit _ _ _, e => by cases n <;> simp [dok] at e
  | _, _, n, .dkf _ _ _, e => by cases n <;> simp [dok] at e
  | _, _, n, .obj _ _ _, e => by cases n <;> simp [dok] at e
theorem RDs.dp {k : Kn} {H : Hp} : ∀ {ds : List D} {vs : List V} (n : Nat), RDs k H ds vs → doks n ds = true → DpAll k.K H vs (D.toPs ds)
  | _, _, _, .nil, _ => by simp only [D.toPs]; exact .nil
  | _, _, n, .cons a b, e => by
    simp only [doks, Bool.and_eq_true] at e
    simp only [D.toPs]
    exact .cons (RD.dp n a e.1) (RDs.dp n b e.2)
end
theorem dok_shaped {d : D} (h : dok 60 d = true) : SeqAt.shaped d.toP = true := by
  have := dok_lay 60 d h
  unfold SeqAt.shaped
  simp only [this.1, Bool.true_and, decide_eq_true_eq]
  omega
def eqD (a b : D) : R D := if dok 60 a && dok 60 b then .ok (.bl (deq a b)) else .fail
def neD (a b : D) : R D := if dok 60 a && dok 60 b then .ok (.bl (!deq a b)) else .fail
section
variable {X : Cx} {k : Kn}
theorem o_eq (hk : k.K = X.K) (hu : X.A.units + 64 < cLine) : Op2 X k (compareOp .Eq) .st eqD := by
  refine ⟨_, op_eqD hu, ?_⟩
  intro G H x y u v d e nx ny hg Q q
  unfold eqD at hg
  split at hg
  · rename_i h
    simp only [Bool.and_eq_true] at h
    cases hg
    refine ⟨x.toP, y.toP, hk ▸ (nx.rd e).dp 60 h.1, hk ▸ (ny.rd e).dp 60 h.2, dok_shaped h.1, dok_shaped h.2, ?_⟩
    rw [deq_eqv 60 60 x y h.1 h.2]
    exact q _ G H (Step.refl e) (.bl _)
  · cases hg
theorem o_ne (hk : k.K = X.K) (hu : X.A.units + 64 < cLine) : Op2 X k (compareOp .NotEq) .st neD := by
  refine ⟨_, op_neD hu, ?_⟩
  intro G H x y u v d e nx ny hg Q q
  unfold neD at hg
  split at hg
  · rename_i h
    simp only [Bool.and_eq_true] at h
    cases hg
    refine ⟨x.toP, y.toP, hk ▸ (nx.rd e).dp 60 h.1, hk ▸ (ny.rd e).dp 60 h.2, dok_shaped h.1, dok_shaped h.2, ?_⟩
    rw [deq_eqv 60 60 x y h.1 h.2]
    exact q _ G H (Step.refl e) (.bl _)
  · cases hg
def addD : D → D → R D
  | .int i, .int j => .ok (.int (i + j))
  | .str x, .str y => if x.length + y.length ≤ sizeLine then .ok (.str (x ++ y)) else .fail
  | .lst xs, .lst ys => if xs.length + ys.length ≤ sizeLine then .ok (.lst (xs ++ ys)) else .fail
  | .tup xs, .tup ys => if xs.length + ys.length ≤ sizeLine then .ok (.tup (xs ++ ys)) else .fail
  | _, _ => .fail
theorem o_add (hk : k.K = X.K) : Op2 X k (binaryOp .Add) .st addD := by
  refine ⟨_, op_add.or (op_add_str.or (op_cat.or op_catA)), ?_⟩
  intro G H x y u v d e nx ny hg Q q
  unfold addD at hg
  split at hg
  · cases hg; obtain rfl := nx.int; obtain rfl := ny.int
    exact .inl ⟨_, _, rfl, rfl, q _ G H (Step.refl e) (.int _)⟩
  · split at hg
    · rename_i hl
      cases hg; obtain rfl := nx.str; obtain rfl := ny.str
      exact .inr (.inl ⟨_, _, rfl, rfl, hl, q _ G H (Step.refl e) (.str _)⟩)
    · cases hg
  · split at hg
    · rename_i hl
      cases hg
      obtain ⟨a, vs, rfl, ha, ra⟩ := nx.lst e
      obtain ⟨b, us, rfl, hb, rb⟩ := ny.lst e
      exact .inr (.inr (.inl ⟨a, b, vs, us, rfl, rfl, ha, hb, by rw [← ra.length, ← rb.length]; exact hl, fun p hp => q _ _ _ (Step.new e hp) (.lst upd_same ((ra.append rb).mono (Ex.new (e.free hp))))⟩))
    · cases hg
  · split at hg
    · rename_i hl
      cases hg
      obtain ⟨a, vs, rfl, ha, ra⟩ := nx.tup
      obtain ⟨b, us, rfl, hb, rb⟩ := ny.tup
      refine .inr (.inr (.inr ⟨a, b, vs, us, rfl, rfl, hk ▸ e.sqT ha.t, hk ▸ e.sqT hb.t, by rw [← ra.length, ← rb.length]; exact hl, fun z => ?_, fun z1 z2 => ?_, fun _ _ p hp => q _ _ _ (Step.new e hp) (.tup (SqU.of upd_same) ((ra.append rb).mono (Ex.new (e.free hp))))⟩))
      · subst z; cases ra; exact q _ _ _ (Step.refl e) (.tup hb rb)
      · subst z2; cases rb; rw [List.append_nil] at q; exact q _ _ _ (Step.refl e) (.tup ha ra)
    · cases hg
  · cases hg
theorem o_int {f : Value → Value → Sem Value} {C : Int → Int → Prop} [∀ i j, Decidable (C i j)] {gv : Int → Int → V} {gd : Int → Int → D} (h : OpR X f (rI C gv)) (r : ∀ i j G, RD k G (gd i j) (gv i j)) :
    Op2 X k f .st (fun x y => match x, y with | .int i, .int j => if C i j then .ok (gd i j) else .fail | _, _ => .fail) := by
  refine ⟨_, h, ?_⟩
  intro G H x y u v d e nx ny hg Q q
  dsimp only at hg
  split at hg
  · split at hg
    · rename_i hc
      cases hg; obtain rfl := nx.int; obtain rfl := ny.int
      exact ⟨_, _, rfl, rfl, hc, q _ G H (Step.refl e) (r _ _ _)⟩
    · cases hg
  · cases hg
theorem o_int0 {f : Value → Value → Sem Value} {gv : Int → Int → V} {gd : Int → Int → D} (h : OpR X f (rI0 gv)) (r : ∀ i j G, RD k G (gd i j) (gv i j)) :
    Op2 X k f .st (fun x y => match x, y with | .int i, .int j => .ok (gd i j) | _, _ => .fail) := by
  refine ⟨_, h, ?_⟩
  intro G H x y u v d e nx ny hg Q q
  dsimp only at hg
  split at hg
  · cases hg; obtain rfl := nx.int; obtain rfl := ny.int
    exact ⟨_, _, rfl, rfl, q _ G H (Step.refl e) (r _ _ _)⟩
  · cases hg
def subD : D → D → R D := fun x y => match x, y with | .int i, .int j => .ok (.int (i - j)) | _, _ => .fail
theorem o_sub : Op2 X k (binaryOp .Sub) .st subD := o_int0 op_sub fun _ _ _ => .int _
instance (i j : Int) : Decidable (CMul i j) := by unfold CMul; exact inferInstance
instance (i j : Int) : Decidable (CMulX i j) := by unfold CMulX; exact inferInstance
instance (i j : Int) : Decidable (CDiv i j) := by unfold CDiv; exact inferInstance
instance (i j : Int) : Decidable (CPow i j) := by unfold CPow; exact inferInstance
def fdivD : D → D → R D := fun x y => match x, y with | .int i, .int j => if CDiv i j then .ok (.int (i / j)) else .fail | _, _ => .fail
theorem o_fdiv : Op2 X k (binaryOp .FloorDiv) .st fdivD := o_int op_fdiv fun _ _ _ => .int _
def modD : D → D → R D := fun x y => match x, y with | .int i, .int j => if 0 < j then .ok (.int (i % j)) else .fail | _, _ => .fail
theorem o_mod : Op2 X k (binaryOp .Mod) .st modD := o_int (C := fun _ j => 0 < j) op_mod fun _ _ _ => .int _
def powD : D → D → R D := fun x y => match x, y with | .int i, .int j => if CPow i j then .ok (.int (i ^ j.toNat)) else .fail | _, _ => .fail
theorem o_pow : Op2 X k (binaryOp .Pow) .st powD := o_int op_pow fun _ _ _ => .int _
def mulD : D → D → R D
  | .int i, .int j => if CMul i j ∨ CMulX i j then .ok (.int (i * j)) else .fail
  | .lst xs, .int j => if -(2 ^ 63) ≤ j ∧ j < 2 ^ 63 ∧ xs.length * j.toNat ≤ sizeLine then .ok (.lst (List.replicate j.toNat xs).flatten) else .fail
  | .tup xs, .int j => if xs ≠ [] ∧ 2 ≤ j ∧ j ≤ 1000 ∧ xs.length ≤ 1000 then .ok (.tup (List.replicate j.toNat xs).flatten) else .fail
  | _, _ => .fail
theorem RDs.rep {G : Hp} {ds : List D} {vs : List V} (r : RDs k G ds vs) : ∀ n : Nat, RDs k G (List.replicate n ds).flatten (List.replicate n vs).flatten
  | 0 => by simpa using .nil
  | n + 1 => by rw [List.replicate_succ, List.replicate_succ, List.flatten_cons, List.flatten_cons]; exact r.append (RDs.rep r n)
theorem o_mul (hk : k.K = X.K) : Op2 X k (binaryOp .Mult) .st mulD := by
  refine ⟨_, (op_mul.or op_mulX).or (op_rep.or op_repT), ?_⟩
  intro G H x y u v d e nx ny hg Q q
  unfold mulD at hg
  split at hg
  · split at hg
    · rename_i hc
      cases hg; obtain rfl := nx.int; obtain rfl := ny.int
      rcases hc with hc | hc
      · exact .inl (.inl ⟨_, _, rfl, rfl, hc, q _ G H (Step.refl e) (.int _)⟩)
      · exact .inl (.inr ⟨_, _, rfl, rfl, hc, q _ G H (Step.refl e) (.int _)⟩)
    · cases hg
  · split at hg
    · rename_i hc
      cases hg; obtain rfl := ny.int
      obtain ⟨a, vs, rfl, ha, ra⟩ := nx.lst e
      exact .inr (.inl ⟨a, _, vs, rfl, rfl, ha, hc.1, hc.2.1, by rw [← ra.length]; exact hc.2.2, fun p hp => q _ _ _ (Step.new e hp) (.lst upd_same ((ra.rep _).mono (Ex.new (e.free hp))))⟩)
    · cases hg
  · split at hg
    · rename_i hc
      cases hg; obtain rfl := ny.int
      obtain ⟨a, vs, rfl, ha, ra⟩ := nx.tup
      exact .inr (.inr ⟨a, _, vs, rfl, rfl, hk ▸ e.sqT ha.t, fun z => hc.1 (by subst z; cases ra; rfl), hc.2.1, hc.2.2.1, by rw [← ra.length]; exact hc.2.2.2, fun p hp => q _ _ _ (Step.new e hp) (.tup (SqU.of upd_same) ((ra.rep _).mono (Ex.new (e.free hp))))⟩)
    · cases hg
  · cases hg
def ltD : D → D → R D := fun x y => match x, y with | .int i, .int j => .ok (.bl (decide (i < j))) | _, _ => .fail
theorem o_lt : Op2 X k (compareOp .Lt) .st ltD := o_int0 op_lt fun _ _ _ => .bl _
def leD : D → D → R D := fun x y => match x, y with | .int i, .int j => .ok (.bl (decide (i ≤ j))) | _, _ => .fail
theorem o_le : Op2 X k (compareOp .LtE) .st leD := o_int0 op_le fun _ _ _ => .bl _
def gtD : D → D → R D := fun x y => match x, y with | .int i, .int j => .ok (.bl (decide (j < i))) | _, _ => .fail
theorem o_gt : Op2 X k (compareOp .Gt) .st gtD := o_int0 op_gt fun _ _ _ => .bl _
def geD : D → D → R D := fun x y => match x, y with | .int i, .int j => .ok (.bl (decide (j ≤ i))) | _, _ => .fail
theorem o_ge : Op2 X k (compareOp .GtE) .st geD := o_int0 op_ge fun _ _ _ => .bl _
def negD : D → R D := fun x => match x with | .int i => .ok (.int (-i)) | _ => .fail
theorem o_neg : Un1 X k (unaryOp .USub) negD := by
  refine ⟨_, un_neg, ?_⟩
  intro G H x u d e nx hg Q q
  unfold negD at hg
  split at hg
  · cases hg; obtain rfl := nx.int
    exact ⟨_, rfl, q _ G H (Step.refl e) (.int _)⟩
  · cases hg
def D.isNon : D → Bool
  | .non => true
  | _ => false
def isD : D → D → R D := fun x y => match y with | .non => .ok (.bl x.isNon) | _ => .fail
theorem Now.isNon {G H : Hp} {x : D} {u : V} (n : Now k G H x u) : decide (u = V.non) = x.isNon := by
  rcases n with n | ⟨a, o, rfl, h, ct⟩
  · cases n <;> simp [D.isNon]
  · cases ct <;> simp [D.isNon]
theorem o_is : Op2 X k (compareOp .Is) .st isD := by
  refine ⟨_, op_isN, ?_⟩
  intro G H x y u v d e nx ny hg Q q
  unfold isD at hg
  split at hg
  · cases hg; obtain rfl := ny.non
    exact ⟨rfl, by rw [nx.isNon]; exact q _ G H (Step.refl e) (.bl _)⟩
  · cases hg
theorem RDs.atI {G : Hp} {ds : List D} {vs : List V} {i : Int} {d : D} (r : RDs k G ds vs) (h : L2.atI ds i = some d) : ∃ v, L2.atI vs i = some v ∧ RD k G d v := by
  unfold L2.atI at h ⊢
  rw [← r.length]
  cases e : ixN ds.length i with
  | none => rw [e] at h; cases h
  | some j => rw [e] at h; exact r.get h
def ixD : D → D → R D
  | .lst xs, .int i => match L2.atI xs i with | some d => .ok d | none => .fail
  | .tup xs, .int i => match L2.atI xs i with | some d => .ok d | none => .fail
  | .scr ns, .int i => match L2.atI ns i with | some d => .ok (.int d) | none => .fail
  | .str x, .int i => if x.length ≤ sizeLine then match L2.atI x.cps.toList i with | some c => .ok (.str ⟨#[c]⟩) | none => .fail else .fail
  | _, _ => .fail
theorem IxR.or {r r' : R2} (h : IxR X r) (h' : IxR X r') : IxR X (fun x y H Q => r x y H Q ∨ r' x y H Q) := fun v sl pins s σ H x y u w Q I rx ry q hs => by
  rcases q with q | q
  · exact h v sl pins s σ H x y u w Q I rx ry q hs
  · exact h' v sl pins s σ H x y u w Q I rx ry q hs
theorem atI_map {α β : Type} (f : α → β) (xs : List α) (i : Int) : L2.atI (xs.map f) i = (L2.atI xs i).map f := by
  unfold L2.atI
  rw [List.length_map]
  cases ixN xs.length i with
  | none => rfl
  | some j => simp
theorem o_ix (hk : k.K = X.K) : Ix2 X k ixD := by
  refine ⟨_, IxR.or ix_list (IxR.or ix_tup ix_str), ?_⟩
  intro G H x y u v d e nx ny hg Q q
  unfold ixD at hg
  split at hg
  · split at hg
    · rename_i d' hd
      cases hg; obtain rfl := ny.int
      obtain ⟨a, vs, rfl, ha, ra⟩ := nx.lst e
      obtain ⟨w, h1, h2⟩ := ra.atI hd
      exact .inl ⟨a, vs, _, w, rfl, rfl, SqL.of ha, h1, q _ G H (Step.refl e) h2⟩
    · cases hg
  · split at hg
    · rename_i d' hd
      cases hg; obtain rfl := ny.int
      obtain ⟨a, vs, rfl, ha, ra⟩ := nx.tup
      obtain ⟨w, h1, h2⟩ := ra.atI hd
      exact .inr (.inl ⟨a, vs, _, w, rfl, rfl, hk ▸ e.sqT ha.t, h1, q _ G H (Step.refl e) h2⟩)
    · cases hg
  · split at hg
    · rename_i d' hd
      cases hg; obtain rfl := ny.int
      obtain ⟨a, rfl, ha⟩ := nx.scr
      exact .inl ⟨a, _, _, .int d', rfl, rfl, hk ▸ e.sqL ha, by rw [atI_map, hd]; rfl, q _ G H (Step.refl e) (.int _)⟩
    · cases hg
  · split at hg
    · rename_i hl
      split at hg
      · rename_i d' hd
        cases hg; obtain rfl := ny.int; obtain rfl := nx.str
        exact .inr (.inr ⟨_, _, d', rfl, rfl, hl, hd, q _ G H (Step.refl e) (.str _)⟩)
      · cases hg
    · cases hg
  · cases hg
end
end M
set_option Elab.async false
set_option linter.all false
set_option maxRecDepth 100000
set_option maxHeartbeats 4000000
namespace M
open PySem L2
section
variable {X : Cx} {c : Cf} {kd k1 k2 k3 : Kd} {a b e : Expr} {f g h : FE} {pos : Pos}
def toB : D → R Bool
  | .bl b => .ok b
  | _ => .fail
def tB' (f : FE) : FT := fun S => f S >>= toB
def truD : D → R Bool
  | .non => .ok false
  | .bl b => .ok b
  | .int i => .ok (i != 0)
  | .str x => if x.length ≤ sizeLine then .ok (x.length != 0) else .fail
  | .tup xs => .ok (!xs.isEmpty)
  | .lst xs => .ok (!xs.isEmpty)
  | .dic ks _ => .ok (!ks.isEmpty)
  | _ => .fail
def tT' (f : FE) : FT := fun S => f S >>= truD
theorem Now.toB {k : Kn} {G H : Hp} {d : D} {v : V} {b : Bool} (n : Now k G H d v) (h : toB d = .ok b) : v = .bl b := by
  cases d <;> simp only [M.toB] at h <;> first | (cases h; done) | (cases h; exact n.bl)
theorem Nows.isEmpty {k : Kn} {G : Hp} {ds : List D} {vs : List V} (r : RDs k G ds vs) : (!ds.isEmpty) = !vs.isEmpty := by
  cases r <;> rfl
theorem Now.tru {k : Kn} {G H : Hp} {d : D} {v : V} {b : Bool} (e : Ex G H) (n : Now k G H d v) (h : truD d = .ok b) : TruV k.K v H b := by
  unfold truD at h
  split at h
  · cases h; obtain rfl := n.non; rfl
  · cases h; obtain rfl := n.bl; rfl
  · cases h; obtain rfl := n.int; rfl
  · split at h
    · rename_i hl
      cases h; obtain rfl := n.str
      exact ⟨hl, by simp [bne, BEq.beq]⟩
    · cases h
  · cases h; obtain ⟨p, vs, rfl, hp, r⟩ := n.tup
    exact .inr (.inl ⟨vs, e.sqT hp.t, Nows.isEmpty r⟩)
  · cases h; obtain ⟨p, vs, rfl, hp, r⟩ := n.lst e
    exact .inl ⟨vs, SqL.of hp, Nows.isEmpty r⟩
  · cases h; obtain ⟨p, vs, rfl, hp, l, r⟩ := n.dic e
    refine .inr (.inr ⟨_, hp, ?_⟩)
    have l2 := r.length
    rename_i ks ds
    cases ks with
    | nil => rfl
    | cons x xs =>
      cases vs with
      | nil => simp at l2; subst l2; simp at l
      | cons y ys => rfl
  · cases h
theorem d_tt {kd : Kd} (hk : c.k.K = X.K) (ha : PE' X c kd a f) (he : ∀ whole, isTrue a X.env whole = (do let v ← whole; standAt a.pos; holding [v] (truthy v)) := by intro _; rfl) : PT' X c a (tT' f) :=
  ptI (pt_truth ha he) fun σ H Q ⟨G, S, rel, p⟩ => by
    refine rdE_go (g := truD) (Post := PostT c G S σ H Q) rel p (fun _ z => z) (fun z => z) fun d v G' H' s q p1 => ?_
    cases e1 : truD d with
    | ok b => rw [e1] at p1; exact ⟨b, hk ▸ q.now.tru s.gh e1, p1 G' H' s⟩
    | exc x => cases d <;> simp only [truD] at e1 <;> first | (cases e1; done) | (split at e1 <;> cases e1)
    | fail => rw [e1] at p1; exact p1.elim
theorem tB_go {t : TE} {σ : St} {H : Hp} {Q : Bool → Hp → Prop} (ht : ∀ σ H Q, RdE c .st f σ H Q → t σ H Q) (q : RdT c (tB' f) σ H Q) : t σ H fun x H' => ∃ k, x = .bl k ∧ Q k H' := by
  obtain ⟨G, S, rel, p⟩ := q
  refine ht σ H _ (rdE_go (g := toB) (Post := PostT c G S σ H Q) rel p (fun _ z => z) (fun z => z) fun d v G' H' s q p1 => ?_)
  cases e1 : toB d with
  | ok b => rw [e1] at p1; exact ⟨b, q.now.toB e1, p1 G' H' s⟩
  | exc x => cases d <;> simp only [toB] at e1 <;> cases e1
  | fail => rw [e1] at p1; exact p1.elim
theorem d_tc {op : CmpOp} {o : D → D → R D} (ho : Op2 X c.k (compareOp op) .st o) (ha : PE' X c k1 a f) (hb : PE' X c k2 b g) (hm : behindInMarks op b = false := by rfl) : PT' X c (.Compare a [op] [b] pos) (tB' (e2 o f g)) := by
  obtain ⟨r, h1, h2⟩ := ho
  exact ptI (pt_cmpR h1 ha hb hm) fun σ H Q q => tB_go (t := tOp r (RdE c k1 f) (RdE c k2 g)) (fun σ H Q q => e2_go h2 q) q
def e3 (o o' : D → D → R D) (f g h : FE) : FE := fun S => do
  let x ← f S
  let y ← g S
  let b ← (o x y).nox
  let b ← toB b
  if b then do
    let z ← h S
    (o' y z).nox
  else .ok (.bl false)
theorem e3_go {o o' : D → D → R D} {r r' : R2} {σ : St} {H : Hp} {Q : VK} (hr : ∀ G H x y u v d, Ex G H → Now c.k G H x u → Now c.k G H y v → o x y = .ok d → ∀ Q : VK, (∀ w G' H', Step G H G' H' → Res c.k H G' H' d w .st → Q w H') → r u v H Q)
    (hr' : ∀ G H x y u v d, Ex G H → Now c.k G H x u → Now c.k G H y v → o' x y = .ok d → ∀ Q : VK, (∀ w G' H', Step G H G' H' → Res c.k H G' H' d w .st → Q w H') → r' u v H Q)
    (q : RdE c .st (e3 o o' f g h) σ H Q) : tChain r r' (RdE c k1 f) (RdE c k2 g) (RdE c k3 h) σ H Q := by
  obtain ⟨G, S, rel, p⟩ := q
  refine rdE_go (g := fun x => do let y ← g S; let b ← (o x y).nox; let b ← toB b; if b then do { let z ← h S; (o' y z).nox } else .ok (.bl false)) (Post := PostE c .st G S σ H Q) rel p (fun _ z => z) (fun z => z) fun d1 v1 G1 H1 s1 q1 p1 => ?_
  refine rdE_go (g := fun y => do let b ← (o d1 y).nox; let b ← toB b; if b then do { let z ← h S; (o' y z).nox } else .ok (.bl false)) (Post := PostE c .st G S σ H Q) (rel.grow s1) p1 (fun _ z => z) (fun z => z) fun d2 v2 G2 H2 s2 q2 p2 => ?_
  cases eo : o d1 d2 with
  | exc x => rw [eo] at p2; exact p2.elim
  | fail => rw [eo] at p2; exact p2.elim
  | ok db =>
    rw [eo] at p2
    refine hr G2 H2 d1 d2 v1 v2 db s2.gh (q1.now.grow s2) q2.now eo _ fun w G3 H3 s3 q3 => ?_
    cases eb : toB db with
    | exc x => cases db <;> simp only [toB] at eb <;> cases eb
    | fail => simp only [R.nox_ok, R.ok_bind, eb, R.fail_bind] at p2; exact p2.elim
    | ok kb =>
      simp only [R.nox_ok, R.ok_bind, eb] at p2
      refine ⟨kb, (Res.now (kd := .st) q3).toB eb, ?_⟩
      cases kb with
      | false =>
        rw [if_neg Bool.false_ne_true] at p2 ⊢
        exact p2 _ G3 H3 ((s1.trans s2).trans s3) (.bl _)
      | true =>
        rw [if_pos rfl] at p2 ⊢
        refine rdE_go (g := fun z => (o' d2 z).nox) (Post := PostE c .st G S σ H Q) (((rel.grow s1).grow s2).grow s3) p2 (fun _ z => z) (fun z => z) fun d4 v4 G4 H4 s4 q4 p4 => ?_
        cases eo' : o' d2 d4 with
        | exc x => rw [eo'] at p4; exact p4.elim
        | fail => rw [eo'] at p4; exact p4.elim
        | ok dr =>
          rw [eo'] at p4
          exact hr' G4 H4 d2 d4 v2 v4 dr s4.gh (q2.now.grow (s3.trans s4)) q4.now eo' Q fun w' G5 H5 s5 q5 => p4 w' G5 H5 ((((s1.trans s2).trans s3).trans s4).trans s5) q5
theorem d_ch {op op' : CmpOp} {cc : Expr} {o o' : D → D → R D} (ho : Op2 X c.k (compareOp op) .st o) (ho' : Op2 X c.k (compareOp op') .st o') (ha : PE' X c k1 a f) (hb : PE' X c k2 b g) (hc : PE' X c k3 cc h)
    (hm : lastMarks [op, op'] [b, cc] = false := by with_unfolding_all rfl) : PE' X c .st (.Compare a [op, op'] [b, cc] pos) (e3 o o' f g h) := by
  obtain ⟨r, h1, h2⟩ := ho
  obtain ⟨r', h1', h2'⟩ := ho'
  exact peI (pe_chain h1 h1' ha hb hc hm) fun σ H Q q => e3_go h2 h2' q
theorem d_tch {op op' : CmpOp} {cc : Expr} {o o' : D → D → R D} (ho : Op2 X c.k (compareOp op) .st o) (ho' : Op2 X c.k (compareOp op') .st o') (ha : PE' X c k1 a f) (hb : PE' X c k2 b g) (hc : PE' X c k3 cc h)
    (hm : lastMarks [op, op'] [b, cc] = false := by with_unfolding_all rfl) : PT' X c (.Compare a [op, op'] [b, cc] pos) (tB' (e3 o o' f g h)) := by
  obtain ⟨r, h1, h2⟩ := ho
  obtain ⟨r', h1', h2'⟩ := ho'
  exact ptI (pt_chain h1 h1' ha hb hc hm) fun σ H Q q => tB_go (t := tChain r r' (RdE c k1 f) (RdE c k2 g) (RdE c k3 h)) (fun σ H Q q => e3_go h2 h2' q) q
def tNo (t : FT) : FT := fun S => t S >>= fun b => .ok (!b)
def tA (t u : FT) : FT := fun S => t S >>= fun b => if b then u S else .ok false
def tO (t u : FT) : FT := fun S => t S >>= fun b => if b then .ok true else u S
variable {t u : FT}
theorem d_not (ha : PT' X c a t) : PT' X c (.UnaryOp .Not a pos) (tNo t) :=
  ptI (pt_not ha) fun σ H Q ⟨G, S, rel, p⟩ => rdT_go (g := fun b => .ok (!b)) (Post := PostT c G S σ H Q) rel p (fun _ z => z) (fun z => z) fun b G' H' s p1 => p1 G' H' s
abbrev PW' (X : Cx) (c : Cf) (e : Expr) (f : FT) : Prop := PW X e (RdT c f)
theorem PostT.grow {G H G' H' : Hp} {S : Env} {σ : St} {Q : Bool → Hp → Prop} {r : R Bool} (s : Step G H G' H') (p : PostT c G S σ H Q r) : PostT c G' S σ H' Q r := by
  cases r with
  | ok b => exact fun G2 H2 s2 => p G2 H2 (s.trans s2)
  | exc x => exact p
  | fail => exact p
theorem PostE.grow {G H G' H' : Hp} {S : Env} {σ : St} {Q : VK} {r : R D} (s : Step G H G' H') (p : PostE c kd G S σ H Q r) : PostE c kd G' S σ H' Q r := by
  cases r with
  | ok b => exact fun v G2 H2 s2 q => p v G2 H2 (s.trans s2) (q.mono s.h)
  | exc x => exact p
  | fail => exact p
theorem d_and1 (ha : PT' X c a t) : PW' X c (.BoolOp .And [a] pos) t := pw_and1 ha
theorem d_or1 (ha : PT' X c a t) : PW' X c (.BoolOp .Or [a] pos) t := pw_or1 ha
theorem d_and {rest : List Expr} (ha : PT' X c a t) (hb : PW' X c (.BoolOp .And (b :: rest) pos) u) : PW' X c (.BoolOp .And (a :: b :: rest) pos) (tA t u) :=
  pwI (pw_and ha hb) fun σ H Q ⟨G, S, rel, p⟩ => rdT_go (g := fun b => if b then u S else .ok false) (Post := PostT c G S σ H Q) rel p (fun _ z => z) (fun z => z) fun b G' H' s p1 => by
    cases b with
    | true => exact ⟨G', S, rel.grow s, PostT.grow s p1⟩
    | false => exact p1 G' H' s
theorem d_or {rest : List Expr} (ha : PT' X c a t) (hb : PW' X c (.BoolOp .Or (b :: rest) pos) u) : PW' X c (.BoolOp .Or (a :: b :: rest) pos) (tO t u) :=
  pwI (pw_or ha hb) fun σ H Q ⟨G, S, rel, p⟩ => rdT_go (g := fun b => if b then .ok true else u S) (Post := PostT c G S σ H Q) rel p (fun _ z => z) (fun z => z) fun b G' H' s p1 => by
    cases b with
    | true => exact p1 G' H' s
    | false => exact ⟨G', S, rel.grow s, PostT.grow s p1⟩
theorem d_pw (h : PW' X c a t) : PT' X c a t := h.pt
def eAnd (f g : FE) : FE := fun S => f S >>= toB >>= fun b => if b then g S else .ok (.bl false)
def eOr (f g : FE) : FE := fun S => f S >>= toB >>= fun b => if b then .ok (.bl true) else g S
def eNot (f : FE) : FE := fun S => f S >>= toB >>= fun b => .ok (.bl (!b))
def eIf (t : FT) (f g : FE) : FE := fun S => t S >>= fun b => if b then f S else g S
theorem bind_toB {β : Type} (r : R D) (k : Bool → R β) : (r >>= toB >>= k) = r >>= fun d => toB d >>= k := by cases r <;> rfl
theorem d_vone {op} (h : PE' X c .st a f) : PE' X c .st (.BoolOp op [a] pos) f := pe_one h
theorem d_vand {rest : List Expr} (ha : PE' X c .st a f) (hb : PE' X c .st (.BoolOp .And (b :: rest) pos) g) : PE' X c .st (.BoolOp .And (a :: b :: rest) pos) (eAnd f g) :=
  peI (pe_and ha hb) fun σ H Q ⟨G, S, rel, p⟩ => by
    unfold eAnd at p
    rw [bind_toB] at p
    refine rdE_go (Post := PostE c .st G S σ H Q) rel p (fun _ z => z) (fun z => z) fun d v G' H' s q p1 => ?_
    cases d with
    | bl k =>
      refine ⟨k, (Res.now (kd := .st) q).bl, ?_⟩
      cases k with
      | true => exact ⟨G', S, rel.grow s, PostE.grow s p1⟩
      | false => exact p1 _ G' H' s (.bl _)
    | _ => exact p1.elim
theorem d_vor {rest : List Expr} (ha : PE' X c .st a f) (hb : PE' X c .st (.BoolOp .Or (b :: rest) pos) g) : PE' X c .st (.BoolOp .Or (a :: b :: rest) pos) (eOr f g) :=
  peI (pe_or ha hb) fun σ H Q ⟨G, S, rel, p⟩ => by
    unfold eOr at p
    rw [bind_toB] at p
    refine rdE_go (Post := PostE c .st G S σ H Q) rel p (fun _ z => z) (fun z => z) fun d v G' H' s q p1 => ?_
    cases d with
    | bl k =>
      refine ⟨k, (Res.now (kd := .st) q).bl, ?_⟩
      cases k with
      | true => exact p1 _ G' H' s (.bl _)
      | false => exact ⟨G', S, rel.grow s, PostE.grow s p1⟩
    | _ => exact p1.elim
theorem d_vnot (ha : PE' X c .st a f) : PE' X c .st (.UnaryOp .Not a pos) (eNot f) :=
  peI (pe_not ha) fun σ H Q ⟨G, S, rel, p⟩ => by
    unfold eNot at p
    rw [bind_toB] at p
    refine rdE_go (Post := PostE c .st G S σ H Q) rel p (fun _ z => z) (fun z => z) fun d v G' H' s q p1 => ?_
    cases d with
    | bl k => exact ⟨k, (Res.now (kd := .st) q).bl, p1 _ G' H' s (.bl _)⟩
    | _ => exact p1.elim
theorem d_ite {cc : Expr} (hc : PT' X c cc t) (ha : PE' X c kd a f) (hb : PE' X c kd b g) : PE' X c kd (.IfExp cc a b pos) (eIf t f g) :=
  peI (pe_ifExp hc ha hb) fun σ H Q ⟨G, S, rel, p⟩ => rdT_go (g := fun b => if b then f S else g S) (Post := PostE c kd G S σ H Q) rel p (fun _ z => z) (fun z => z) fun b G' H' s p1 => by
    cases b with
    | true => exact ⟨G', S, rel.grow s, PostE.grow s p1⟩
    | false => exact ⟨G', S, rel.grow s, PostE.grow s p1⟩
end
end M
set_option Elab.async false
set_option linter.all false
set_option maxRecDepth 100000
set_option maxHeartbeats 4000000
namespace M
open PySem L2
abbrev PS' (X : Cx) (c : Cf) (fr : Bool) (as : List Nat) (st : Stmt) (s : FS) : Prop := PS X st (RdS c fr as s)
abbrev PB' (X : Cx) (c : Cf) (fr : Bool) (as : List Nat) (st : List Stmt) (s : FS) : Prop := PSs X st (RdS c fr as s)
section
variable {X : Cx} {c : Cf} {kd k1 k2 k3 : Kd} {a b e : Expr} {f g h : FE} {t u : FT} {pos : Pos} {fr : Bool} {as bs : List Nat} {s r : FS} {st : Stmt} {sts : List Stmt}
theorem PostS.mv {G G' H H' : Hp} {S S' : Env} {σ σ' : St} {Dn : Ends} {q : R (Fl × Env)} (hg : Ex G G') (fm : Frm as S σ H S' σ' H') (hs : ∀ i, i ∈ as ++ bs → i ∈ as ∨ i ∈ bs) (p : PostS c fr (as ++ bs) G S σ H Dn q) : PostS c fr bs G' S' σ' H' Dn q := by
  cases q with
  | exc x => exact p
  | fail => exact p
  | ok z =>
    obtain ⟨fl, S2⟩ := z
    cases fl with
    | nx => exact fun G2 σ2 H2 e r2 f2 => p G2 σ2 H2 (hg.trans e) r2 (fm.trans f2)
    | bk => exact fun G2 σ2 H2 e r2 f2 => p G2 σ2 H2 (hg.trans e) r2 (fm.trans f2)
    | ct => exact fun G2 σ2 H2 e r2 f2 => p G2 σ2 H2 (hg.trans e) r2 (fm.trans f2)
    | rt d => exact fun v G2 H2 st rv ow => p v G2 H2 st rv (ow.mv fm)
theorem PostS.sub {as' : List Nat} {G H : Hp} {S : Env} {σ : St} {Dn : Ends} {q : R (Fl × Env)} (hs : ∀ i, i ∈ as' → i ∈ as) (p : PostS c fr as G S σ H Dn q) : PostS c fr as' G S σ H Dn q := by
  cases q with
  | exc x => exact p
  | fail => exact p
  | ok z =>
    obtain ⟨fl, S2⟩ := z
    cases fl with
    | nx => exact fun G2 σ2 H2 e r2 f2 => p G2 σ2 H2 e r2 (f2.mono hs)
    | bk => exact fun G2 σ2 H2 e r2 f2 => p G2 σ2 H2 e r2 (f2.mono hs)
    | ct => exact fun G2 σ2 H2 e r2 f2 => p G2 σ2 H2 e r2 (f2.mono hs)
    | rt d => exact fun v G2 H2 st rv ow => p v G2 H2 st rv (ow.sub hs)
theorem PostS.gr {G H G' H' : Hp} {S : Env} {σ : St} {Dn : Ends} {q : R (Fl × Env)} (rel : Rel c G S σ H) (sp : Step G H G' H') (p : PostS c fr as G S σ H Dn q) : PostS c fr as G' S σ H' Dn q :=
  PostS.mv (as := []) (bs := as) sp.g (Frm.step rel sp) (fun i h => .inr (by simpa using h)) p
def sNil : FS := fun S => .ok (.nx, S)
def sSeq (s r : FS) : FS := fun S => s S >>= fun z => match z.1 with | .nx => r z.2 | _ => .ok z
def sSet (i : Nat) (f : FE) : FS := fun S => f S >>= fun d => .ok (.nx, S.set i (some ⟨false, d⟩))
def sOwn (i : Nat) (f : FE) : FS := fun S => f S >>= fun d => .ok (.nx, S.set i (some ⟨true, d⟩))
def sDrop (f : FE) : FS := fun S => f S >>= fun _ => .ok (.nx, S)
def sRet (f : FE) : FS := fun S => f S >>= fun d => .ok (.rt d, S)
def sRetN : FS := fun S => .ok (.rt .non, S)
def eO (i : Nat) : FE := fun S => match S[i]? with
  | some (some ⟨true, d⟩) => .ok d
  | _ => .fail
def sRetO (i : Nat) : FS := fun S => eO i S >>= fun d => .ok (.rt d, S)
def sIf (t : FT) (s r : FS) : FS := fun S => t S >>= fun b => if b then s S else r S
def sNo : FS := fun _ => .fail
def fzS (S : Env) (i : Nat) : Env := match S[i]? with
  | some (some ⟨true, d⟩) => S.set i (some ⟨false, d⟩)
  | _ => S
def sFz (i : Nat) (s : FS) : FS := fun S => s (fzS S i)
theorem b_nil : PB' X c fr [] [] sNil := pssI pss_nil fun Dn σ H ⟨G, S, rel, p⟩ => p G σ H (Ex.refl _) rel (Frm.refl _ _ _ _)
theorem s_no : PS' X c fr [] st sNo := psI ps_never fun Dn σ H ⟨G, S, rel, p⟩ => p
theorem b_cons (h1 : PS' X c fr as st s) (h2 : PB' X c fr bs sts r) : PB' X c fr (as ++ bs) (st :: sts) (sSeq s r) :=
  pssI (pss_cons h1 h2) fun Dn σ H ⟨G, S, rel, p⟩ => ⟨G, S, rel, by
    have p : PostS c fr (as ++ bs) G S σ H Dn (s S >>= fun z => match z.1 with | .nx => r z.2 | _ => .ok z) := p
    cases e1 : s S with
    | exc x => rw [e1] at p; exact p
    | fail => rw [e1] at p; exact p
    | ok z =>
      rw [e1] at p
      obtain ⟨fl, S1⟩ := z
      cases fl with
      | nx => exact fun G1 σ1 H1 ex r1 f1 => ⟨G1, S1, r1, PostS.mv (as := as) (bs := bs) ex f1 (fun i => List.mem_append.mp) p⟩
      | bk => exact PostS.sub (fun i q => List.mem_append_left _ q) p
      | ct => exact PostS.sub (fun i q => List.mem_append_left _ q) p
      | rt d => exact PostS.sub (fun i q => List.mem_append_left _ q) p⟩
theorem b_one (h1 : PS' X c fr as st s) : PB' X c fr as [st] s := pss_one h1
theorem s_fz (i : Nat) (h1 : PS' X c fr as st s) : PS' X c fr (i :: as) st (sFz i s) :=
  psI h1 fun Dn σ H ⟨G, S, rel, p⟩ => by
    have p : PostS c fr (i :: as) G S σ H Dn (s (fzS S i)) := p
    unfold fzS at p
    split at p
    · rename_i d hd
      obtain ⟨G', ex, rel'⟩ := rel.frz hd
      refine ⟨G', _, rel', PostS.mv (as := [i]) (bs := as) ex ⟨rfl, fun _ _ => rfl, fun j hj _ => ?_, fun _ _ _ _ _ => rfl⟩ (fun j q => by simpa using q) p⟩
      rw [List.getElem?_set_ne (fun z => hj (by simp [z]))]
    · exact ⟨G, S, rel, PostS.sub (fun j q => List.mem_cons_of_mem _ q) p⟩
abbrev PG' (X : Cx) (c : Cf) (as : List Nat) (e : Expr) (g : FG) : Prop := PG X e (RdG c as g)
abbrev FGs := List D → Env → R Env
def RdGs (c : Cf) (as : List Nat) (g : FGs) : TGs := fun vs σ H Q => ∃ G S ds, Rel c G S σ H ∧ RDs c.k G ds vs ∧ PostG c as G S σ H Q (g ds S)
abbrev PGs' (X : Cx) (c : Cf) (as : List Nat) (e : List Expr) (g : FGs) : Prop := PGs X e (RdGs c as g)
def gN (i : Nat) : FG := fun d S => .ok (S.set i (some ⟨false, d⟩))
def gsN : FGs := fun ds S => match ds with | [] => .ok S | _ => .fail
def gsC (g : FG) (r : FGs) : FGs := fun ds S => match ds with | d :: ds => g d S >>= r ds | [] => .fail
def gT (n : Nat) (r : FGs) : FG := fun d S => match d with | .tup ds => if ds.length = n then r ds S else .fail | _ => .fail
theorem Frm.set {S : Env} {σ : St} {H : Hp} (i : Nat) (x : Option Sl) (v : Option V) : Frm [i] S σ H (S.set i x) (σ.set i v) H :=
  ⟨by simp, fun j hj => List.getElem?_set_ne (fun z => hj (by simp [z])), fun j hj _ => List.getElem?_set_ne (fun z => hj (by simp [z])), fun _ _ _ _ _ => rfl⟩
theorem g_n (i : Nat) {x : Str} (hN : X.N.Nodup) (hi : X.N[i]? = some x := by rfl) (hx : Loc X.env.scope x := by first | exact Or.inl rfl | exact Or.inr rfl) (hf : X.fn x = true ∨ X.env.scope.names.lookup x = some .local := by first | exact .inl rfl | exact .inr rfl) : PG' X c [i] (.Name x pos) (gN i) :=
  pgI (pg_name hN hi hx hf) fun v σ H Q ⟨G, S, d, rel, q, p⟩ => p G _ H (Step.refl rel.st.gh) (rel.setS i q) (Frm.set i _ _)
theorem gs_n : PGs' X c [] [] gsN :=
  pgsI pgs_nil fun vs σ H Q ⟨G, S, ds, rel, q, p⟩ => by
    cases q with
    | nil => exact ⟨rfl, p G σ H (Step.refl rel.st.gh) rel (Frm.refl _ _ _ _)⟩
    | cons _ _ => exact p.elim
theorem gs_c {e : Expr} {es : List Expr} {ga : FG} {ra : FGs} (h1 : PG' X c as e ga) (h2 : PGs' X c bs es ra) (hs : (assignEach (e :: es) X.env).map (·.2) = assign e X.env :: (assignEach es X.env).map (·.2) := by rfl) : PGs' X c (as ++ bs) (e :: es) (gsC ga ra) :=
  pgsI (pgs_cons h1 h2 hs) fun vs σ H Q ⟨G, S, ds, rel, q, p⟩ => by
    cases q with
    | nil => exact p.elim
    | @cons d ds v vs q1 q2 =>
      refine ⟨v, vs, rfl, G, S, d, rel, q1, ?_⟩
      have p : PostG c (as ++ bs) G S σ H Q (ga d S >>= ra ds) := p
      cases e1 : ga d S with
      | exc x => rw [e1] at p; exact p.elim
      | fail => rw [e1] at p; exact p.elim
      | ok S1 =>
        rw [e1] at p
        refine fun G1 σ1 H1 ex r1 f1 => ⟨G1, S1, ds, r1, q2.mono ex.g, ?_⟩
        have p : PostG c (as ++ bs) G S σ H Q (ra ds S1) := p
        cases e2 : ra ds S1 with
        | exc x => rw [e2] at p; exact p.elim
        | fail => rw [e2] at p; exact p.elim
        | ok S2 => rw [e2] at p; exact fun G2 σ2 H2 ex2 r2 f2 => p G2 σ2 H2 (ex.trans ex2) r2 (f1.trans f2)
theorem g_t {es : List Expr} {k : Nat} {ra : FGs} {n : Nat} (hk : c.k.K = X.K) (hc : X.calm = true) (h : PGs' X c as es ra) (hn : (assignEach es X.env).length = n := by rfl) (hst : (assignEach es X.env).findIdx? (·.1) = none := by rfl) : PG' X c as (.Tuple es k pos) (gT n ra) :=
  pgI (pg_tup hc h hn hst) fun v σ H Q ⟨G, S, d, rel, q, p⟩ => by
    cases q with
    | @tup ds a vs hs hr =>
      have p : PostG c as G S σ H Q (if ds.length = n then ra ds S else .fail) := p
      by_cases hl : ds.length = n
      · rw [if_pos hl] at p
        exact ⟨a, vs, rfl, hk ▸ rel.st.gh.sqT hs.t, by rw [← hr.length]; exact hl, G, S, ds, rel, hr, p⟩
      · rw [if_neg hl] at p; exact p.elim
    | _ => exact p.elim
def sAsg (g : FG) (f : FE) : FS := fun S => f S >>= fun d => (g d S).nox >>= fun S' => .ok (Fl.nx, S')
theorem asg_go {ga : FG} {tg : TG} {Dn : Ends} {σ : St} {H : Hp} (hg : ∀ v σ H Q, RdG c as ga v σ H Q → tg v σ H Q) (q : RdS c fr as (sAsg ga f) Dn σ H) : RdE c .st f σ H fun x H1 => tg x σ H1 Dn.nx := by
  obtain ⟨G, S, rel, p⟩ := q
  refine rdE_go (g := fun d => (ga d S).nox >>= fun S' => .ok (Fl.nx, S')) (Post := PostS c fr as G S σ H Dn) rel p (fun _ z => z _) (fun z => z) fun d v G' H' sp q p1 => ?_
  refine hg v σ H' _ ⟨G', S, d, rel.grow sp, q, ?_⟩
  cases e1 : ga d S with
  | exc x => rw [e1] at p1; exact p1.elim
  | fail => rw [e1] at p1; exact p1.elim
  | ok S1 =>
    rw [e1] at p1
    exact fun G2 σ2 H2 ex r2 f2 => p1 G2 σ2 H2 (sp.g.trans ex.g) r2 ((Frm.step (as := []) rel sp).trans f2)
theorem s_asg {tg : Expr} {ga : FG} (he : PE' X c .st e f) (hg : PG' X c as tg ga) (hs : swapsWithSole [tg] e pos.line X.env = pure false := by rfl) (hw : swappedStores [tg] e X.env = pure none := by rfl) (h1 : (assignEach [tg] X.env).map (·.2) = [assign tg X.env] := by rfl) : PS' X c fr as (.Assign [tg] e pos) (sAsg ga f) :=
  psI (ps_asg he hg hs hw h1) fun Dn σ H q => asg_go (fun _ _ _ _ z => z) q
theorem s_set (i : Nat) {x : Str} {pos' : Pos} (hN : X.N.Nodup) (he : PE' X c .st e f) (hi : X.N[i]? = some x := by rfl) (hx : Loc X.env.scope x := by first | exact Or.inl rfl | exact Or.inr rfl) (hs : swapsWith e (some (.Name x pos')) pos.line X.env = pure false := by rfl)
    (hf : X.fn x = true ∨ X.env.scope.names.lookup x = some .local := by first | exact .inl rfl | exact .inr rfl) : PS' X c fr [i] (.Assign [.Name x pos'] e pos) (sSet i f) :=
  psI (ps_set hN hi hx he hs hf) fun Dn σ H ⟨G, S, rel, p⟩ => by
    refine rdE_go (g := fun d => .ok (Fl.nx, S.set i (some ⟨false, d⟩))) (Post := PostS c fr [i] G S σ H Dn) rel p (fun _ z => z _) (fun z => z) fun d v G' H' sp q p1 => ?_
    exact p1 G' _ H' sp.g ((rel.grow sp).setS i q) ((Frm.step (as := []) rel sp).trans (Frm.set i _ _))
theorem own_go {i : Nat} {Dn : Ends} {σ : St} {H : Hp} (q : RdS c fr [i] (sOwn i f) Dn σ H) : RdE c .fr f σ H fun x H1 => gName i x σ H1 Dn.nx := by
  obtain ⟨G, S, rel, p⟩ := q
  refine rdE_go (g := fun d => .ok (Fl.nx, S.set i (some ⟨true, d⟩))) (Post := PostS c fr [i] G S σ H Dn) rel p (fun _ z => z _) (fun z => z) fun d v G' H' sp q p1 => ?_
  obtain ⟨a, o, rfl, hg, hn, ha, ct⟩ := q
  refine p1 G' _ H' sp.g ((rel.grow sp).setO i ha hg (rel.st.h.free hn) ct (fun j ow => ?_) (fun _ _ => rfl)) ((Frm.step (as := []) rel sp).trans (Frm.set i _ _))
  obtain ⟨_, _, u, _, q, _⟩ := rel.own ow
  rw [hn] at q; cases q
theorem s_own (i : Nat) {x : Str} {pos' : Pos} (hN : X.N.Nodup) (he : PE' X c .fr e f) (hi : X.N[i]? = some x := by rfl) (hx : Loc X.env.scope x := by first | exact Or.inl rfl | exact Or.inr rfl) (hs : swapsWith e (some (.Name x pos')) pos.line X.env = pure false := by rfl)
    (hf : X.fn x = true ∨ X.env.scope.names.lookup x = some .local := by first | exact .inl rfl | exact .inr rfl) : PS' X c fr [i] (.Assign [.Name x pos'] e pos) (sOwn i f) :=
  psI (ps_set hN hi hx he hs hf) fun Dn σ H q => own_go q
theorem s_drop (he : PE' X c kd e f) (hs : swapsWith e none pos.line X.env = pure false := by rfl) : PS' X c fr [] (.Expr e pos) (sDrop f) :=
  psI (ps_expr he hs) fun Dn σ H ⟨G, S, rel, p⟩ => by
    refine rdE_go (g := fun d => .ok (Fl.nx, S)) (Post := PostS c fr [] G S σ H Dn) rel p (fun _ z => z _) (fun z => z) fun d v G' H' sp q p1 => ?_
    exact p1 G' σ H' sp.g (rel.grow sp) (Frm.step rel sp)
theorem s_ret (he : PE' X c .st e f) : PS' X c false [] (.Return (some e) pos) (sRet f) :=
  psI (ps_ret he) fun Dn σ H ⟨G, S, rel, p⟩ => by
    refine rdE_go (g := fun d => .ok (Fl.rt d, S)) (Post := PostS c false [] G S σ H Dn) rel p (fun _ z => z _) (fun z => z) fun d v G' H' sp q p1 => ?_
    exact p1 v G' H' (rel.st.trans sp) q (rel.grow sp).owR
theorem s_retF (he : PE' X c .fr e f) : PS' X c true [] (.Return (some e) pos) (sRet f) :=
  psI (ps_ret he) fun Dn σ H ⟨G, S, rel, p⟩ => by
    refine rdE_go (g := fun d => .ok (Fl.rt d, S)) (Post := PostS c true [] G S σ H Dn) rel p (fun _ z => z _) (fun z => z) fun d v G' H' sp q p1 => ?_
    obtain ⟨a, o, rfl, hg, hn, ha, ct⟩ := q
    exact p1 _ G' H' (rel.st.trans sp) ⟨a, o, rfl, hg, rel.st.h.free hn, ha, ct⟩ (rel.grow sp).owR
theorem s_retO (i : Nat) {x : Str} {p' : Pos} (hN : X.N[i]? = some x := by rfl) (hv : Vis X.env.scope x := by first | exact Or.inl rfl | exact Or.inr (Or.inl rfl) | exact Or.inr (Or.inr rfl)) (hd : (x == ("__debug__" : Str)) = false := by decide)
    (hcd : (x == ("__classdict__" : Str)) = false := by decide) : PS' X c true [] (.Return (some (.Name x p')) pos) (sRetO i) :=
  psI (ps_ret (pe_var hN hv hd hcd)) fun Dn σ H ⟨G, S, rel, p⟩ => by
    have p : PostS c true [] G S σ H Dn (eO i S >>= fun d => .ok (.rt d, S)) := p
    unfold eO at p
    split at p
    · rename_i d hd
      obtain ⟨a, o, e1, hg, h0, ho, ct⟩ := rel.ow i d hd
      exact ⟨_, e1, p _ G H rel.st ⟨a, o, rfl, hg, h0, ho, ct⟩ rel.owR⟩
    · exact p.elim
theorem s_if {cc : Expr} {aa bb : List Stmt} (hc : PT' X c cc t) (ha : PB' X c fr as aa s) (hb : PB' X c fr bs bb r) : PS' X c fr (as ++ bs) (.If cc aa bb pos) (sIf t s r) :=
  psI (ps_if hc ha hb) fun Dn σ H ⟨G, S, rel, p⟩ => rdT_go (g := fun b => if b then s S else r S) (Post := PostS c fr (as ++ bs) G S σ H Dn) rel p (fun _ z => z _) (fun z => z) fun b G' H' sp p1 => by
    cases b with
    | true => exact ⟨G', S, rel.grow sp, PostS.sub (fun i q => List.mem_append_left _ q) (PostS.gr rel sp p1)⟩
    | false => exact ⟨G', S, rel.grow sp, PostS.sub (fun i q => List.mem_append_right _ q) (PostS.gr rel sp p1)⟩
def whileF (t : FT) (s : FS) : Nat → FS
  | 0 => fun _ => .fail
  | n + 1 => fun S => t S >>= fun b => if b then s S >>= fun z => match z.1 with
    | .nx => whileF t s n z.2
    | .ct => whileF t s n z.2
    | .bk => .ok (.nx, z.2)
    | .rt d => .ok (.rt d, z.2) else .ok (.nx, S)
theorem s_while (n : Nat) {cc : Expr} {body : List Stmt} (hp : PassesOwn (model X.prog X.w) X.A X.env X.xe) (hc : PT' X c cc t) (hb : PB' X c fr as body s) : PS' X c fr as (.While cc body [] pos) (whileF t s n) :=
  psI (ps_while hp hc hb) fun Dn σ H ⟨G, S, rel, p⟩ => by
    refine ⟨fun m σ1 H1 => ∃ G1 S1, Rel c G1 S1 σ1 H1 ∧ Ex G G1 ∧ Frm as S σ H S1 σ1 H1 ∧ PostS c fr as G S σ H Dn (whileF t s m S1), ⟨n, G, S, rel, Ex.refl _, Frm.refl _ _ _ _, p⟩, ?_⟩
    rintro m σ1 H1 ⟨G1, S1, r1, ex1, f1, p1⟩
    cases m with
    | zero => exact p1.elim
    | succ m =>
      refine rdT_go (g := fun b => if b then s S1 >>= fun z => match z.1 with
        | .nx => whileF t s m z.2
        | .ct => whileF t s m z.2
        | .bk => .ok (.nx, z.2)
        | .rt d => .ok (.rt d, z.2) else .ok (.nx, S1)) (Post := PostS c fr as G S σ H Dn) r1 p1 (fun _ z => z _) (fun z => z) fun b G2 H2 sp p2 => ?_
      have f2 : Frm as S σ H S1 σ1 H2 := (f1.trans (Frm.step (as := []) r1 sp)).mono (fun i q => by simpa using q)
      cases b with
      | false => exact p2 G2 σ1 H2 (ex1.trans sp.g) (r1.grow sp) f2
      | true =>
        rw [if_pos rfl] at p2 ⊢
        refine ⟨fun σ' H' => ∃ G3 S3, Rel c G3 S3 σ' H' ∧ Ex G G3 ∧ Frm as S σ H S3 σ' H' ∧ PostS c fr as G S σ H Dn (whileF t s m S3), fun σ' H' q => ⟨m, Nat.lt_succ_self m, q⟩, G2, S1, r1.grow sp, ?_⟩
        cases e1 : s S1 with
        | exc x => rw [e1] at p2; exact p2
        | fail => rw [e1] at p2; exact p2
        | ok z =>
          rw [e1] at p2
          obtain ⟨fl, S3⟩ := z
          have fin : ∀ {σ3 : St} {H3 : Hp}, Frm as S1 σ1 H2 S3 σ3 H3 → Frm as S σ H S3 σ3 H3 := fun f3 => (f2.trans f3).mono (fun i q => by simpa using q)
          cases fl with
          | nx => exact fun G3 σ3 H3 e3 r3 f3 => ⟨G3, S3, r3, (ex1.trans sp.g).trans e3, fin f3, p2⟩
          | ct => exact fun G3 σ3 H3 e3 r3 f3 => ⟨G3, S3, r3, (ex1.trans sp.g).trans e3, fin f3, p2⟩
          | bk => exact fun G3 σ3 H3 e3 r3 f3 => p2 G3 σ3 H3 ((ex1.trans sp.g).trans e3) r3 (fin f3)
          | rt d => exact fun v G3 H3 st rv ow => p2 v G3 H3 st rv ((ow.mv f2).sub fun i q => by simpa using q)
def Itm (k : Kn) (ki : List Nat) (G1 : Hp) (S : Env) (σ : St) (H1 : Hp) (J : It) (ds : List D) : Prop :=
  ∀ G H, Ex G1 G → Ex G H → (∀ i, i ∈ ki → ∀ a, OwnAt S σ i a → H a = H1 a) → (∀ i : Nat, ds.length ≤ i → J.stop i H) ∧ ∀ (i : Nat) (d : D), ds[i]? = some d → J.go i H ∧ ∀ x H', J.yld i H x H' → ∃ G', Step G H G' H' ∧ RD k G' d x
abbrev FI := Env → R (List D)
def PostI (c : Cf) (ki : List Nat) (G : Hp) (S : Env) (σ : St) (H : Hp) (Q : It → Hp → Prop) : R (List D) → Prop
  | .ok ds => ∀ J G' H', Step G H G' H' → Itm c.k ki G' S σ H' J ds → Q J H'
  | .exc x => PX c σ x
  | .fail => False
def RdI (c : Cf) (ki : List Nat) (f : FI) : TI := fun σ H Q => ∃ G S, Rel c G S σ H ∧ PostI c ki G S σ H Q (f S)
abbrev PI' (X : Cx) (c : Cf) (ki : List Nat) (tg e : Expr) (f : FI) : Prop := PI X tg e (RdI c ki f)
def forF (g : FG) (s : FS) : List D → FS
  | [] => fun S => .ok (.nx, S)
  | d :: ds => fun S => (g d S).nox >>= fun S1 => s S1 >>= fun z => match z.1 with
    | .nx => forF g s ds z.2
    | .ct => forF g s ds z.2
    | .bk => .ok (.nx, z.2)
    | .rt d => .ok (.rt d, z.2)
def sFor (i : FI) (g : FG) (s : FS) : FS := fun S => i S >>= fun ds => forF g s ds S
theorem s_for {tg iter : Expr} {body : List Stmt} {ki gs : List Nat} {fi : FI} {ga : FG} (hp : PassesOwn (model X.prog X.w) X.A X.env X.xe) (hc : X.calm = true) (hi : PI' X c ki tg iter fi) (hg : PG' X c gs tg ga) (hb : PB' X c fr as body s)
    (hki : ∀ i, i ∈ ki → i ∉ gs ++ as ∧ i + 1000 ∉ gs ++ as := by decide) (hs : ∀ x, foldedSetIterable iter X.env x = pure x := by intro _; rfl) : PS' X c fr (gs ++ as) (.For tg iter body [] pos) (sFor fi ga s) :=
  psI (ps_for hp hc hi hg hb hs) fun Dn σ H ⟨G, S, rel, p⟩ => by
    refine ⟨G, S, rel, ?_⟩
    have p : PostS c fr (gs ++ as) G S σ H Dn (fi S >>= fun ds => forF ga s ds S) := p
    cases e0 : fi S with
    | exc x => rw [e0] at p; exact p _
    | fail => rw [e0] at p; exact p
    | ok ds =>
      rw [e0] at p
      have p : PostS c fr (gs ++ as) G S σ H Dn (forF ga s ds S) := p
      intro J G0 H0 sp it
      refine ⟨fun i m σ1 H1 => m = ds.length - i ∧ i ≤ ds.length ∧ ∃ G1 S1, Rel c G1 S1 σ1 H1 ∧ Ex G0 G1 ∧ Frm (gs ++ as) S σ H0 S1 σ1 H1 ∧ PostS c fr (gs ++ as) G S σ H Dn (forF ga s (ds.drop i) S1),
        ⟨_, rfl, Nat.zero_le _, G0, S, rel.grow sp, Ex.refl _, Frm.refl _ _ _ _, by simpa using p⟩, ?_⟩
      rintro i m σ1 H1 ⟨rfl, hle, G1, S1, r1, ex1, f1, p1⟩
      have keep : ∀ j, j ∈ ki → ∀ a, OwnAt S σ j a → H1 a = H0 a := fun j hj a ow => f1.ow j a (hki j hj).1 (hki j hj).2 ow
      have itm := it G1 H1 ex1 r1.st.gh keep
      have fm : Frm (gs ++ as) S σ H S1 σ1 H1 := ((Frm.step (as := []) rel sp).trans f1).mono (fun i q => by simpa using q)
      by_cases hlt : i < ds.length
      · obtain ⟨d, hd⟩ : ∃ d, ds[i]? = some d := ⟨ds[i], List.getElem?_eq_getElem hlt⟩
        have hdrop : ds.drop i = d :: ds.drop (i + 1) := by
          rw [List.drop_eq_getElem_cons hlt]; congr 1; rw [List.getElem?_eq_getElem hlt] at hd; exact Option.some.inj hd
        rw [hdrop] at p1
        obtain ⟨hgo, hy⟩ := itm.2 i d hd
        refine .inr ⟨hgo, fun σ' H' => ∃ G3 S3, Rel c G3 S3 σ' H' ∧ Ex G0 G3 ∧ Frm (gs ++ as) S σ H0 S3 σ' H' ∧ PostS c fr (gs ++ as) G S σ H Dn (forF ga s (ds.drop (i + 1)) S3), fun σ' H' q => ⟨ds.length - (i + 1), by omega, rfl, hlt, q⟩, fun x H2 hx => ?_⟩
        obtain ⟨G2, sp2, hd2⟩ := hy x H2 hx
        refine ⟨G2, S1, d, r1.grow sp2, hd2, ?_⟩
        have p1 : PostS c fr (gs ++ as) G S σ H Dn ((ga d S1).nox >>= fun S1 => s S1 >>= fun z => match z.1 with
          | .nx => forF ga s (ds.drop (i + 1)) z.2
          | .ct => forF ga s (ds.drop (i + 1)) z.2
          | .bk => .ok (.nx, z.2)
          | .rt d => .ok (.rt d, z.2)) := p1
        cases e1 : ga d S1 with
        | exc x => rw [e1] at p1; exact p1.elim
        | fail => rw [e1] at p1; exact p1.elim
        | ok S2 =>
          rw [e1] at p1
          refine fun G3 σ3 H3 e3 r3 f3 => ⟨G3, S2, r3, ?_⟩
          have f03 : Frm (gs ++ as) S σ H0 S2 σ3 H3 := (f1.trans ((Frm.step (as := []) r1 sp2).trans f3)).mono (fun i q => by simp only [List.mem_append, List.not_mem_nil, false_or] at q ⊢; rcases q with q | q; exact q; exact .inl q)
          have p1 : PostS c fr (gs ++ as) G S σ H Dn (s S2 >>= fun z => match z.1 with
            | .nx => forF ga s (ds.drop (i + 1)) z.2
            | .ct => forF ga s (ds.drop (i + 1)) z.2
            | .bk => .ok (.nx, z.2)
            | .rt d => .ok (.rt d, z.2)) := p1
          have g03 : Ex G0 G3 := (ex1.trans sp2.g).trans e3.g
          cases e2 : s S2 with
          | exc x => rw [e2] at p1; exact p1
          | fail => rw [e2] at p1; exact p1
          | ok z =>
            rw [e2] at p1
            obtain ⟨fl, S4⟩ := z
            have fin : ∀ {σ4 : St} {H4 : Hp}, Frm as S2 σ3 H3 S4 σ4 H4 → Frm (gs ++ as) S σ H0 S4 σ4 H4 := fun f4 => (f03.trans f4).mono (fun i q => by simp only [List.mem_append] at q ⊢; rcases q with q | q; exact q; exact .inr q)
            have fin2 : ∀ {σ4 : St} {H4 : Hp}, Frm as S2 σ3 H3 S4 σ4 H4 → Frm (gs ++ as) S σ H S4 σ4 H4 := fun f4 => ((Frm.step (as := []) rel sp).trans (fin f4)).mono (fun i q => by simpa using q)
            cases fl with
            | nx => exact fun G4 σ4 H4 e4 r4 f4 => ⟨G4, S4, r4, g03.trans e4, fin f4, p1⟩
            | ct => exact fun G4 σ4 H4 e4 r4 f4 => ⟨G4, S4, r4, g03.trans e4, fin f4, p1⟩
            | bk => exact fun G4 σ4 H4 e4 r4 f4 => p1 G4 σ4 H4 ((sp.g.trans g03).trans e4) r4 (fin2 f4)
            | rt d => exact fun v G4 H4 st rv ow => p1 v G4 H4 st rv ((ow.mv f03).sub fun i q => by simp only [List.mem_append] at q ⊢; rcases q with q | q; exact q; exact .inr q)
      · have hi : i = ds.length := by omega
        subst hi
        rw [List.drop_length] at p1
        exact .inl ⟨itm.1 _ (Nat.le_refl _), p1 G1 σ1 H1 (sp.g.trans ex1) r1 fm⟩
end
end M
set_option Elab.async false
set_option linter.all false
set_option maxRecDepth 100000
set_option maxHeartbeats 4000000
namespace M
open PySem L2
section
variable {X : Cx} {c : Cf} {kd k1 k2 k3 : Kd} {a b e tg : Expr} {f g h : FE} {t u : FT} {pos : Pos} {fr : Bool} {as bs : List Nat} {s r : FS}
def chrs (x : Str) : List D := x.cps.toList.map fun n => .str ⟨#[n]⟩
def itemsD : D → R (List D)
  | .lst ds => .ok ds
  | .tup ds => .ok ds
  | .scr ns => .ok (ns.map .int)
  | .str x => .ok (chrs x)
  | _ => .fail
theorem itm_list {k : Kn} {ki : List Nat} {G1 H1 : Hp} {S : Env} {σ : St} {K : PySem.W.Frag} {ds : List D} {vs : List V} {p : Addr} (hr : RDs k G1 ds vs) (hs : ∀ G H, Ex G1 G → Ex G H → (∀ i, i ∈ ki → ∀ a, OwnAt S σ i a → H a = H1 a) → SqL K H p vs)
    : Itm k ki G1 S σ H1 (Itl K p) ds := fun G H e1 e2 kp => by
  have q := hs G H e1 e2 kp
  refine ⟨fun i hi => ⟨vs, q, by rw [← hr.length]; exact hi⟩, fun i d hd => ?_⟩
  obtain ⟨v, hv, r⟩ := (hr.mono e1).get hd
  refine ⟨⟨vs, v, q, hv⟩, fun x H' hx => ?_⟩
  obtain ⟨rfl, hy⟩ := hx
  have := hy vs q
  rw [hv] at this; cases this
  exact ⟨G, Step.refl e2, r⟩
theorem itm_tup {k : Kn} {ki : List Nat} {G1 H1 : Hp} {S : Env} {σ : St} {K : PySem.W.Frag} {ds : List D} {vs : List V} {p : Addr} (hr : RDs k G1 ds vs) (hs : SqT K G1 p vs) : Itm k ki G1 S σ H1 (Itt K p) ds := fun G H e1 e2 kp => by
  have q := e2.sqT (e1.sqT hs)
  refine ⟨fun i hi => ⟨vs, q, by rw [← hr.length]; exact hi⟩, fun i d hd => ?_⟩
  obtain ⟨v, hv, r⟩ := (hr.mono e1).get hd
  refine ⟨⟨vs, v, q, hv⟩, fun x H' hx => ?_⟩
  obtain ⟨rfl, hy⟩ := hx
  have := hy vs q
  rw [hv] at this; cases this
  exact ⟨G, Step.refl e2, r⟩
theorem itm_str {k : Kn} {ki : List Nat} {G1 H1 : Hp} {S : Env} {σ : St} (x : Str) : Itm k ki G1 S σ H1 (Its x) (chrs x) := fun G H e1 e2 kp => by
  refine ⟨fun i hi => ?_, fun i d hd => ?_⟩
  · show x.cps.size ≤ i
    simpa [chrs] using hi
  · unfold chrs at hd
    rw [List.getElem?_map] at hd
    cases q : x.cps.toList[i]? with
    | none => rw [q] at hd; cases hd
    | some n =>
      rw [q] at hd; cases hd
      have q' : x.cps[i]? = some n := by simpa using q
      refine ⟨?_, fun y H' hy => ?_⟩
      · have := (Array.getElem?_eq_some_iff.mp q').1
        exact this
      · obtain ⟨e3, n', q2, e4⟩ := hy
        subst e3; subst e4
        rw [q'] at q2; cases q2
        exact ⟨G, Step.refl e2, .str _⟩
theorem i_seq (hk : c.k.K = X.K) (he : PE' X c .st e f) : PI' X c [] tg e (fun S => f S >>= itemsD) := by
  refine ⟨fun pins st σ H Rq I q => ?_⟩
  obtain ⟨G, S, rel, p⟩ := q
  have p : PostI c [] G S σ H Rq (f S >>= itemsD) := p
  cases e1 : f S with
  | exc x => exact (pi_list he).run pins st σ H Rq I ⟨G, S, rel, by rw [e1] at p ⊢; exact p⟩
  | fail => rw [e1] at p; exact p.elim
  | ok d =>
    rw [e1] at p
    cases d with
    | lst ds =>
      refine (pi_list he).run pins st σ H Rq I ⟨G, S, rel, ?_⟩
      rw [e1]
      intro v G' H' sp q
      cases q with
      | lst h r => exact ⟨_, rfl, ⟨_, SqL.of (sp.gh _ _ h)⟩, p _ G' H' sp (itm_list r fun G2 H2 a1 a2 _ => SqL.of (a2 _ _ (a1 _ _ h)))⟩
    | scr ns =>
      refine (pi_list he).run pins st σ H Rq I ⟨G, S, rel, ?_⟩
      rw [e1]
      intro v G' H' sp q
      cases q with
      | scr h => exact ⟨_, rfl, ⟨_, hk ▸ sp.gh.sqL h⟩, p _ G' H' sp (itm_list (RDs.ints ns) fun G2 H2 a1 a2 _ => hk ▸ a2.sqL (a1.sqL h))⟩
    | tup ds =>
      refine (pi_tup he).run pins st σ H Rq I ⟨G, S, rel, ?_⟩
      rw [e1]
      intro v G' H' sp q
      cases q with
      | tup h r => exact ⟨_, rfl, ⟨_, hk ▸ sp.gh.sqT h.t⟩, p _ G' H' sp (itm_tup r (hk ▸ h.t))⟩
    | str x =>
      refine (pi_str he).run pins st σ H Rq I ⟨G, S, rel, ?_⟩
      rw [e1]
      intro v G' H' sp q
      cases q with
      | str => exact ⟨_, rfl, p _ G' H' sp (itm_str x)⟩
    | _ => exact p.elim
def rngL (lo : Int) (n : Nat) : List D := (List.range n).map fun (i : Nat) => .int (lo + i)
def rng1 : List D → R (List D)
  | [.int j] => if -(2 ^ 62) ≤ j ∧ j < 2 ^ 62 then .ok (rngL 0 j.toNat) else .fail
  | _ => .fail
theorem itm_rng {k : Kn} {ki : List Nat} {G1 H1 : Hp} {S : Env} {σ : St} (lo : Int) (n : Nat) : Itm k ki G1 S σ H1 (Itr lo n) (rngL lo n) := fun G H e1 e2 kp => by
  refine ⟨fun i hi => (by simpa [rngL] using hi : n ≤ i), fun i d hd => ?_⟩
  unfold rngL at hd
  rw [List.getElem?_map] at hd
  have hi : i < n := by
    rcases Nat.lt_or_ge i n with z | z
    · exact z
    · rw [List.getElem?_eq_none (by simpa using z)] at hd; cases hd
  rw [List.getElem?_range hi] at hd
  cases hd
  refine ⟨hi, fun x H' hx => ?_⟩
  obtain ⟨rfl, rfl⟩ := hx
  exact ⟨G, Step.refl e2, .int _⟩
theorem i_rng1 {p : Pos} {fa : FA} {ba : Bool} (hm : X.mg "range" = none) (ha : PA' X c ba [a] fa) (hg : Gl X "range" := by rfl) (hs : starEach [a] X.env = [(false, eval a X.env)] := by rfl) : PI' X c [] tg (.Call (.Name "range" p) [a] [] pos) (fun S => fa S >>= rng1) :=
  piI (pi_range1 hg hm ha hs) fun σ H Rq ⟨G, S, rel, p⟩ => by
    refine rdA_go (g := rng1) (Post := PostI c [] G S σ H Rq) rel p (fun _ z => z) (fun z => z) fun ds vs G' H' sp q p1 => ?_
    rcases ds with _ | ⟨d1, _ | ⟨d2, dr⟩⟩
    · exact p1.elim
    · cases d1 with
      | int j =>
        have p1 : PostI c [] G S σ H Rq (if -(2 ^ 62) ≤ j ∧ j < 2 ^ 62 then .ok (rngL 0 j.toNat) else .fail) := p1
        cases q.nows with
        | cons n1 n2 =>
          cases n2
          obtain rfl := n1.int
          by_cases hj : -(2 ^ 62) ≤ j ∧ j < 2 ^ 62
          · rw [if_pos hj] at p1
            exact ⟨j, rfl, hj.1, hj.2, p1 _ G' H' sp (itm_rng 0 _)⟩
          · rw [if_neg hj] at p1; exact p1.elim
      | _ => exact p1.elim
    · cases d1 <;> exact p1.elim
theorem Rel.cw {c : Cf} {W : WX} {G H : Hp} {S : Env} {σ : St} (r : Rel c G S σ H) : Rel { c with W := W } G S σ H := ⟨r.st, r.len, r.fz, r.ow, r.nd⟩
theorem wipe_in {i : Nat} : ∀ {vs : List Nat} {σ : St}, i ∈ vs → i < σ.length → (L2.wipe σ vs)[i]? = some none
  | v :: vs, σ, hm, hi => by
    unfold L2.wipe
    by_cases h : v = i
    · subst h; rw [List.getElem?_set_self (by rw [wipe_length]; exact hi)]
    · rw [List.getElem?_set_ne h]
      exact wipe_in (by rcases List.mem_cons.mp hm with z | z; exact absurd z.symm h; exact z) hi
theorem wipe_eq {vs : List Nat} {σ σ' : St} (hl : σ'.length = σ.length) (h : ∀ (i : Nat), i ∉ vs → σ'[i]? = (L2.wipe σ vs)[i]?) : L2.wipe σ' vs = L2.wipe σ vs := by
  apply List.ext_getElem?
  intro i
  by_cases hm : i ∈ vs
  · by_cases hi : i < σ.length
    · rw [wipe_in hm hi, wipe_in hm (by rw [hl]; exact hi)]
    · rw [List.getElem?_eq_none (by rw [wipe_length, hl]; omega), List.getElem?_eq_none (by rw [wipe_length]; omega)]
  · rw [wipe_out hm, h i hm]
abbrev Cf.nx (c : Cf) : Cf := { c with W := liftX E0 }
abbrev PTs' (X : Cx) (c : Cf) (ifs : List Expr) (t : FT) : Prop := PTs X ifs (RdT c t)
def tY : FT := fun _ => .ok true
theorem ts_n : PTs' X c [] tY := ptsI pts_nil fun σ H Q ⟨G, S, rel, p⟩ => p G H (Step.refl rel.st.gh)
theorem ts_1 (h : PT' X c a t) : PTs' X c [a] t := pts_one h
def lcF (ga : FG) (t : FT) (fe : FE) (S : Env) : List D → R (List D)
  | [] => .ok []
  | d :: ds => (ga d S).nox >>= fun S1 => (t S1).nox >>= fun b => if b then (fe S1).nox >>= fun y => lcF ga t fe S ds >>= fun ys => .ok (y :: ys) else lcF ga t fe S ds
def lcE (fi : FI) (ga : FG) (t : FT) (fe : FE) (vs : List Nat) : FE := fun S => fi S >>= fun ds => if ds.length ≤ sizeLine then lcF ga t fe (wipeS S vs) ds >>= fun ys => .ok (.lst ys) else .fail
theorem lcF_exc {ga : FG} {t : FT} {fe : FE} {S : Env} {x : Exc} : ∀ ds, lcF ga t fe S ds ≠ .exc x
  | [] => by intro h; cases h
  | d :: ds => by
    intro h
    unfold lcF at h
    cases e1 : ga d S <;> rw [e1] at h <;> first | (cases h; done) | skip
    simp only [R.nox_ok, R.ok_bind] at h
    rename_i S1
    cases e2 : t S1 <;> rw [e2] at h <;> first | (cases h; done) | skip
    simp only [R.nox_ok, R.ok_bind] at h
    rename_i b
    cases b with
    | false => exact lcF_exc ds h
    | true =>
      rw [if_pos rfl] at h
      cases e3 : fe S1 <;> rw [e3] at h <;> first | (cases h; done) | skip
      simp only [R.nox_ok, R.ok_bind] at h
      cases e4 : lcF ga t fe S ds with
      | ok ys => rw [e4] at h; cases h
      | exc y => exact lcF_exc ds e4
      | fail => rw [e4] at h; cases h
theorem lc_go {ki gs vs : List Nat} {fi : FI} {ga : FG} {fe : FE} {σ : St} {H : Hp} {Q : VK} {gi : TG} {tt : TT} {te : TE} (hg : ∀ v σ H Q, RdG c.nx gs ga v σ H Q → gi v σ H Q) (ht : ∀ σ H Q, RdT c.nx t σ H Q → tt σ H Q) (he : ∀ σ H Q, RdE c.nx .st fe σ H Q → te σ H Q)
    (hgs : ∀ i, i ∈ gs → i ∈ vs) (q : RdE c .fr (lcE fi ga t fe vs) σ H Q) : tLc (RdI c ki fi) gi tt te vs σ H Q := by
  obtain ⟨G, S, rel, p⟩ := q
  refine ⟨G, S, rel, ?_⟩
  have p : PostE c .fr G S σ H Q (fi S >>= fun ds => if ds.length ≤ sizeLine then lcF ga t fe (wipeS S vs) ds >>= fun ys => .ok (.lst ys) else .fail) := p
  cases e0 : fi S with
  | exc x => rw [e0] at p; exact p
  | fail => rw [e0] at p; exact p
  | ok ds =>
    rw [e0, R.ok_bind] at p
    by_cases hz : ds.length ≤ sizeLine
    · rw [if_pos hz] at p
      intro J G1 H1 sp it Dl hD
      have relb := ((rel.grow sp).wipe vs).cw (W := liftX E0)
      have hD0 : H Dl = none := sp.h.free hD
      refine ⟨fun i m H2 => m = ds.length - i ∧ i ≤ ds.length ∧ ∃ G2 ac av, Step G1 H1 G2 H2 ∧ G2 Dl = none ∧ H2 Dl = some (.lst av) ∧ RDs c.k G2 ac av ∧ ac.length ≤ i ∧
          PostE c .fr G S σ H Q (lcF ga t fe (wipeS S vs) (ds.drop i) >>= fun ys => .ok (.lst (ac ++ ys))),
        ⟨_, rfl, Nat.zero_le _, G1, [], [], Step.new' sp.gh hD, sp.gh.free hD, upd_same, .nil, Nat.zero_le _, by simpa using p⟩, ?_⟩
      rintro i m H2 ⟨rfl, hle, G2, ac, av, sp2, hGD, hHD, hr, hal, p2⟩
      have rel2 : Rel c.nx G2 (wipeS S vs) (L2.wipe σ vs) H2 := relb.grow sp2
      have itm := it G2 H2 sp2.g sp2.gh fun j hj x ow => by
        obtain ⟨_, _, o, _, ho, _⟩ := (rel.grow sp).own ow
        rw [ho, sp2.h _ _ ho]
      by_cases hlt : i < ds.length
      · obtain ⟨d, hd⟩ : ∃ d, ds[i]? = some d := ⟨ds[i], List.getElem?_eq_getElem hlt⟩
        have hdrop : ds.drop i = d :: ds.drop (i + 1) := by
          rw [List.drop_eq_getElem_cons hlt]; congr 1; rw [List.getElem?_eq_getElem hlt] at hd; exact Option.some.inj hd
        rw [hdrop] at p2
        obtain ⟨hgo, hy⟩ := itm.2 i d hd
        refine .inr ⟨hgo, fun H' => ∃ G3 ac av, Step G1 H1 G3 H' ∧ G3 Dl = none ∧ H' Dl = some (.lst av) ∧ RDs c.k G3 ac av ∧ ac.length ≤ i + 1 ∧
          PostE c .fr G S σ H Q (lcF ga t fe (wipeS S vs) (ds.drop (i + 1)) >>= fun ys => .ok (.lst (ac ++ ys))), fun H' ⟨G3, r3⟩ => ⟨_, by omega, rfl, hlt, G3, r3⟩, fun x H3 hx => ?_⟩
        obtain ⟨G3, sp3, hd3⟩ := hy x H3 hx
        refine hg x _ H3 _ ⟨G3, wipeS S vs, d, rel2.grow sp3, hd3, ?_⟩
        unfold lcF at p2
        cases e1 : ga d (wipeS S vs) with
        | exc x => rw [e1] at p2; exact p2.elim
        | fail => rw [e1] at p2; exact p2.elim
        | ok S1 =>
          rw [e1, R.nox_ok, R.ok_bind] at p2
          intro G4 σ4 H4 sp4 rel4 f4
          refine ⟨wipe_eq (by rw [f4.len, wipe_length]) fun j hj => f4.sg j fun z => hj (hgs j z), ht σ4 H4 _ ⟨G4, S1, rel4, ?_⟩⟩
          cases e2 : t S1 with
          | exc x => rw [e2] at p2; exact p2.elim
          | fail => rw [e2] at p2; exact p2.elim
          | ok b =>
            rw [e2, R.nox_ok, R.ok_bind] at p2
            intro G5 H5 sp5
            have spA : Step G2 H2 G5 H5 := (sp3.trans sp4).trans sp5
            have nD : ∀ {G6 H6 : Hp}, Step G2 H2 G6 H6 → G6 Dl = none ∧ H6 Dl = some (.lst av) := fun {G6 H6} z => by
              refine ⟨?_, z.h _ _ hHD⟩
              cases q : G6 Dl with
              | none => rfl
              | some o =>
                rcases z.gr _ _ q with w | w
                · rw [hGD] at w; cases w
                · rw [hHD] at w; cases w
            cases b with
            | false =>
              rw [if_neg Bool.false_ne_true] at p2 ⊢
              exact ⟨G5, ac, av, sp2.trans spA, (nD spA).1, (nD spA).2, hr.mono spA.g, by omega, p2⟩
            | true =>
              rw [if_pos rfl] at p2 ⊢
              refine he σ4 H5 _ ⟨G5, S1, rel4.grow sp5, ?_⟩
              cases e3 : fe S1 with
              | exc x => rw [e3] at p2; exact p2.elim
              | fail => rw [e3] at p2; exact p2.elim
              | ok y =>
                rw [e3, R.nox_ok, R.ok_bind] at p2
                intro v G6 H6 sp6 hv
                have spB := spA.trans sp6
                refine ⟨av, (nD spB).2, by rw [← hr.length]; omega, ?_⟩
                have spC : Step G1 H1 G6 (upd H6 Dl (.lst (av ++ [v]))) := by
                  have z := sp2.trans spB
                  exact ⟨z.g, z.h.upd hD, z.gh.upd (nD spB).1, z.gr⟩
                refine ⟨G6, ac ++ [y], av ++ [v], spC, (nD spB).1, upd_same, (hr.mono spB.g).append (.cons hv .nil), by rw [List.length_append]; simp; omega, ?_⟩
                cases e4 : lcF ga t fe (wipeS S vs) (ds.drop (i + 1)) with
                | exc x => exact absurd e4 (lcF_exc _)
                | fail => rw [e4] at p2; exact p2.elim
                | ok ys => rw [e4] at p2; simpa using p2
      · have hi : i = ds.length := by omega
        subst hi
        rw [List.drop_length] at p2
        refine .inl ⟨itm.1 _ (Nat.le_refl _), ?_⟩
        have p2 : PostE c .fr G S σ H Q (.ok (.lst (ac ++ []))) := p2
        rw [List.append_nil] at p2
        exact p2 _ G2 H2 (sp.trans sp2) ⟨Dl, _, rfl, hGD, hD0, hHD, .lst hr⟩
    · rw [if_neg hz] at p; exact p.elim
theorem d_lc {elt iter : Expr} {ifs : List Expr} {scope : Scope} (own : List (Str × Nat)) {ki gs : List Nat} {fi : FI} {ga : FG} {fe : FE} (hc : X.calm = true) (hN : X.N.Nodup) (hi : PI' X c ki tg iter fi) (ok : BlkOk X.N X.env.scope scope own)
    (hg : ∀ (s : Shared) (H : Hp) (C : Addr) (cl : List (Str × Addr)) (fp : List Addr), PG' (X.blk s H scope (compEnvC scope cl C X.env) fp) c.nx gs tg ga) (ht : ∀ (s : Shared) (H : Hp) (C : Addr) (cl : List (Str × Addr)) (fp : List Addr), PTs' (X.blk s H scope (compEnvC scope cl C X.env) fp) c.nx ifs t)
    (he : ∀ (s : Shared) (H : Hp) (C : Addr) (cl : List (Str × Addr)) (fp : List Addr), PE' (X.blk s H scope (compEnvC scope cl C X.env) fp) c.nx .st elt fe) (hgs : ∀ i, i ∈ gs → i ∈ own.map (·.2) := by decide) (hs : ∀ x, foldedSetIterable iter X.env x = pure x := by intro _; rfl) :
    PE' X c .fr (.ListComp elt [⟨tg, iter, ifs, 0⟩] scope pos) (lcE fi ga t fe (own.map (·.2))) :=
  peI (pe_lc hc hN hi ok hg ht he hs) fun σ H Q q => lc_go (fun _ _ _ _ z => z) (fun _ _ _ z => z) (fun _ _ _ z => z) hgs q
end
end M
set_option Elab.async false
set_option linter.all false
set_option maxRecDepth 100000
set_option maxHeartbeats 4000000
namespace M
open PySem L2
abbrev kdOf (fr : Bool) : Kd := if fr then .fr else .st
def PostF (k : Kn) (fr : Bool) (G0 H : Hp) (Q : VK) (E : XK) : R D → Prop
  | .ok d => ∀ v G' H', Step G0 H G' H' → Res k H G' H' d v (kdOf fr) → Q v H'
  | .exc x => PXs ⟨k, H, G0, liftX E⟩ x
  | .fail => False
def SpF (k : Kn) (fr : Bool) (n : Nat) (den : List D → R D) : Sp := fun vs H Q E => vs.length = n ∧ ∃ G0 ds, Ex G0 H ∧ RDs k G0 ds vs ∧ PostF k fr G0 H Q E (den ds)
def startS (n : Nat) (ds : List D) : Env := ds.map (fun d => some ⟨false, d⟩) ++ List.replicate (n - ds.length) none
def endF (fr : Bool) : R (Fl × Env) → R D
  | .ok (.rt d, _) => .ok d
  | .ok (.nx, _) => if fr then .fail else .ok .non
  | .ok _ => .fail
  | .exc x => .exc x
  | .fail => .fail
def runF (fr : Bool) (n : Nat) (s : FS) (ds : List D) : R D := endF fr (s (startS n ds))
theorem rel_start {c : Cf} {N : List Str} {ds : List D} {vs : List V} (e : Ex c.G0 c.H0) (r : RDs c.k c.G0 ds vs) : Rel c c.G0 (startS N.length ds) (L2.start N vs) c.H0 := by
  have own : ∀ (i : Nat) (d : D), (startS N.length ds)[i]? ≠ some (some ⟨true, d⟩) := fun i d q => by
    unfold startS at q
    rw [List.getElem?_append] at q
    split at q
    · rw [List.getElem?_map] at q
      cases h : ds[i]? <;> rw [h] at q <;> cases q
    · rw [List.getElem?_replicate] at q
      split at q <;> cases q
  refine ⟨Step.refl e, by simp [startS, L2.start, r.length], fun i d q => ?_, fun i d q => absurd q (own i d), fun i j a o => ?_⟩
  · unfold startS at q
    rw [List.getElem?_append] at q
    split at q
    · rename_i hlt
      rw [List.getElem?_map] at q
      cases h : ds[i]? with
      | none => rw [h] at q; cases q
      | some d' =>
        rw [h] at q; cases q
        obtain ⟨v, h1, h2⟩ := r.get h
        refine ⟨v, ?_, h2⟩
        unfold L2.start
        rw [List.getElem?_append_left (by rw [List.length_map]; exact (List.getElem?_eq_some_iff.mp h1).1), List.getElem?_map, h1]; rfl
    · rw [List.getElem?_replicate] at q
      split at q <;> cases q
  · obtain ⟨⟨d, q⟩, _⟩ := o
    exact absurd q (own i d)
theorem body_ok {k : Kn} {fr : Bool} {as : List Nat} {N : List Str} {X : Cx} {body : List Stmt} {s : FS} {H : Hp} {vs : List V} {Q : VK} {E : XK} {n : Nat} (hb : ∀ G0, PB' X ⟨k, H, G0, liftX E⟩ fr as body s) (q : SpF k fr n (runF fr N.length s) vs H Q E) :
    ∃ t, PSs X body t ∧ t { nx := fun _ H' => Q .non H', rt := Q } (L2.start N vs) H := by
  obtain ⟨hl, G0, ds, e, r, p⟩ := q
  refine ⟨_, hb G0, G0, _, rel_start (c := ⟨k, H, G0, liftX E⟩) e r, ?_⟩
  unfold runF at p
  cases e1 : s (startS N.length ds) with
  | exc x => rw [e1] at p; exact p
  | fail => rw [e1] at p; exact p.elim
  | ok z =>
    rw [e1] at p
    obtain ⟨fl, S1⟩ := z
    cases fl with
    | nx =>
      cases fr with
      | true => exact p.elim
      | false => exact fun G' σ' H' _ rel _ => p .non G' H' rel.st .non
    | bk => exact p.elim
    | ct => exact p.elim
    | rt d =>
      intro v G' H' st rv _
      refine p v G' H' st ?_
      cases fr with
      | true => exact rv
      | false => exact rv
section
variable {P : Program} {w : World} {K : PySem.W.Frag} {mg : Str → Option Value} {base : Heap}
theorem fn_ok {k : Kn} {fr : Bool} {as : List Nat} {x qual : Str} {params : Arguments} {body : List Stmt} {scope : Scope} {dvs : List V} {kws : List (Str × V)} {f : Addr} {fd : FuncData} {N ps : List Str} {lv : Nat} {s : FS} (F : FunD K x qual params body scope dvs kws f fd) (S : FnScope N ps scope)
    (hb : ∀ (cdv : Value) (A : Around) (outer : List PySem.Env) (sh : Shared) (H G0 : Hp), Room lv (A.deeper (PyProof.Rows.envOfC qual scope sh.heap.objs.size f cdv)) → PB' (cxOf CX0 P w K mg base N qual scope f cdv A outer sh H E0).nox ⟨k, H, G0, liftX E0⟩ fr as body s) :
    FnOk P w K mg base CX0 (lv + 1) f fd ps (SpF k fr ps.length (fun ds => (runF fr N.length s ds).nox)) := by
  refine F.ok S (fun vs H Q E q => q.1) fun cdv A outer sh H vs Q E hr q => ?_
  have q' : SpF k fr ps.length (runF fr N.length s) vs H Q E0 := by
    obtain ⟨hl, G0, ds, e, r, p⟩ := q
    refine ⟨hl, G0, ds, e, r, ?_⟩
    dsimp only at p
    cases e1 : runF fr N.length s ds with
    | ok d => rw [e1] at p; exact p
    | exc x => rw [e1] at p; exact p.elim
    | fail => rw [e1] at p; exact p.elim
  obtain ⟨t, h1, h2⟩ := body_ok (X := (cxOf CX0 P w K mg base N qual scope f cdv A outer sh H E0).nox) (fun G0 => hb cdv A outer sh H G0 hr) q'
  exact ⟨t, h1.nox, h2⟩
end
structure Fn0 (X : Cx) (k : Kn) (x : Str) (n : Nat) (fr : Bool) (den : List D → R D) : Prop where
  ex : ∃ (f : Addr) (fd : FuncData) (lv : Nat) (ps : List Str), ps.length = n ∧ FnOk X.prog X.w X.K X.mg X.base CX0 lv f fd ps (SpF k fr n den) ∧ Room lv X.A ∧ X.mg x = some (.ref f) ∧ PySem.W.keepIn X.K (.ref f) = true ∧ Binds X.K fd ps []
section
variable {X : Cx} {c : Cf} {kd k1 k2 k3 : Kd} {a b e : Expr} {pos : Pos} {fr : Bool} {den : List D → R D}
theorem call_go {n : Nat} {fa : FA} {σ : St} {H : Hp} {Q : VK} (hl : ∀ S ds, fa S = .ok ds → ds.length = n) (q : RdE c (kdOf fr) (eC den fa) σ H Q) : RdA c false fa σ H fun vs H1 => SpF c.k fr n den (vs ++ []) H1 Q E0 := by
  obtain ⟨G, S, rel, p⟩ := q
  have p : PostE c (kdOf fr) G S σ H Q (fa S >>= fun ds => (den ds).nox) := p
  refine ⟨G, S, rel, ?_⟩
  cases e0 : fa S with
  | exc x => rw [e0] at p; exact p
  | fail => rw [e0] at p; exact p
  | ok ds =>
    rw [e0] at p
    intro vs G1 H1 s1 q1
    have q1 : RDs c.k G1 ds vs := q1
    rw [List.append_nil]
    refine ⟨by rw [← q1.length]; exact hl S ds e0, G1, ds, s1.gh, q1, ?_⟩
    have p : PostE c (kdOf fr) G S σ H Q (den ds).nox := p
    cases e1 : den ds with
    | ok d => rw [e1] at p; exact fun v G' H' s2 r2 => p v G' H' (s1.trans s2) (r2.mono s1.h)
    | exc x => rw [e1] at p; exact p.elim
    | fail => rw [e1] at p; exact p.elim
def Len (n : Nat) (fa : FA) : Prop := ∀ S ds, fa S = .ok ds → ds.length = n
theorem len_n : Len 0 aN := fun S ds h => by cases h; rfl
theorem len_c {n : Nat} {f : FE} {fa : FA} (h : Len n fa) : Len (n + 1) (aC f fa) := fun S ds q => by
  unfold aC at q
  cases e1 : f S with
  | exc x => rw [e1] at q; cases q
  | fail => rw [e1] at q; cases q
  | ok d =>
    rw [e1] at q
    have q : (fa S >>= fun xs => R.ok (d :: xs)) = .ok ds := q
    cases e2 : fa S with
    | exc x => rw [e2] at q; cases q
    | fail => rw [e2] at q; cases q
    | ok xs => rw [e2] at q; cases q; simp [h S xs e2]
theorem d_call {x : Str} {n : Nat} {p : Pos} {es : List Expr} {fa : FA} (F : Fn0 X c.k x n fr den) (ha : PA' X c false (e :: es) fa) (hl : Len n fa) (hg : Gl X x := by rfl) (hdb : (x == ("__debug__" : Str)) = false := by decide)
    (hs : starEach (e :: es) X.env = (false, eval e X.env) :: starEach es X.env := by rfl) (hs2 : ((backTo pos (starEach es X.env)).any fun x => x.1) = false := by rfl) : PE' X c (kdOf fr) (.Call (.Name x p) (e :: es) [] pos) (eC den fa) := by
  obtain ⟨f, fd, lv, ps, hn, ok, hr, hm, hk, hb⟩ := F.ex
  exact peI (pe_call ok hr hg hm hk hb .nil pass0 ha hdb hs hs2) fun σ H Q q => call_go hl q
mutual
def D.noMut : D → Bool
  | .lst _ => false
  | .dic _ _ => false
  | .dit _ _ => false
  | .dkf _ _ => false
  | .tup xs => D.noMuts xs
  | .obj _ _ => false
  | .scr _ => false
  | _ => true
def D.noMuts : List D → Bool
  | [] => true
  | x :: xs => x.noMut && D.noMuts xs
end
noncomputable def cut (S : Env) (σ : St) (H : Hp) : Hp := fun b => open Classical in if ∃ i, OwnAt S σ i b then none else H b
theorem cut_get {S : Env} {σ : St} {H : Hp} {b : Addr} (h : ∀ i, ¬ OwnAt S σ i b) : cut S σ H b = H b := by
  unfold cut; rw [if_neg (fun ⟨i, q⟩ => h i q)]
theorem Cont.notup {k : Kn} {G : Hp} {d : D} {o : HO} (c : Cont k G d o) : (∀ vs, o ≠ .tup vs) ∧ (∀ q vs, o ≠ .frz q vs) := by
  cases c <;> exact ⟨fun _ z => (by cases z), fun _ _ z => (by cases z)⟩
mutual
theorem RD.cut {c : Cf} {G H H' : Hp} {S : Env} {σ : St} (rel : Rel c G S σ H) (e : Ex H H') : ∀ {d : D} {v : V}, RD c.k H' d v → d.noMut = true → RD c.k (M.cut S σ H') d v
  | _, _, .non, _ => .non
  | _, _, .bl b, _ => .bl b
  | _, _, .int b, _ => .int b
  | _, _, .str b, _ => .str b
  | _, _, .ty b, _ => .ty b
  | _, _, .cls b, _ => .cls b
  | _, _, .tup h r, q => by
    simp only [D.noMut] at q
    refine .tup ?_ (RDs.cut rel e r q)
    rcases h with h | h
    · refine .inl ?_
      rw [cut_get]; exact h
      intro i ow
      obtain ⟨_, _, o, d, ho, _, ct⟩ := rel.own ow
      have := e _ _ ho
      rw [h] at this; cases this
      exact ct.notup.1 _ rfl
    · exact .inr h
  | _, _, .scr _, q => by simp [D.noMut] at q
  | _, _, .lst _ _, q => by simp [D.noMut] at q
  | _, _, .dic _ _ _, q => by simp [D.noMut] at q
  | _, _, .dit _ _ _, q => by simp [D.noMut] at q
  | _, _, .dkf _ _ _, q => by simp [D.noMut] at q
  | _, _, .obj _ _ _, q => by simp [D.noMut] at q
theorem RDs.cut {c : Cf} {G H H' : Hp} {S : Env} {σ : St} (rel : Rel c G S σ H) (e : Ex H H') : ∀ {ds : List D} {vs : List V}, RDs c.k H' ds vs → D.noMuts ds = true → RDs c.k (M.cut S σ H') ds vs
  | _, _, .nil, _ => .nil
  | _, _, .cons a b, q => by
    simp only [D.noMuts, Bool.and_eq_true] at q
    exact .cons (RD.cut rel e a q.1) (RDs.cut rel e b q.2)
end
end
end M
set_option Elab.async false
set_option linter.all false
set_option maxRecDepth 100000
set_option maxHeartbeats 4000000
namespace M
open PySem L2
section
variable {X : Cx} {k : Kn}
theorem CallR.or {f : Value} {r r' : List V → Hp → VK → Prop} (h : CallR X f r) (h' : CallR X f r') : CallR X f (fun xs H Q => r xs H Q ∨ r' xs H Q) := fun pins s σ H xs us Q I rx q => by
  rcases q with q | q
  · exact h pins s σ H xs us Q I rx q
  · exact h' pins s σ H xs us Q I rx q
theorem cl1 {f : Value} {kd : Kd} {g : D → R D} {r : List V → Hp → VK → Prop} (h : CallR X f r) (q : ∀ G H x v d, Ex G H → Now k G H x v → g x = .ok d → ∀ Q : VK, (∀ w G' H', Step G H G' H' → Res k H G' H' d w kd → Q w H') → r [v] H Q) :
    ClR X k f kd (fun xs => match xs with | [x] => g x | _ => .fail) := by
  refine ⟨r, h, ?_⟩
  intro G H ds vs d e ns hg Q p
  cases ns with
  | nil => cases hg
  | cons n1 n2 =>
    cases n2 with
    | nil => exact q G H _ _ d e n1 hg Q p
    | cons _ _ => cases hg
theorem cl2 {f : Value} {kd : Kd} {g : D → D → R D} {r : List V → Hp → VK → Prop} (h : CallR X f r) (q : ∀ G H x v y u d, Ex G H → Now k G H x v → Now k G H y u → g x y = .ok d → ∀ Q : VK, (∀ w G' H', Step G H G' H' → Res k H G' H' d w kd → Q w H') → r [v, u] H Q) :
    ClR X k f kd (fun xs => match xs with | [x, y] => g x y | _ => .fail) := by
  refine ⟨r, h, ?_⟩
  intro G H ds vs d e ns hg Q p
  cases ns with
  | nil => cases hg
  | cons n1 n2 =>
    cases n2 with
    | nil => cases hg
    | cons n2 n3 =>
      cases n3 with
      | nil => exact q G H _ _ _ _ d e n1 n2 hg Q p
      | cons _ _ => cases hg
def f1 (g : D → R D) : List D → R D := fun xs => match xs with | [x] => g x | _ => .fail
def f2 (g : D → D → R D) : List D → R D := fun xs => match xs with | [x, y] => g x y | _ => .fail
def lenD : D → R D
  | .str x => if x.length ≤ sizeLine then .ok (.int x.length) else .fail
  | .lst xs => .ok (.int xs.length)
  | .tup xs => .ok (.int xs.length)
  | .scr ns => .ok (.int ns.length)
  | .dic ks _ => .ok (.int ks.length)
  | _ => .fail
theorem c_len (hk : k.K = X.K) : ClR X k (.builtin "len") .st (f1 lenD) := cl1 (call_len.or call_lenD) fun G H x v d e n hg Q p => by
  unfold lenD at hg
  split at hg
  · split at hg
    · rename_i hl
      cases hg; obtain rfl := n.str
      exact .inl ⟨_, _, rfl, ⟨hl, rfl⟩, p _ G H (Step.refl e) (.int _)⟩
    · cases hg
  · cases hg; obtain ⟨a, vs, rfl, ha, r⟩ := n.lst e
    exact .inl ⟨_, _, rfl, .inl ⟨vs, SqL.of ha, rfl⟩, by rw [← r.length]; exact p _ G H (Step.refl e) (.int _)⟩
  · cases hg; obtain ⟨a, vs, rfl, ha, r⟩ := n.tup
    exact .inl ⟨_, _, rfl, .inr ⟨vs, hk ▸ e.sqT ha.t, rfl⟩, by rw [← r.length]; exact p _ G H (Step.refl e) (.int _)⟩
  · cases hg; obtain ⟨a, rfl, ha⟩ := n.scr
    exact .inl ⟨_, _, rfl, .inl ⟨_, hk ▸ e.sqL ha, rfl⟩, by rw [List.length_map]; exact p _ G H (Step.refl e) (.int _)⟩
  · cases hg; obtain ⟨a, vs, rfl, ha, l, r⟩ := n.dic e
    refine .inr ⟨a, _, rfl, ha, ?_⟩
    rw [List.length_zip, ← r.length, ← l, Nat.min_self]; exact p _ G H (Step.refl e) (.int _)
  · cases hg
def absD : D → R D
  | .int i => .ok (.int (if i < 0 then -i else i))
  | _ => .fail
theorem c_abs : ClR X k (.builtin "abs") .st (f1 absD) := cl1 call_abs fun G H x v d e n hg Q p => by
  cases x <;> simp only [absD] at hg <;> first | (cases hg; done) | skip
  cases hg; obtain rfl := n.int
  exact ⟨_, rfl, p _ G H (Step.refl e) (.int _)⟩
def intD : D → R D
  | .int i => .ok (.int i)
  | .bl b => .ok (.int (if b then 1 else 0))
  | _ => .fail
theorem c_int : ClR X k (.type "int") .st (f1 intD) := cl1 call_int1 fun G H x v d e n hg Q p => by
  cases x <;> simp only [intD] at hg <;> first | (cases hg; done) | skip
  · cases hg; obtain rfl := n.bl
    exact .inr ⟨_, rfl, p _ G H (Step.refl e) (.int _)⟩
  · cases hg; obtain rfl := n.int
    exact .inl ⟨_, rfl, p _ G H (Step.refl e) (.int _)⟩
def min2D : D → D → R D
  | .int i, .int j => .ok (.int (if j < i then j else i))
  | _, _ => .fail
theorem c_min2 (hc : X.calm = true) : ClR X k (.builtin "min") .st (f2 min2D) := cl2 (call_min2 hc) fun G H x v y u d e n m hg Q p => by
  unfold min2D at hg
  split at hg
  · cases hg; obtain rfl := n.int; obtain rfl := m.int
    exact ⟨_, _, rfl, p _ G H (Step.refl e) (.int _)⟩
  · cases hg
def asI : List D → Option (List Int)
  | [] => some []
  | .int i :: r => (asI r).map (i :: ·)
  | _ => none
def asB : List D → Option (List Bool)
  | [] => some []
  | .bl i :: r => (asB r).map (i :: ·)
  | _ => none
def asS : List D → Option (List Str)
  | [] => some []
  | .str i :: r => (asS r).map (i :: ·)
  | _ => none
theorem asI_of {G : Hp} : ∀ {ds : List D} {vs : List V} {ns : List Int}, RDs k G ds vs → asI ds = some ns → vs = ns.map V.int
  | _, _, ns, .nil, h => by cases h; rfl
  | _, _, ns, .cons a b, h => by
    cases a with
    | int i =>
      simp only [asI, Option.map_eq_some_iff] at h
      obtain ⟨r, h1, rfl⟩ := h
      rw [asI_of b h1]; rfl
    | _ => simp [asI] at h
theorem asB_of {G : Hp} : ∀ {ds : List D} {vs : List V} {ns : List Bool}, RDs k G ds vs → asB ds = some ns → vs = ns.map V.bl
  | _, _, ns, .nil, h => by cases h; rfl
  | _, _, ns, .cons a b, h => by
    cases a with
    | bl i =>
      simp only [asB, Option.map_eq_some_iff] at h
      obtain ⟨r, h1, rfl⟩ := h
      rw [asB_of b h1]; rfl
    | _ => simp [asB] at h
theorem asS_of {G : Hp} : ∀ {ds : List D} {vs : List V} {ns : List Str}, RDs k G ds vs → asS ds = some ns → vs = ns.map V.str
  | _, _, ns, .nil, h => by cases h; rfl
  | _, _, ns, .cons a b, h => by
    cases a with
    | str i =>
      simp only [asS, Option.map_eq_some_iff] at h
      obtain ⟨r, h1, rfl⟩ := h
      rw [asS_of b h1]; rfl
    | _ => simp [asS] at h
@[simp] theorem asI_map (ns : List Int) : asI (ns.map D.int) = some ns := by
  induction ns with
  | nil => rfl
  | cons n ns ih => simp [asI, ih]
@[simp] theorem asB_map (ns : List Bool) : asB (ns.map D.bl) = some ns := by
  induction ns with
  | nil => rfl
  | cons n ns ih => simp [asB, ih]
@[simp] theorem asS_map (ns : List Str) : asS (ns.map D.str) = some ns := by
  induction ns with
  | nil => rfl
  | cons n ns ih => simp [asS, ih]
def sumD : D → R D
  | .lst ds => match asI ds with | some ns => .ok (.int ns.sum) | none => .fail
  | _ => .fail
theorem c_sum (hc : X.calm = true) : ClR X k (.builtin "sum") .st (f1 sumD) := cl1 (cr_sum hc) fun G H x v d e n hg Q p => by
  cases x <;> simp only [sumD] at hg <;> first | (cases hg; done) | skip
  split at hg
  · rename_i ns hn
    cases hg; obtain ⟨a, vs, rfl, ha, r⟩ := n.lst e
    have := asI_of r hn; subst this
    exact ⟨a, ns, rfl, SqL.of ha, p _ G H (Step.refl e) (.int _)⟩
  · cases hg
def anyD : D → R D
  | .lst ds => match asB ds with | some ns => .ok (.bl (ns.any id)) | none => .fail
  | _ => .fail
theorem c_any (hc : X.calm = true) : ClR X k (.builtin "any") .st (f1 anyD) := cl1 (cr_any hc) fun G H x v d e n hg Q p => by
  cases x <;> simp only [anyD] at hg <;> first | (cases hg; done) | skip
  split at hg
  · rename_i ns hn
    cases hg; obtain ⟨a, vs, rfl, ha, r⟩ := n.lst e
    have := asB_of r hn; subst this
    exact ⟨a, ns, rfl, SqL.of ha, p _ G H (Step.refl e) (.bl _)⟩
  · cases hg
def maxL : List Int → Int
  | [] => 0
  | x :: r => r.foldl (fun a b => if b > a then b else a) x
def minL : List Int → Int
  | [] => 0
  | x :: r => r.foldl (fun a b => if b < a then b else a) x
theorem maxL_fold : ∀ (r : List Int) (x : Int), (∀ y, y ∈ x :: r → y ≤ r.foldl (fun a b => if b > a then b else a) x) ∧ r.foldl (fun a b => if b > a then b else a) x ∈ x :: r
  | [], x => by simp
  | y :: r, x => by
    simp only [List.foldl_cons]
    by_cases h : y > x
    · rw [if_pos h]
      obtain ⟨h1, h2⟩ := maxL_fold r y
      refine ⟨fun z hz => ?_, List.mem_cons_of_mem _ h2⟩
      rcases List.mem_cons.mp hz with rfl | hz
      · have := h1 y (by simp); omega
      · exact h1 z hz
    · rw [if_neg h]
      obtain ⟨h1, h2⟩ := maxL_fold r x
      refine ⟨fun z hz => ?_, ?_⟩
      · rcases List.mem_cons.mp hz with rfl | hz
        · exact h1 z (by simp)
        · rcases List.mem_cons.mp hz with rfl | hz
          · have := h1 x (by simp); omega
          · exact h1 z (by simp [hz])
      · rcases List.mem_cons.mp h2 with z | z
        · rw [z]; simp
        · exact List.mem_cons_of_mem _ (List.mem_cons_of_mem _ z)
theorem minL_fold : ∀ (r : List Int) (x : Int), (∀ y, y ∈ x :: r → r.foldl (fun a b => if b < a then b else a) x ≤ y) ∧ r.foldl (fun a b => if b < a then b else a) x ∈ x :: r
  | [], x => by simp
  | y :: r, x => by
    simp only [List.foldl_cons]
    by_cases h : y < x
    · rw [if_pos h]
      obtain ⟨h1, h2⟩ := minL_fold r y
      refine ⟨fun z hz => ?_, List.mem_cons_of_mem _ h2⟩
      rcases List.mem_cons.mp hz with rfl | hz
      · have := h1 y (by simp); omega
      · exact h1 z hz
    · rw [if_neg h]
      obtain ⟨h1, h2⟩ := minL_fold r x
      refine ⟨fun z hz => ?_, ?_⟩
      · rcases List.mem_cons.mp hz with rfl | hz
        · exact h1 z (by simp)
        · rcases List.mem_cons.mp hz with rfl | hz
          · have := h1 x (by simp); omega
          · exact h1 z (by simp [hz])
      · rcases List.mem_cons.mp h2 with z | z
        · rw [z]; simp
        · exact List.mem_cons_of_mem _ (List.mem_cons_of_mem _ z)
def maxD : D → R D
  | .lst ds => match asI ds with | some (n :: ns) => .ok (.int (maxL (n :: ns))) | _ => .fail
  | _ => .fail
theorem c_max (hc : X.calm = true) : ClR X k (.builtin "max") .st (f1 maxD) := cl1 (cr_max hc) fun G H x v d e n hg Q p => by
  cases x <;> simp only [maxD] at hg <;> first | (cases hg; done) | skip
  split at hg
  · rename_i n0 ns hn
    cases hg; obtain ⟨a, vs, rfl, ha, r⟩ := n.lst e
    have := asI_of r hn; subst this
    refine ⟨a, n0 :: ns, rfl, SqL.of ha, by simp, fun m hm hle => ?_⟩
    have q := maxL_fold ns n0
    have : m = maxL (n0 :: ns) := Int.le_antisymm (q.1 m hm) (hle _ q.2)
    rw [this]; exact p _ G H (Step.refl e) (.int _)
  · cases hg
def minD : D → R D
  | .lst ds => match asI ds with | some (n :: ns) => .ok (.int (minL (n :: ns))) | _ => .fail
  | _ => .fail
theorem c_min (hc : X.calm = true) : ClR X k (.builtin "min") .st (f1 minD) := cl1 (cr_min hc) fun G H x v d e n hg Q p => by
  cases x <;> simp only [minD] at hg <;> first | (cases hg; done) | skip
  split at hg
  · rename_i n0 ns hn
    cases hg; obtain ⟨a, vs, rfl, ha, r⟩ := n.lst e
    have := asI_of r hn; subst this
    refine ⟨a, n0 :: ns, rfl, SqL.of ha, by simp, fun m hm hle => ?_⟩
    have q := minL_fold ns n0
    have : m = minL (n0 :: ns) := Int.le_antisymm (hle _ q.2) (q.1 m hm)
    rw [this]; exact p _ G H (Step.refl e) (.int _)
  · cases hg
def tupD : D → R D
  | .lst ds => .ok (.tup ds)
  | .tup ds => .ok (.tup ds)
  | _ => .fail
theorem c_tup (hk : k.K = X.K) : ClR X k (.type "tuple") .st (f1 tupD) := cl1 call_tuple_of fun G H x v d e n hg Q p => by
  cases x <;> simp only [tupD] at hg <;> first | (cases hg; done) | skip
  · cases hg; obtain ⟨a, vs, rfl, ha, r⟩ := n.tup
    exact ⟨a, vs, rfl, .inr ⟨hk ▸ e.sqT ha.t, p _ G H (Step.refl e) (.tup ha r)⟩⟩
  · cases hg; obtain ⟨a, vs, rfl, ha, r⟩ := n.lst e
    exact ⟨a, vs, rfl, .inl ⟨SqL.of ha, fun l hl => p _ _ _ (Step.new e hl) (.tup (SqU.of upd_same) (r.mono (Ex.new (e.free hl))))⟩⟩
def lstD : D → R D
  | .lst ds => .ok (.lst ds)
  | .tup ds => .ok (.lst ds)
  | _ => .fail
theorem c_lst (hk : k.K = X.K) : ClR X k (.type "list") .fr (f1 lstD) := cl1 call_list_of fun G H x v d e n hg Q p => by
  cases x <;> simp only [lstD] at hg <;> first | (cases hg; done) | skip
  · cases hg; obtain ⟨a, vs, rfl, ha, r⟩ := n.tup
    exact ⟨a, vs, rfl, .inr (hk ▸ e.sqT ha.t), fun l hl => p _ _ _ (Step.new' e hl) ⟨l, _, rfl, e.free hl, hl, upd_same, .lst r⟩⟩
  · cases hg; obtain ⟨a, vs, rfl, ha, r⟩ := n.lst e
    exact ⟨a, vs, rfl, .inl (SqL.of ha), fun l hl => p _ _ _ (Step.new' e hl) ⟨l, _, rfl, e.free hl, hl, upd_same, .lst r⟩⟩
def flatD : D → Bool
  | .non => true
  | .bl _ => true
  | .int _ => true
  | .str _ => true
  | _ => false
theorem RD.flat {G : Hp} {d : D} {v : V} (r : RD k G d v) (h : flatD d = true) : flatV v = true := by
  cases r <;> first | rfl | (simp [flatD] at h; done)
theorem RDs.flat {G : Hp} : ∀ {ds : List D} {vs : List V}, RDs k G ds vs → ds.all flatD = true → vs.all flatV = true
  | _, _, .nil, _ => rfl
  | _, _, .cons a b, h => by
    simp only [List.all_cons, Bool.and_eq_true] at h ⊢
    exact ⟨a.flat h.1, RDs.flat b h.2⟩
theorem RD.eqV {G : Hp} {d d' : D} {v v' : V} (r : RD k G d v) (r' : RD k G d' v') (h : flatD d = true) (h' : flatD d' = true) : L2.eqV v v' = deq d d' := by
  cases r <;> first | (simp [flatD] at h; done) | skip
  all_goals (cases r' <;> first | (simp [flatD] at h'; done) | (simp [L2.eqV, deq]; done))
theorem RDs.inV {G : Hp} {x : D} {u : V} (r : RD k G x u) (hx : flatD x = true) : ∀ {ds : List D} {vs : List V}, RDs k G ds vs → ds.all flatD = true → L2.inV u vs = ds.any fun z => deq z x
  | _, _, .nil, _ => rfl
  | _, _, .cons a b, h => by
    simp only [List.all_cons, Bool.and_eq_true] at h
    have ih := RDs.inV r hx b h.2
    simp only [L2.inV, List.any_cons] at ih ⊢
    rw [ih, a.eqV r h.1 hx]
theorem toPs_any (n : Nat) (x : D) (hx : dok n x = true) : ∀ {ds : List D} {m : Nat}, doks m ds = true → ((D.toPs ds).any fun z => PyData.eqv z x.toP) = ds.any fun z => deq z x
  | [], _, _ => by simp [D.toPs]
  | d :: ds, m, h => by
    simp only [doks, Bool.and_eq_true] at h
    simp only [D.toPs, List.any_cons]
    rw [toPs_any n x hx h.2, deq_eqv m n d x h.1 hx]
def signD : D → Str → Option Bool
  | .str a, z => match a.cps.toList with
    | [c] => some (decide (c ∈ z.cps.toList))
    | _ => none
  | _, _ => none
theorem signD_of {x : D} {z : Str} {b : Bool} (h : signD x z = some b) : ∃ c, x = .str ⟨#[c]⟩ ∧ b = decide (c ∈ z.cps.toList) := by
  cases x with
  | str a =>
    simp only [signD] at h
    split at h
    · rename_i c hc
      cases h
      obtain ⟨⟨l⟩⟩ := a
      cases hc
      exact ⟨c, rfl, rfl⟩
    · cases h
  | _ => simp [signD] at h
def inD' (x : D) : D → Option Bool
  | .lst ds => if flatD x && ds.all flatD then some (ds.any fun z => deq z x) else if dok 60 x && doks 59 ds then some (ds.any fun z => deq z x) else none
  | .tup ds => if flatD x && ds.all flatD then some (ds.any fun z => deq z x) else none
  | .str z => signD x z
  | _ => none
def inD (x y : D) : R D := match inD' x y with | some b => .ok (.bl b) | none => .fail
def notInD (x y : D) : R D := match inD' x y with | some b => .ok (.bl (!b)) | none => .fail
def rSign (neg : Bool) : R2 := fun x y H Q => ∃ (c : Nat) (z : Str), x = .str ⟨#[c]⟩ ∧ y = .str z ∧ Q (.bl (if neg = true then !decide (c ∈ z.cps.toList) else decide (c ∈ z.cps.toList))) H
theorem in_go {neg : Bool} (hk : k.K = X.K) {G H : Hp} {x y : D} {u v : V} {b : Bool} {Q : VK} (e : Ex G H) (nx : Now k G H x u) (ny : Now k G H y v) (hg : inD' x y = some b) (q : Q (.bl (if neg = true then !b else b)) H) :
    (rIn X.K neg u v H Q ∨ ∃ d ds, Dp X.K H u d ∧ Dp X.K H v (.list ds) ∧ SeqAt.shaped d = true ∧ SeqAt.shaped (.list ds) = true ∧ Q (.bl (if neg = true then !(ds.any fun z => PyData.eqv z d) else ds.any fun z => PyData.eqv z d)) H) ∨ rSign neg u v H Q := by
  cases y with
  | str z =>
    simp only [inD'] at hg
    obtain ⟨c, rfl, rfl⟩ := signD_of hg
    obtain rfl := nx.str
    obtain rfl := ny.str
    exact .inr ⟨c, z, rfl, rfl, q⟩
  | lst ds =>
    simp only [inD'] at hg
    obtain ⟨a, vs, rfl, ha, r⟩ := ny.lst e
    split at hg
    · rename_i hf
      simp only [Bool.and_eq_true] at hf
      cases hg
      have rx := nx.rd e
      have r' := r.mono e
      exact .inl <| .inl ⟨a, vs, rfl, .inl (SqL.of ha), rx.flat hf.1, r'.flat hf.2, by rw [RDs.inV rx hf.1 r' hf.2]; exact q⟩
    · split at hg
      · rename_i hf
        simp only [Bool.and_eq_true] at hf
        cases hg
        have hl : dok 60 (.lst ds) = true := by simp only [dok]; exact hf.2
        have ds' : SeqAt.shaped (.list (D.toPs ds)) = true := by
          have := dok_shaped hl
          simpa only [D.toP] using this
        exact .inl <| .inr ⟨x.toP, D.toPs ds, hk ▸ (nx.rd e).dp 60 hf.1, hk ▸ .lst (SqL.of ha) ((r.mono e).dp 59 hf.2), dok_shaped hf.1, ds', by rw [toPs_any 60 x hf.1 hf.2]; exact q⟩
      · cases hg
  | tup ds =>
    simp only [inD'] at hg
    obtain ⟨a, vs, rfl, ha, r⟩ := ny.tup
    split at hg
    · rename_i hf
      simp only [Bool.and_eq_true] at hf
      cases hg
      have rx := nx.rd e
      have r' := r.mono e
      exact .inl <| .inl ⟨a, vs, rfl, .inr (hk ▸ e.sqT ha.t), rx.flat hf.1, r'.flat hf.2, by rw [RDs.inV rx hf.1 r' hf.2]; exact q⟩
    · cases hg
  | _ => simp [inD'] at hg
theorem o_in (hk : k.K = X.K) (hu : X.A.units + 65 < cLine) : Op2 X k (compareOp .In) .st inD := by
  refine ⟨_, (op_in_seq.or (op_inD hu)).or op_in_sign, ?_⟩
  intro G H x y u v d e nx ny hg Q q
  unfold inD at hg
  split at hg
  · rename_i b hb
    cases hg
    exact in_go (neg := false) hk e nx ny hb (q _ G H (Step.refl e) (.bl _))
  · cases hg
theorem o_notin (hk : k.K = X.K) (hu : X.A.units + 65 < cLine) : Op2 X k (compareOp .NotIn) .st notInD := by
  refine ⟨_, (op_notIn_seq.or (op_notInD hu)).or op_notIn_sign, ?_⟩
  intro G H x y u v d e nx ny hg Q q
  unfold notInD at hg
  split at hg
  · rename_i b hb
    cases hg
    exact in_go (neg := true) hk e nx ny hb (q _ G H (Step.refl e) (.bl _))
  · cases hg
end
end M
set_option Elab.async false
set_option linter.all false
set_option maxRecDepth 100000
set_option maxHeartbeats 4000000
namespace M
open PySem L2
section
variable {X : Cx} {c : Cf} {kd k1 k2 k3 : Kd} {a b e : Expr} {f g h : FE} {pos apos cpos p' : Pos} {fr : Bool} {x : Str}
def ownL (i : Nat) (S : Env) : R (List D) := match S[i]? with
  | some (some ⟨true, .lst ds⟩) => .ok ds
  | _ => .fail
theorem ownL_of {i : Nat} {S : Env} {ds : List D} (h : ownL i S = .ok ds) : S[i]? = some (some ⟨true, .lst ds⟩) := by
  unfold ownL at h
  split at h
  · cases h; assumption
  · cases h
theorem ownL_exc {i : Nat} {S : Env} {x : Exc} : ownL i S ≠ .exc x := by unfold ownL; split <;> intro h <;> cases h
def sApp (i : Nat) (f : FE) : FS := fun S => ownL i S >>= fun ds => f S >>= fun d => if ds.length < sizeLine then .ok (.nx, S.set i (some ⟨true, .lst (ds ++ [d])⟩)) else .fail
theorem s_app (i : Nat) (he : PE' X c .st e f) (hN : X.N[i]? = some x := by rfl) (hv : Vis X.env.scope x := by first | exact Or.inl rfl | exact Or.inr (Or.inl rfl) | exact Or.inr (Or.inr rfl)) (hd : (x == ("__debug__" : Str)) = false := by decide)
    (hcd : (x == ("__classdict__" : Str)) = false := by decide) (h2 : (apos.endLine == cpos.line) = true := by rfl) (h3 : starEach [e] X.env = [(false, eval e X.env)] := by rfl) (hs : swapsWith (.Call (.Attribute (.Name x p') "append" apos) [e] [] cpos) none pos.line X.env = pure false := by rfl) :
    PS' X c fr [i + 1000] (.Expr (.Call (.Attribute (.Name x p') "append" apos) [e] [] cpos) pos) (sApp i f) :=
  psI (ps_expr (pe_bm PySem.F.plainAttrs_list PySem.F.slot_list_append PySem.F.type_list_append mt_append (pe_var hN hv hd hcd) (pa_cons he pa_nil h3) rfl (by rw [h3]; rfl) h2 h3 rfl) hs) fun Dn σ H ⟨G, S, rel, p⟩ => by
    have p : PostS c fr [i + 1000] G S σ H Dn (ownL i S >>= fun ds => f S >>= fun d => if ds.length < sizeLine then .ok (.nx, S.set i (some ⟨true, .lst (ds ++ [d])⟩)) else .fail) := p
    cases e0 : ownL i S with
    | exc x => exact absurd e0 ownL_exc
    | fail => rw [e0] at p; exact p.elim
    | ok ds =>
      rw [e0, R.ok_bind] at p
      have hS := ownL_of e0
      obtain ⟨l, o, es, hg, h0, ho, ct⟩ := rel.ow i _ hS
      cases ct with
      | @lst ds' vs r =>
        refine ⟨_, es, .inl ⟨rfl, vs, SqL.of ho⟩, ?_⟩
        refine rdE_go (g := fun d => if ds.length < sizeLine then .ok (Fl.nx, S.set i (some ⟨true, .lst (ds ++ [d])⟩)) else .fail) (Post := PostS c fr [i + 1000] G S σ H Dn) rel p (fun _ z => z _) (fun z => z) fun d v G' H' sp q p1 => ?_
        by_cases hl : ds.length < sizeLine
        · rw [if_pos hl] at p1
          have rel' := rel.grow sp
          have ow : OwnAt S σ i l := ⟨⟨_, hS⟩, es⟩
          refine ⟨l, vs, v, rfl, rfl, sp.h _ _ ho, by rw [← r.length]; exact hl, p1 G' σ _ sp.g (rel'.mut ow (.lst ((r.mono sp.g).append (.cons q .nil)))) ((Frm.step (as := []) rel sp).trans (Frm.mut rel' ow))⟩
        · rw [if_neg hl] at p1; exact p1.elim
def sExt (i : Nat) (f : FE) : FS := fun S => ownL i S >>= fun ds => f S >>= fun d => match d with
  | .lst es => if ds.length + es.length ≤ sizeLine then .ok (.nx, S.set i (some ⟨true, .lst (ds ++ es)⟩)) else .fail
  | _ => .fail
theorem s_ext (i : Nat) (he : PE' X c k1 e f) (hN : X.N[i]? = some x := by rfl) (hv : Vis X.env.scope x := by first | exact Or.inl rfl | exact Or.inr (Or.inl rfl) | exact Or.inr (Or.inr rfl)) (hd : (x == ("__debug__" : Str)) = false := by decide)
    (hcd : (x == ("__classdict__" : Str)) = false := by decide) (h2 : (apos.endLine == cpos.line) = true := by rfl) (h3 : starEach [e] X.env = [(false, eval e X.env)] := by rfl) (hs : swapsWith (.Call (.Attribute (.Name x p') "extend" apos) [e] [] cpos) none pos.line X.env = pure false := by rfl) :
    PS' X c fr [i + 1000] (.Expr (.Call (.Attribute (.Name x p') "extend" apos) [e] [] cpos) pos) (sExt i f) :=
  psI (ps_expr (pe_bm PySem.F.plainAttrs_list PySem.F.slot_list_extend PySem.F.type_list_extend mt_extend (pe_var hN hv hd hcd) (pa_cons he pa_nil h3) rfl (by rw [h3]; rfl) h2 h3 rfl) hs) fun Dn σ H ⟨G, S, rel, p⟩ => by
    have p : PostS c fr [i + 1000] G S σ H Dn (ownL i S >>= fun ds => f S >>= fun d => match d with
      | .lst es => if ds.length + es.length ≤ sizeLine then .ok (.nx, S.set i (some ⟨true, .lst (ds ++ es)⟩)) else .fail
      | _ => .fail) := p
    cases e0 : ownL i S with
    | exc x => exact absurd e0 ownL_exc
    | fail => rw [e0] at p; exact p.elim
    | ok ds =>
      rw [e0, R.ok_bind] at p
      have hS := ownL_of e0
      obtain ⟨l, o, es, hg, h0, ho, ct⟩ := rel.ow i _ hS
      cases ct with
      | @lst ds' vs r =>
        refine ⟨_, es, .inl ⟨rfl, vs, SqL.of ho⟩, ?_⟩
        refine rdE_go (Post := PostS c fr [i + 1000] G S σ H Dn) rel p (fun _ z => z _) (fun z => z) fun d v G' H' sp q p1 => ?_
        cases d with
        | lst es' =>
          have p1 : PostS c fr [i + 1000] G S σ H Dn (if ds.length + es'.length ≤ sizeLine then .ok (.nx, S.set i (some ⟨true, .lst (ds ++ es')⟩)) else .fail) := p1
          by_cases hl : ds.length + es'.length ≤ sizeLine
          · rw [if_pos hl] at p1
            have rel' := rel.grow sp
            have ow : OwnAt S σ i l := ⟨⟨_, hS⟩, es⟩
            obtain ⟨m, ws, rfl, hm, rm⟩ := q.now.lst sp.gh
            refine ⟨l, m, vs, ws, rfl, rfl, sp.h _ _ ho, hm, by rw [← r.length, ← rm.length]; exact hl, p1 G' σ _ sp.g (rel'.mut ow (.lst ((r.mono sp.g).append rm))) ((Frm.step (as := []) rel sp).trans (Frm.mut rel' ow))⟩
          · rw [if_neg hl] at p1; exact p1.elim
        | _ => exact p1.elim
def sSub (i : Nat) (fj f : FE) : FS := fun S => ownL i S >>= fun ds => f S >>= fun d => fj S >>= fun j => match j with
  | .int n => match ixN ds.length n with
    | some m => .ok (.nx, S.set i (some ⟨true, .lst (ds.set m d)⟩))
    | none => .fail
  | _ => .fail
theorem s_sub (i : Nat) {ix : Expr} {fj : FE} {px ps : Pos} (he : PE' X c .st e f) (hj : PE' X c k1 ix fj) (hN : X.N[i]? = some x := by rfl) (hv : Vis X.env.scope x := by first | exact Or.inl rfl | exact Or.inr (Or.inl rfl) | exact Or.inr (Or.inr rfl)) (hd : (x == ("__debug__" : Str)) = false := by decide)
    (hcd : (x == ("__classdict__" : Str)) = false := by decide) (hsub : ∀ (v : Value), assign (.Subscript (.Name x px) ix ps) X.env v = (do let ov ← holding [v] (eval (.Name x px) X.env); let iv ← holding [v, ov] (eval ix X.env); standAt ps; holding [v, ov, iv] (setItem ov iv v); release [v, ov, iv] []) := by intro _; rfl)
    (hs : swapsWithSole [.Subscript (.Name x px) ix ps] e pos.line X.env = pure false := by rfl) (hw : swappedStores [.Subscript (.Name x px) ix ps] e X.env = pure none := by rfl) (h1 : (assignEach [.Subscript (.Name x px) ix ps] X.env).map (·.2) = [assign (.Subscript (.Name x px) ix ps) X.env] := by rfl) :
    PS' X c fr [i + 1000] (.Assign [.Subscript (.Name x px) ix ps] e pos) (sSub i fj f) :=
  psI (ps_asg he (pg_sub (pe_var hN hv hd hcd) hj set_list hsub) hs hw h1) fun Dn σ H ⟨G, S, rel, p⟩ => by
    have p : PostS c fr [i + 1000] G S σ H Dn (ownL i S >>= fun ds => f S >>= fun d => fj S >>= fun j => match j with
      | .int n => match ixN ds.length n with
        | some m => .ok (.nx, S.set i (some ⟨true, .lst (ds.set m d)⟩))
        | none => .fail
      | _ => .fail) := p
    cases e0 : ownL i S with
    | exc x => exact absurd e0 ownL_exc
    | fail => rw [e0] at p; exact p.elim
    | ok ds =>
      rw [e0, R.ok_bind] at p
      have hS := ownL_of e0
      obtain ⟨l, o, es, hg, h0, ho, ct⟩ := rel.ow i _ hS
      have ow : OwnAt S σ i l := ⟨⟨_, hS⟩, es⟩
      cases ct with
      | @lst ds' vs r =>
        refine rdE_go (Post := PostS c fr [i + 1000] G S σ H Dn) rel p (fun _ z => z _) (fun z => z) fun d v G1 H1 s1 q1 p1 => ?_
        refine ⟨_, es, ?_⟩
        refine rdE_go (Post := PostS c fr [i + 1000] G S σ H Dn) (rel.grow s1) p1 (fun _ z => z _) (fun z => z) fun j u G2 H2 s2 q2 p2 => ?_
        cases j with
        | int n =>
          obtain rfl := q2.now.int
          have p2 : PostS c fr [i + 1000] G S σ H Dn (match ixN ds.length n with
            | some m => .ok (.nx, S.set i (some ⟨true, .lst (ds.set m d)⟩))
            | none => .fail) := p2
          cases em : ixN ds.length n with
          | none => rw [em] at p2; exact p2.elim
          | some m =>
            rw [em] at p2
            have sp := s1.trans s2
            have rel' := rel.grow sp
            refine ⟨l, vs, n, m, rfl, rfl, sp.h _ _ ho, by rw [← r.length]; exact em, p2 G2 σ _ sp.g (rel'.mut ow (.lst ((r.mono sp.g).set m (RD.mono s2.g q1)))) ((Frm.step (as := []) rel sp).trans (Frm.mut rel' ow))⟩
        | _ => exact p2.elim
end
end M
set_option Elab.async false
set_option linter.all false
set_option maxRecDepth 100000
set_option maxHeartbeats 4000000
namespace M
open PySem L2
theorem zip_lookup : ∀ {nm : List Str} {vs : List V} {j : Nat} {f : Str} {v : V}, nm.Nodup → nm[j]? = some f → vs[j]? = some v → (nm.zip vs).lookup f = some v
  | [], _, j, _, _, _, h, _ => by simp at h
  | _ :: _, [], j, _, _, _, _, h => by simp at h
  | n :: nm, u :: vs, 0, f, v, _, h1, h2 => by
    simp at h1 h2; subst h1; subst h2; simp [List.lookup]
  | n :: nm, u :: vs, j + 1, f, v, hn, h1, h2 => by
    simp only [List.getElem?_cons_succ] at h1 h2
    have hne : f ≠ n := fun z => (List.nodup_cons.mp hn).1 (by rw [← z]; exact List.mem_of_getElem? h1)
    rw [List.zip_cons_cons, List.lookup_cons, beq_eq_false_iff_ne.mpr hne]
    exact zip_lookup (List.nodup_cons.mp hn).2 h1 h2
theorem zip_put : ∀ {nm : List Str} {vs : List V} {f : Str} {v : V}, nm.Nodup → nm[vs.length]? = some f → putF f v (nm.zip vs) = nm.zip (vs ++ [v])
  | [], vs, _, _, _, h => by simp at h
  | n :: nm, [], f, v, _, h => by
    simp at h; subst h
    simp [putF]
  | n :: nm, u :: vs, f, v, hn, h => by
    simp only [List.length_cons, List.getElem?_cons_succ] at h
    have hne : ¬ n = f := fun z => (List.nodup_cons.mp hn).1 (by rw [z]; exact List.mem_of_getElem? h)
    rw [List.zip_cons_cons, List.cons_append, List.zip_cons_cons, ← zip_put (List.nodup_cons.mp hn).2 h]
    simp only [putF]
    rw [if_neg hne]
structure ClsI (K : PySem.W.Frag) (k : Kn) (c : Nat) (nm : List Str) : Prop where
  ex : ∃ C, k.cl c = some (C, nm) ∧ Cls K C ∧ ∀ f, f ∈ nm → NoAttr K C f
  nd : nm.Nodup
  few : nm.length < 1000
section
variable {X : Cx} {c : Cf} {kd k1 k2 k3 : Kd} {a b e o : Expr} {f g h : FE} {pos apos cpos p' : Pos} {fr : Bool} {x : Str} {nm : List Str} {ci : Nat}
def fldD (ci j : Nat) : D → R D
  | .obj c ds => if c = ci then match ds[j]? with | some d => .ok d | none => .fail else .fail
  | _ => .fail
theorem d_fld (ci j : Nat) {fn : Str} (C : ClsI X.K c.k ci nm) (hj : nm[j]? = some fn) (he : PE' X c k1 o f) (hb : attributeBase o fn X.env (eval o X.env) = eval o X.env := by rfl) : PE' X c .st (.Attribute o fn pos) (e1 (fldD ci j) f) :=
  peI (pe_fld he hb) fun σ H Q q => e1_go (r := fun x H1 Q => ∃ a C dx fs v, x = .ref a ∧ H1 a = some (.ins C dx fs) ∧ Cls X.K C ∧ NoAttr X.K C fn ∧ fs.lookup fn = some v ∧ Q v H1) (fun G H d u r ex n hg Q p => by
    cases d with
    | obj c' ds =>
      simp only [fldD] at hg
      split at hg
      · rename_i hc
        subst hc
        split at hg
        · rename_i d' hd
          cases hg
          obtain ⟨ad, CA, dx, nm', vs, rfl, hcl, ha, hr⟩ := n.obj ex
          obtain ⟨CA', hcl', cl, na⟩ := C.ex
          rw [hcl] at hcl'; cases hcl'
          obtain ⟨v, hv, rv⟩ := hr.get hd
          exact ⟨ad, CA, dx, _, v, rfl, ha, cl, na _ (List.mem_of_getElem? hj), zip_lookup C.nd hj hv, p v G H (Step.refl ex) rv⟩
        · cases hg
      · cases hg
    | _ => simp [fldD] at hg) q
def ownO (ci i : Nat) (S : Env) : R (List D) := match S[i]? with
  | some (some ⟨true, .obj c ds⟩) => if c = ci then .ok ds else .fail
  | _ => .fail
theorem ownO_of {ci i : Nat} {S : Env} {ds : List D} (h : ownO ci i S = .ok ds) : S[i]? = some (some ⟨true, .obj ci ds⟩) := by
  unfold ownO at h
  split at h
  · split at h
    · rename_i hc; subst hc; cases h; assumption
    · cases h
  · cases h
theorem ownO_exc {ci i : Nat} {S : Env} {x : Exc} : ownO ci i S ≠ .exc x := by unfold ownO; split; split <;> intro h <;> cases h; intro h; cases h
def sFldN (ci i j : Nat) (f : FE) : FS := fun S => ownO ci i S >>= fun ds => f S >>= fun d => if ds.length = j then .ok (.nx, S.set i (some ⟨true, .obj ci (ds ++ [d])⟩)) else .fail
theorem s_fld (ci i j : Nat) {fn : Str} {px : Pos} (C : ClsI X.K c.k ci nm) (hj : nm[j]? = some fn) (he : PE' X c .st e f) (hN : X.N[i]? = some x := by rfl) (hv : Vis X.env.scope x := by first | exact Or.inl rfl | exact Or.inr (Or.inl rfl) | exact Or.inr (Or.inr rfl)) (hd : (x == ("__debug__" : Str)) = false := by decide)
    (hcd : (x == ("__classdict__" : Str)) = false := by decide) (hs : swapsWith e (some (.Attribute (.Name x px) fn p')) pos.line X.env = pure false := by rfl) : PS' X c fr [i + 1000] (.Assign [.Attribute (.Name x px) fn p'] e pos) (sFldN ci i j f) :=
  psI (ps_fld (pe_var hN hv hd hcd) he hs) fun Dn σ H ⟨G, S, rel, p⟩ => by
    have p : PostS c fr [i + 1000] G S σ H Dn (ownO ci i S >>= fun ds => f S >>= fun d => if ds.length = j then .ok (.nx, S.set i (some ⟨true, .obj ci (ds ++ [d])⟩)) else .fail) := p
    cases e0 : ownO ci i S with
    | exc x => exact absurd e0 ownO_exc
    | fail => rw [e0] at p; exact p.elim
    | ok ds =>
      rw [e0, R.ok_bind] at p
      have hS := ownO_of e0
      obtain ⟨l, ob, es, hg, h0, ho, ct⟩ := rel.ow i _ hS
      have ow : OwnAt S σ i l := ⟨⟨_, hS⟩, es⟩
      cases ct with
      | @obj _ _ CA dx nm' vs hcl hr =>
        obtain ⟨CA', hcl', cl, na⟩ := C.ex
        rw [hcl] at hcl'; cases hcl'
        refine rdE_go (g := fun d => if ds.length = j then .ok (Fl.nx, S.set i (some ⟨true, .obj ci (ds ++ [d])⟩)) else .fail) (Post := PostS c fr [i + 1000] G S σ H Dn) rel p (fun _ z => z _) (fun z => z) fun d v G1 H1 s1 q1 p1 => ?_
        by_cases hl : ds.length = j
        · rw [if_pos hl] at p1
          have rel' := rel.grow s1
          have hl2 : vs.length = j := by rw [← hr.length]; exact hl
          refine ⟨_, es, l, CA, dx, _, rfl, s1.h _ _ ho, cl, na _ (List.mem_of_getElem? hj), ?_, ?_⟩
          · rw [List.length_zip]; exact Nat.lt_of_le_of_lt (Nat.min_le_left _ _) C.few
          · rw [zip_put C.nd (by rw [hl2]; exact hj)]
            exact p1 G1 σ _ s1.g (rel'.mut ow (.obj hcl ((hr.mono s1.g).append (.cons q1 .nil)))) ((Frm.step (as := []) rel s1).trans (Frm.mut rel' ow))
        · rw [if_neg hl] at p1; exact p1.elim
end
noncomputable def less (H : Hp) (x : Addr) : Hp := fun b => open Classical in if b = x then none else H b
def PostN (k : Kn) (x : Addr) (G0 H : Hp) (Q : VK) (E : XK) : R D → Prop
  | .ok d => ∀ G' H' o, Ex G0 G' → (∀ b u, b ≠ x → H b = some u → H' b = some u) → Ex G' H' → G' x = none → (∀ b u, G' b = some u → G0 b = some u ∨ H b = none) → H' x = some o → Cont k G' d o → Q .non H'
  | .exc e => PXs ⟨k, less H x, G0, liftX E⟩ e
  | .fail => False
def SpN (k : Kn) (ci n : Nat) (den : List D → R D) : Sp := fun vs H Q E => vs.length = n ∧ ∃ x rest G0 ds C dx nm, vs = .ref x :: rest ∧ k.cl ci = some (C, nm) ∧ H x = some (.ins C dx []) ∧ G0 x = none ∧ Ex G0 H ∧ RDs k G0 ds rest ∧ PostN k x G0 H Q E (den ds)
def startN (n ci : Nat) (ds : List D) : Env := some ⟨true, .obj ci []⟩ :: (ds.map (fun d => some ⟨false, d⟩) ++ List.replicate (n - (ds.length + 1)) none)
def endN : R (Fl × Env) → R D
  | .ok (.nx, S) => match (S[(0 : Nat)]? : Option (Option Sl)) with
    | some (some ⟨true, d⟩) => .ok d
    | _ => .fail
  | .ok _ => .fail
  | .exc x => .exc x
  | .fail => .fail
def runN (n ci : Nat) (s : FS) (ds : List D) : R D := endN (s (startN n ci ds))
theorem less_self {H : Hp} {x : Addr} : less H x x = none := by unfold less; rw [if_pos rfl]
theorem less_ne {H : Hp} {x b : Addr} (h : b ≠ x) : less H x b = H b := by unfold less; rw [if_neg h]
theorem less_ex {H : Hp} {x : Addr} : Ex (less H x) H := fun b o h => by
  by_cases hb : b = x
  · subst hb; rw [less_self] at h; cases h
  · rw [less_ne hb] at h; exact h
theorem rel_startN {k : Kn} {E : XK} {H G0 : Hp} {N : List Str} {x C dx : Addr} {nm : List Str} {ci : Nat} {ds : List D} {rest : List V} (hcl : k.cl ci = some (C, nm)) (hx : H x = some (.ins C dx [])) (hg : G0 x = none) (e : Ex G0 H) (r : RDs k G0 ds rest) :
    Rel ⟨k, less H x, G0, liftX E⟩ G0 (startN N.length ci ds) (L2.start N (.ref x :: rest)) H := by
  have own : ∀ (i : Nat) (d : D), (startN N.length ci ds)[i]? = some (some ⟨true, d⟩) → i = 0 ∧ d = .obj ci [] := fun i d q => by
    unfold startN at q
    cases i with
    | zero => simp at q; exact ⟨rfl, q.symm⟩
    | succ i =>
      rw [List.getElem?_cons_succ, List.getElem?_append] at q
      split at q
      · rw [List.getElem?_map] at q
        cases h : ds[i]? <;> rw [h] at q <;> cases q
      · rw [List.getElem?_replicate] at q
        split at q <;> cases q
  have e0 : Ex G0 (less H x) := fun b o h => by rw [less_ne (ne_of_none h hg)]; exact e b o h
  refine ⟨⟨Ex.refl _, less_ex, e, fun _ _ h => .inl h⟩, by simp [startN, L2.start, r.length], fun i d q => ?_, fun i d q => ?_, fun i j a o1 o2 => ?_⟩
  · unfold startN at q
    cases i with
    | zero => simp at q
    | succ i =>
      rw [List.getElem?_cons_succ, List.getElem?_append] at q
      split at q
      · rw [List.getElem?_map] at q
        cases h : ds[i]? with
        | none => rw [h] at q; cases q
        | some d' =>
          rw [h] at q; cases q
          obtain ⟨v, h1, h2⟩ := r.get h
          refine ⟨v, ?_, h2⟩
          unfold L2.start
          rw [List.map_cons, List.cons_append, List.getElem?_cons_succ, List.getElem?_append_left (by rw [List.length_map]; exact (List.getElem?_eq_some_iff.mp h1).1), List.getElem?_map, h1]; rfl
      · rw [List.getElem?_replicate] at q
        split at q <;> cases q
  · obtain ⟨rfl, rfl⟩ := own i d q
    refine ⟨x, _, by simp [L2.start], hg, less_self, hx, ?_⟩
    have z : Cont k G0 (.obj ci []) (.ins C dx (nm.zip [])) := .obj hcl .nil
    rw [List.zip_nil_right] at z; exact z
  · obtain ⟨⟨d1, q1⟩, _⟩ := o1
    obtain ⟨⟨d2, q2⟩, _⟩ := o2
    rw [(own i d1 q1).1, (own j d2 q2).1]
theorem body_init {k : Kn} {as : List Nat} {N : List Str} {X : Cx} {body : List Stmt} {s : FS} {H : Hp} {vs : List V} {Q : VK} {E : XK} {n ci : Nat} (h0 : 0 ∉ as) (hb : ∀ H0 G0, PB' X ⟨k, H0, G0, liftX E⟩ false as body s) (q : SpN k ci n (runN N.length ci s) vs H Q E) :
    ∃ t, PSs X body t ∧ t { nx := fun _ H' => Q .non H', rt := Q } (L2.start N vs) H := by
  obtain ⟨hl, x, rest, G0, ds, C, dx, nm, rfl, hcl, hx, hg, e, r, p⟩ := q
  refine ⟨_, hb (less H x) G0, G0, _, rel_startN hcl hx hg e r, ?_⟩
  unfold runN at p
  cases e1 : s (startN N.length ci ds) with
  | exc y =>
    rw [e1] at p
    exact p
  | fail => rw [e1] at p; exact p.elim
  | ok z =>
    rw [e1] at p
    obtain ⟨fl, S1⟩ := z
    cases fl with
    | nx =>
      intro G' σ' H' ex rel fm
      have p : PostN k x G0 H Q E (match (S1[(0 : Nat)]? : Option (Option Sl)) with
        | some (some ⟨true, d⟩) => .ok d
        | _ => .fail) := p
      split at p
      · rename_i d hd
        obtain ⟨a, o, es, hg', h0', ho, ct⟩ := rel.ow 0 d hd
        have : σ'[0]? = some (some (.ref x)) := by rw [fm.sg 0 h0]; simp [L2.start]
        rw [this] at es; cases es
        refine p G' H' o ex (fun b u hb q => rel.st.h b u (by show less H x b = some u; rw [less_ne hb]; exact q)) rel.st.gh hg' (fun b u q => ?_) ho ct
        rcases rel.st.gr b u q with z | z
        · exact .inl z
        · by_cases hb : b = x
          · subst hb; rw [hg'] at q; cases q
          · exact .inr (by rw [← less_ne (H := H) hb]; exact z)
      · exact p.elim
    | bk => exact p.elim
    | ct => exact p.elim
    | rt d => exact p.elim
section
variable {P : Program} {w : World} {K : PySem.W.Frag} {mg : Str → Option Value} {base : Heap}
theorem init_ok {k : Kn} {as : List Nat} {x qual : Str} {params : Arguments} {body : List Stmt} {scope : Scope} {dvs : List V} {kws : List (Str × V)} {f : Addr} {fd : FuncData} {N ps : List Str} {lv ci : Nat} {s : FS} (F : FunD K x qual params body scope dvs kws f fd) (S : FnScope N ps scope) (h0 : 0 ∉ as)
    (hb : ∀ (cdv : Value) (A : Around) (outer : List PySem.Env) (sh : Shared) (H H0 G0 : Hp), Room lv (A.deeper (PyProof.Rows.envOfC qual scope sh.heap.objs.size f cdv)) → PB' (cxOf CX0 P w K mg base N qual scope f cdv A outer sh H E0).nox ⟨k, H0, G0, liftX E0⟩ false as body s) :
    FnOk P w K mg base CX0 (lv + 1) f fd ps (SpN k ci ps.length (fun ds => (runN N.length ci s ds).nox)) := by
  refine F.ok S (fun vs H Q E q => q.1) fun cdv A outer sh H vs Q E hr q => ?_
  have q' : SpN k ci ps.length (runN N.length ci s) vs H Q E0 := by
    obtain ⟨hl, x, rest, G0, ds, C, dx, nm, e1, hcl, hx, hg, e, r, p⟩ := q
    refine ⟨hl, x, rest, G0, ds, C, dx, nm, e1, hcl, hx, hg, e, r, ?_⟩
    dsimp only at p
    cases e1 : runN N.length ci s ds with
    | ok d => rw [e1] at p; exact p
    | exc x => rw [e1] at p; exact p.elim
    | fail => rw [e1] at p; exact p.elim
  obtain ⟨t, h1, h2⟩ := body_init (X := (cxOf CX0 P w K mg base N qual scope f cdv A outer sh H E0).nox) h0 (fun H0 G0 => hb cdv A outer sh H H0 G0 hr) q'
  exact ⟨t, h1.nox, h2⟩
end
section
variable {X : Cx} {c : Cf} {kd k1 k2 k3 : Kd} {a b e : Expr} {pos : Pos} {den : List D → R D} {ci : Nat}
end
end M
set_option Elab.async false
set_option linter.all false
set_option maxRecDepth 100000
set_option maxHeartbeats 4000000
namespace M
open PySem L2
section
variable {X : Cx} {k : Kn} {c : Cf} {kd k1 k2 k3 : Kd} {a b e o : Expr} {f g h : FE} {pos apos cpos p' : Pos} {fr : Bool}
theorem DpAll.zip {K : PySem.W.Frag} {H : Hp} : ∀ {xs : List V} {ds : List PyData}, DpAll K H xs ds → ∀ {us : List Value}, Vals xs us → PySem.W.EachIs (fun (u : Value) (b : V × PyData) => RelV b.1 u ∧ Dp K H b.1 b.2) us (xs.zip ds)
  | _, _, .nil, _, .nil => .nil
  | _, _, .cons a b, _, .cons r t => .cons ⟨r, a⟩ (DpAll.zip b t)
theorem EachIs.imp {α β : Type} {R R' : α → β → Prop} (h : ∀ a b, R a b → R' a b) : ∀ {as : List α} {bs : List β}, PySem.W.EachIs R as bs → PySem.W.EachIs R' as bs
  | _, _, .nil => .nil
  | _, _, .cons a b => .cons (h _ _ a) (EachIs.imp h b)
theorem each_vals : ∀ {us : List Value} {bs : List (V × PyData)}, PySem.W.EachIs (fun u b => RelV b.1 u) us bs → Vals (bs.map (·.1)) us
  | _, _, .nil => .nil
  | _, _, .cons a b => .cons a (each_vals b)
theorem DpAll.length {K : PySem.W.Frag} {H : Hp} : ∀ {xs : List V} {ds : List PyData}, DpAll K H xs ds → xs.length = ds.length
  | _, _, .nil => rfl
  | _, _, .cons _ b => by simp [DpAll.length b]
def rSrt (X : Cx) : List V → Hp → VK → Prop := fun vs H Q => ∃ a xs ds, vs = [V.ref a] ∧ SqL X.K H a xs ∧ DpAll X.K H xs ds ∧ PySem.W.AllAlike ds ∧ PySem.W.Sortable ds ∧ (∀ d, d ∈ ds → d.depth ≤ 60) ∧
  ∀ p, H p = none → Q (.ref p) (upd H p (.lst (((xs.zip ds).mergeSort (PySem.W.dataLe false (·.2))).map (·.1))))
theorem cr_srt (hu : X.A.units + 64 < cLine) : CallR X (.builtin "sorted") (rSrt X) := by
  intro pins s σ H vs us Q I r h
  obtain ⟨a, xs, ds, rfl, hs, hd, hal, hso, hdp, q⟩ := h
  obtain ⟨u, rfl, ru⟩ := vals1 r
  cases ru
  obtain ⟨its, rv, pl, hz⟩ := I.list hs
  have hlen := DpAll.length hd
  have hm : (xs.zip ds).map (·.2) = ds := by rw [List.map_snd_zip]; omega
  have ea := DpAll.zip hd rv
  refine PySem.W.sorted_data (enc := fun (b : V × PyData) => b.2) (R := fun u (b : V × PyData) => RelV b.1 u) (bs := xs.zip ds) pl.isList (EachIs.imp (fun _ _ z => z.1) ea) (EachIs.imp (fun u b z => Dp.reads I b.2 b.1 u z.2 z.1) ea) (by rw [hm]; exact hal) (by rw [hm]; exact hso) (by rw [List.length_zip]; omega) ?_ ?_
  · intro b hb
    have : b.2 ∈ ds := by rw [← hm]; exact List.mem_map.mpr ⟨b, hb, rfl⟩
    have := hdp _ this
    omega
  · intro out ho eo
    obtain ⟨m, F⟩ := I.fr
    obtain ⟨cn, _, N, _, kp⟩ := PySem.W.sorted_news (news := []) F (fun p hp => nomatch hp) its out
    have hobj := (N _ List.mem_cons_self).1
    have hv := each_vals eo
    refine ⟨.ref (s.heap.objs.size + 1), _, I.laid (a := s.heap.objs.size + 1) (t' := s.toks) (o := .lst _) kp (Nat.le_succ _) ⟨?_, out, cn, hv, hobj⟩, rfl, q _ (I.hok.fresh (Nat.le_succ _))⟩
    rw [List.length_map, List.length_mergeSort, List.length_zip]; omega
end
def dlt (x y : D) : Bool := PySem.W.dataLt x.toP y.toP
def dle (x y : D) : Bool := !dlt y x
mutual
def alikeD : D → D → Bool
  | .non, .non => true
  | .bl _, .bl _ => true
  | .int _, .int _ => true
  | .str _, .str _ => true
  | .lst xs, .lst ys => alikeDs xs ys
  | .tup xs, .tup ys => alikeDs xs ys
  | _, _ => false
def alikeDs : List D → List D → Bool
  | x :: xs, y :: ys => alikeD x y && alikeDs xs ys
  | [], _ => true
  | _ :: _, [] => true
end
mutual
theorem alikeD_of : ∀ (x y : D), alikeD x y = true → PySem.W.alike x.toP y.toP = true
  | .non, y, h => by cases y <;> first | (simp [D.toP, PySem.W.alike]; done) | (simp [alikeD] at h; done)
  | .bl _, y, h => by cases y <;> first | (simp [D.toP, PySem.W.alike]; done) | (simp [alikeD] at h; done)
  | .int _, y, h => by cases y <;> first | (simp [D.toP, PySem.W.alike]; done) | (simp [alikeD] at h; done)
  | .str _, y, h => by cases y <;> first | (simp [D.toP, PySem.W.alike]; done) | (simp [alikeD] at h; done)
  | .lst xs, y, h => by
    cases y with
    | lst ys => simp only [alikeD] at h; simp only [D.toP, PySem.W.alike]; exact alikeDs_of xs ys h
    | _ => simp [alikeD] at h
  | .tup xs, y, h => by
    cases y with
    | tup ys => simp only [alikeD] at h; simp only [D.toP, PySem.W.alike]; exact alikeDs_of xs ys h
    | _ => simp [alikeD] at h
  | .ty _, _, h => by simp [alikeD] at h
  | .dic _ _, _, h => by simp [alikeD] at h
  | .dit _ _, _, h => by simp [alikeD] at h
  | .dkf _ _, _, h => by simp [alikeD] at h
  | .obj _ _, _, h => by simp [alikeD] at h
  | .scr _, _, h => by simp [alikeD] at h
  | .cls _, _, h => by simp [alikeD] at h
theorem alikeDs_of : ∀ (xs ys : List D), alikeDs xs ys = true → PySem.W.alikeAll (D.toPs xs) (D.toPs ys) = true
  | [], _, _ => by simp [D.toPs, PySem.W.alikeAll]
  | _ :: _, [], _ => by simp [D.toPs, PySem.W.alikeAll]
  | x :: xs, y :: ys, h => by
    simp only [alikeDs, Bool.and_eq_true] at h
    simp only [D.toPs, PySem.W.alikeAll, Bool.and_eq_true]
    exact ⟨alikeD_of x y h.1, alikeDs_of xs ys h.2⟩
end
def srtItem : D → Bool
  | .non => false
  | .tup [] => false
  | _ => true
def srtOk (ds : List D) : Bool := doks 59 ds && ds.all (fun x => ds.all fun y => alikeD x y) && ds.all srtItem
def srt (ds : List D) : List D := ds.mergeSort dle
theorem toPs_mem : ∀ {ds : List D} {p : PyData}, p ∈ D.toPs ds → ∃ d, d ∈ ds ∧ d.toP = p
  | [], _, h => by simp [D.toPs] at h
  | d :: ds, p, h => by
    simp only [D.toPs, List.mem_cons] at h
    rcases h with h | h
    · exact ⟨d, by simp, h.symm⟩
    · obtain ⟨d', h1, h2⟩ := toPs_mem h; exact ⟨d', by simp [h1], h2⟩
theorem doks_mem {n : Nat} : ∀ {ds : List D} {d : D}, doks n ds = true → d ∈ ds → dok n d = true
  | [], _, _, h => by simp at h
  | x :: ds, d, h, hm => by
    simp only [doks, Bool.and_eq_true] at h
    rcases List.mem_cons.mp hm with rfl | hm
    · exact h.1
    · exact doks_mem h.2 hm
theorem srt_sortable {ds : List D} (h : srtOk ds = true) : PySem.W.Sortable (D.toPs ds) := by
  unfold srtOk at h
  simp only [Bool.and_eq_true, List.all_eq_true] at h
  obtain ⟨⟨h1, h2⟩, h3⟩ := h
  cases ds with
  | nil => exact .inl fun d hd => by simp [D.toPs] at hd
  | cons d0 ds =>
    cases d0 with
    | tup xs =>
      refine .inl fun p hp => ?_
      obtain ⟨d, hd, rfl⟩ := toPs_mem hp
      have ha := h2 _ (List.mem_cons_self) d hd
      cases d with
      | tup ys =>
        have := h3 _ hd
        cases ys with
        | nil => simp [srtItem] at this
        | cons y ys => exact ⟨y.toP, D.toPs ys, by simp [D.toP, D.toPs]⟩
      | _ => simp [alikeD] at ha
    | _ =>
      refine .inr fun p hp => ?_
      obtain ⟨d, hd, rfl⟩ := toPs_mem hp
      have ha := h2 _ (List.mem_cons_self) d hd
      have hi := h3 _ hd
      cases d <;> first | (simp [alikeD] at ha; done) | (simp [srtItem] at hi; done) | (simp [D.toP]; done)
section
variable {X : Cx} {k : Kn}
theorem RDs.srt {G : Hp} {ds : List D} {vs : List V} (r : RDs k G ds vs) : RDs k G (M.srt ds) (((vs.zip (D.toPs ds)).mergeSort (PySem.W.dataLe false (·.2))).map (·.1)) := by
  have key : ∀ (bs : List (D × V)), (∀ b, b ∈ bs → RD k G b.1 b.2) → RDs k G (bs.map (·.1)) (bs.map (·.2)) := fun bs => by
    induction bs with
    | nil => intro _; exact .nil
    | cons b bs ih => intro h; exact .cons (h b (by simp)) (ih fun x hx => h x (by simp [hx]))
  have hl := r.length
  have z1 : (ds.zip vs).map (·.1) = ds := by rw [List.map_fst_zip]; omega
  have z2 : vs.zip (D.toPs ds) = (ds.zip vs).map fun b => (b.2, b.1.toP) := by
    clear r z1
    induction ds generalizing vs with
    | nil => cases vs <;> simp [D.toPs]
    | cons d ds ih =>
      cases vs with
      | nil => simp at hl
      | cons v vs => simp only [D.toPs, List.zip_cons_cons, List.map_cons]; rw [ih (by simpa using hl)]
  have e1 : M.srt ds = ((ds.zip vs).mergeSort fun a b => dle a.1 b.1).map (·.1) := by
    unfold M.srt
    rw [List.map_mergeSort (s := dle) (fun _ _ _ _ => rfl), z1]
  have e2 : ((vs.zip (D.toPs ds)).mergeSort (PySem.W.dataLe false (·.2))).map (·.1) = ((ds.zip vs).mergeSort fun a b => dle a.1 b.1).map (·.2) := by
    rw [z2, ← List.map_mergeSort (r := fun a b => dle a.1 b.1) (f := fun (b : D × V) => (b.2, b.1.toP)) (fun a _ b _ => by rw [PySem.W.dataLe_eq]; rfl), List.map_map]
    rfl
  rw [e1, e2]
  refine key _ fun b hb => ?_
  have hb : b ∈ ds.zip vs := List.mem_mergeSort.mp hb
  have : ∀ {ds : List D} {vs : List V}, RDs k G ds vs → ∀ b, b ∈ ds.zip vs → RD k G b.1 b.2 := fun {ds vs} r => by
    intro b hb
    obtain ⟨i, hi, rfl⟩ := List.mem_iff_getElem.mp hb
    rw [List.getElem_zip]
    have h1 : i < ds.length := by rw [List.length_zip] at hi; omega
    obtain ⟨v, hv, rv⟩ := r.get (List.getElem?_eq_getElem h1)
    have h2 : i < vs.length := by rw [List.length_zip] at hi; omega
    rw [List.getElem?_eq_getElem h2] at hv; cases hv
    exact rv
  exact this r b hb
end
end M
set_option Elab.async false
set_option linter.all false
set_option maxRecDepth 100000
set_option maxHeartbeats 4000000
namespace M
open PySem L2
theorem _root_.L2.Room.units5 {k : Nat} {A : Around} (r : Room k A) : A.units + 65 < cLine := by have := r.un; omega
structure Callee (P : Program) (w : World) (K : PySem.W.Frag) (mg : Str → Option Value) (base : Heap) (k : Kn) (lv : Nat) (x : Str) (n : Nat) (fr : Bool) (den : List D → R D) : Prop where
  ex : ∃ (f : Addr) (fd : FuncData) (ps : List Str), ps.length = n ∧ FnOk P w K mg base CX0 lv f fd ps (SpF k fr n den) ∧ mg x = some (.ref f) ∧ PySem.W.keepIn K (.ref f) = true ∧ Binds K fd ps []
theorem Callee.at {X : Cx} {k : Kn} {lv m : Nat} {x : Str} {n : Nat} {fr : Bool} {den : List D → R D} (h : Callee X.prog X.w X.K X.mg X.base k lv x n fr den) (hr : Room m X.A) (hle : lv ≤ m) : Fn0 X k x n fr den := by
  obtain ⟨f, fd, ps, hn, h1, h2, h3, h4⟩ := h.ex
  exact ⟨f, fd, lv, ps, hn, h1, hr.mono hle, h2, h3, h4⟩
structure Gc (mg : Str → Option Value) (k : Kn) (x : Str) (d : D) : Prop where
  ex : ∃ v u, mg x = some u ∧ RelV v u ∧ ∀ G, RD k G d v
section
variable {X : Cx} {c : Cf} {k : Kn} {kd k1 k2 k3 : Kd} {a b e o : Expr} {f g h : FE} {pos apos cpos p' : Pos} {fr : Bool} {x y : Str}
def eG (d : D) : FE := fun _ => .ok d
theorem d_g {d : D} (h : Gc X.mg c.k x d) (hg : Gl X x := by rfl) (hd : (x == ("__debug__" : Str)) = false := by decide) : PE' X c .st (.Name x pos) (eG d) := by
  obtain ⟨v, u, hm, r, rd⟩ := h.ex
  exact cst_of (pe_glob hg hm r hd) rd
def eY (n : String) : FE := fun _ => .ok (.ty n)
theorem d_ty (n : String) (hm : X.mg x = none) (hv : bootBuiltins x = some (.type n) := by decide +kernel) (hg : Gl X x := by rfl) (hn : x ≠ "__name__" := by decide) (hd : (x == ("__debug__" : Str)) = false := by decide) : PE' X c .st (.Name x pos) (eY n) :=
  cst_of (pe_bltn (v := .ty n) hg hm hv rfl hn hd) fun _ => .ty n
def tyN : D → Option String
  | .non => some "NoneType"
  | .bl _ => some "bool"
  | .int _ => some "int"
  | .str _ => some "str"
  | .tup _ => some "tuple"
  | .lst _ => some "list"
  | .dic _ _ => some "dict"
  | .dit _ _ => some "dict"
  | _ => none
theorem Now.tyX (hk : k.K = X.K) {G H : Hp} {d : D} {v : V} {n : String} (e : Ex G H) (w : Now k G H d v) (h : tyN d = some n) : TyX X.K H v (.type n) := by
  cases d <;> simp only [tyN] at h <;> first | (cases h; done) | skip
  · cases h; obtain rfl := w.non; exact .base .non
  · cases h; obtain rfl := w.bl; exact .base (.bl _)
  · cases h; obtain rfl := w.int; exact .base (.int _)
  · cases h; obtain rfl := w.str; exact .base (.str _)
  · cases h; obtain ⟨a, vs, rfl, ha, r⟩ := w.tup
    rcases e.sqU ha with q | ⟨o, its, m, q1, q2, q3⟩
    · exact .base (.tup q)
    · exact .kTuple (hk ▸ q1) q2
  · cases h; obtain ⟨a, vs, rfl, ha, r⟩ := w.lst e; exact .base (.lst ha)
  · cases h; obtain ⟨a, vs, rfl, ha, r⟩ := w.dic e; exact .base (.dK ha)
  · cases h; obtain ⟨a, vs, rfl, ha, r⟩ := w.dit e; exact .base (.dT ha)
def isiD : D → D → R D
  | x, .ty b => (match tyN x with
    | some a => (match kitB a b with
      | some r => .ok (.bl r)
      | none => .fail)
    | none => .fail)
  | _, _ => .fail
theorem c_isi (hk : k.K = X.K) : ClR X k (.builtin "isinstance") .st (f2 isiD) := cl2 call_isi fun G H x v y u d e n m hg Q p => by
  unfold isiD at hg
  split at hg
  · split at hg
    · rename_i ha
      split at hg
      · rename_i hb
        cases hg; obtain rfl := m.ty
        exact ⟨v, _, _, _, _, rfl, .ty _, n.tyX hk e ha, kit_ty hb, p _ G H (Step.refl e) (.bl _)⟩
      · cases hg
    · cases hg
  · cases hg
theorem SlR.or {r r' : V → Option Int → Option Int → Hp → VK → Prop} (h : SlR X r) (h' : SlR X r') : SlR X (fun x l u H Q => r x l u H Q ∨ r' x l u H Q) := fun pins s σ H x v vl vu lo hi sl Q I rx hs h1 h2 q => by
  rcases q with q | q
  · exact h pins s σ H x v vl vu lo hi sl Q I rx hs h1 h2 q
  · exact h' pins s σ H x v vl vu lo hi sl Q I rx hs h1 h2 q
abbrev FO := Env → R (Option Int)
def oN : FO := fun _ => .ok none
def toI : D → R (Option Int)
  | .int i => .ok (some i)
  | _ => .fail
def oS (f : FE) : FO := fun S => f S >>= toI
def cutL {α : Type} (xs : List α) (lo hi : Option Int) : List α := List.take (HT.sIx xs.length xs.length hi - HT.sIx xs.length 0 lo) (List.drop (HT.sIx xs.length 0 lo) xs)
def slD (x : D) (lo hi : Option Int) : R D := match x with
  | .lst xs => .ok (.lst (cutL xs lo hi))
  | .tup xs => .ok (.tup (cutL xs lo hi))
  | .str z => if z.length ≤ sizeLine then .ok (.str (cutS z lo hi)) else .fail
  | _ => .fail
def eSl (f : FE) (l h : FO) : FE := fun S => f S >>= fun x => l S >>= fun lo => h S >>= fun hi => (slD x lo hi).nox
theorem RDs.cutL {G : Hp} {ds : List D} {vs : List V} (r : RDs k G ds vs) (lo hi : Option Int) : RDs k G (M.cutL ds lo hi) (cutV vs lo hi) := by
  unfold M.cutL cutV
  rw [← r.length]
  exact (r.drop _).take _
def mulL : D → D → R D
  | .lst xs, .int j => if -(2 ^ 63) ≤ j ∧ j < 2 ^ 63 ∧ xs.length * j.toNat ≤ sizeLine then .ok (.lst (List.replicate j.toNat xs).flatten) else .fail
  | _, _ => .fail
theorem o_mulL : Op2 X k (binaryOp .Mult) .fr mulL := by
  refine ⟨_, op_rep, ?_⟩
  intro G H x y u v d e nx ny hg Q q
  unfold mulL at hg
  split at hg
  · split at hg
    · rename_i hc
      cases hg; obtain rfl := ny.int
      obtain ⟨a, vs, rfl, ha, ra⟩ := nx.lst e
      exact ⟨a, _, vs, rfl, rfl, ha, hc.1, hc.2.1, by rw [← ra.length]; exact hc.2.2, fun p hp => q _ _ _ (Step.new' e hp) ⟨p, _, rfl, e.free hp, hp, upd_same, .lst (ra.rep _)⟩⟩
    · cases hg
  · cases hg
theorem setF_go {i : Nat} {Dn : Ends} {σ : St} {H : Hp} (q : RdS c fr [i] (sSet i f) Dn σ H) : RdE c .fr f σ H fun x H1 => gName i x σ H1 Dn.nx := by
  obtain ⟨G, S, rel, p⟩ := q
  refine rdE_go (g := fun d => .ok (Fl.nx, S.set i (some ⟨false, d⟩))) (Post := PostS c fr [i] G S σ H Dn) rel p (fun _ z => z _) (fun z => z) fun d v G' H' sp q p1 => ?_
  obtain ⟨a, o, rfl, hg, hn, ha, ct⟩ := q
  have sp2 : Step G H (upd G' a o) H' := sp.frz ha hn hg
  exact p1 _ _ H' sp2.g ((rel.grow sp2).setS i ((ct.mono (Ex.new hg)).rd upd_same)) ((Frm.step (as := []) rel sp2).trans (Frm.set i _ _))
theorem s_lcZ (i : Nat) {py spos : Pos} {tg elt iter : Expr} {t : FT} {ifs : List Expr} {scope : Scope} (own : List (Str × Nat)) {ki gs : List Nat} {fi : FI} {ga : FG} {fe : FE} (hc : X.calm = true) (hN : X.N.Nodup) (hi : PI' X c ki tg iter fi) (ok : BlkOk X.N X.env.scope scope own)
    (hg : ∀ (s : Shared) (H : Hp) (C : Addr) (cl : List (Str × Addr)) (fp : List Addr), PG' (X.blk s H scope (compEnvC scope cl C X.env) fp) c.nx gs tg ga) (ht : ∀ (s : Shared) (H : Hp) (C : Addr) (cl : List (Str × Addr)) (fp : List Addr), PTs' (X.blk s H scope (compEnvC scope cl C X.env) fp) c.nx ifs t)
    (he : ∀ (s : Shared) (H : Hp) (C : Addr) (cl : List (Str × Addr)) (fp : List Addr), PE' (X.blk s H scope (compEnvC scope cl C X.env) fp) c.nx .st elt fe) (hy : X.N[i]? = some y := by rfl) (hyl : X.env.scope.names.lookup y = some .local := by rfl)
    (hsw : swapsWith (.ListComp elt [⟨tg, iter, ifs, 0⟩] scope pos) (some (.Name y py)) spos.line X.env = pure true := by exact sw_true rfl rfl rfl (by decide +kernel)) (hgs : ∀ i, i ∈ gs → i ∈ own.map (·.2) := by decide) (hs : ∀ x, foldedSetIterable iter X.env x = pure x := by intro _; rfl) :
    PS' X c fr [i] (.Assign [.Name y py] (.ListComp elt [⟨tg, iter, ifs, 0⟩] scope pos) spos) (sSet i (lcE fi ga t fe (own.map (·.2)))) :=
  psI (ps_setLc hc hN hy hyl hsw hi ok hg ht he hs) fun Dn σ H q => lc_go (fun _ _ _ _ z => z) (fun _ _ _ z => z) (fun _ _ _ z => z) hgs (setF_go q)
theorem eV_exc {i : Nat} {S : Env} {x : Exc} : eV i S ≠ .exc x := by unfold eV; split <;> intro h <;> cases h
theorem eV_of {i : Nat} {S : Env} {d : D} (h : eV i S = .ok d) : S[i]? = some (some ⟨false, d⟩) := by
  unfold eV at h
  split at h
  · cases h; assumption
  · cases h
def bothI : D → D → Bool
  | .int _, .int _ => true
  | _, _ => false
def sAugI (i : Nat) (o : D → D → R D) (f : FE) : FS := fun S => eV i S >>= fun x => f S >>= fun y => if bothI x y then (o x y).nox >>= fun z => .ok (.nx, S.set i (some ⟨false, z⟩)) else .fail
def putS (S : Env) : List Nat → List D → Env
  | i :: is, d :: ds => putS (S.set i (some ⟨false, d⟩)) is ds
  | _, _ => S
def sPar (is : List Nat) (fa : FA) : FS := fun S => fa S >>= fun ds => if ds.length = is.length then .ok (.nx, putS S is ds) else .fail
theorem s_par2 (i j : Nat) {fa : FA} {px py pt pt2 : Pos} {kt kk : Nat} (hN : X.N.Nodup) (ha : PA' X c false [a, b] fa) (hi : X.N[i]? = some x := by rfl) (hj : X.N[j]? = some y := by rfl) (hij : i ≠ j := by decide) (hx : X.env.scope.names.lookup x = some .local := by rfl) (hy : X.env.scope.names.lookup y = some .local := by rfl)
    (hc : X.calm = true := by rfl) (hsw : swappedStores [.Tuple [.Name x px, .Name y py] kt pt] (.Tuple [a, b] kk pt2) X.env = pure (some [x, y]) := by rfl) (hs : swapsWithSole [.Tuple [.Name x px, .Name y py] kt pt] (.Tuple [a, b] kk pt2) pos.line X.env = pure false := by rfl) :
    PS' X c fr [i, j] (.Assign [.Tuple [.Name x px, .Name y py] kt pt] (.Tuple [a, b] kk pt2) pos) (sPar [i, j] fa) :=
  psI (ps_par hc hN hi hj hij hx hy ha hsw hs) fun Dn σ H ⟨G, S, rel, p⟩ => by
    refine rdA_go (g := fun ds => if ds.length = [i, j].length then .ok (Fl.nx, putS S [i, j] ds) else .fail) (Post := PostS c fr [i, j] G S σ H Dn) rel p (fun _ z => z _) (fun z => z) fun ds vs G' H' sp q p1 => ?_
    have q : RDs c.k G' ds vs := q
    rcases q with _ | ⟨r1, _ | ⟨r2, _ | ⟨r3, r4⟩⟩⟩
    · exact p1.elim
    · exact p1.elim
    · exact ⟨_, _, rfl, p1 G' _ H' sp.g (((rel.grow sp).setS i r1).setS j r2) ((Frm.step (as := []) rel sp).trans ((Frm.set i _ _).trans (Frm.set j _ _)))⟩
    · simp only [List.length_cons, List.length_nil] at p1; rw [if_neg (by omega)] at p1; exact p1.elim
end
end M
set_option Elab.async false
set_option linter.all false
set_option maxRecDepth 100000
set_option maxHeartbeats 4000000
namespace M
open PySem L2
section
variable {τ κ : Type}
def freshSet (w : World) : Obj := { cls := .type "set", dict := none, data := .set #[] 0 (.fresh 0 0 (!w.params.followText "set-order")) }
structure Fam (P : Program) (w : World) (K : PySem.W.Frag) (τ κ : Type) where
  ob : τ → Addr → HO
  t0 : τ
  pre : τ → V → κ → Hp → Prop
  post : τ → V → κ → τ → Prop
  new : ∀ (H : Hp) (h : Heap) (a : Addr), h.get? a = some (freshSet w) → ObjOk P w H h a (ob t0 a)
  add : ∀ (X : Cx), X.prog = P → X.w = w → X.K = K → X.A.units + 64 < cLine → ∀ (pins : List (Addr × Obj)) (s : Shared) (σ : L2.St) (H : Hp) (S : Addr) (t : τ) (y : V) (kk : κ) (u : Value) (Q : Value → Shared → Prop) (E : Value → Shared → Prop), Inv X pins σ H s → H S = some (ob t S) → RelV y u → pre t y kk H →
    (∀ t' s', post t y kk t' → Inv X pins σ (upd H S (ob t' S)) s' → Q .none s') → wpAny (model P w) X.A (call (.builtin "set.add") [.ref S, u]) Q E s
def tScG {P : Program} {w : World} {K : PySem.W.Frag} (F : Fam P w K τ κ) (wi : TI) (g : TG) (tt : TT) (te : TE) (vs : List Nat) : TE := fun σ H Q => wi σ H fun J H1 => ∀ S, H1 S = none → ∃ W : Nat → Nat → Hp → Prop, (∃ m, W 0 m (upd H1 S (F.ob F.t0 S))) ∧ ∀ i m H, W i m H →
  (J.stop i H ∧ Q (.ref S) H) ∨ (J.go i H ∧ ∃ Nx : Hp → Prop, (∀ H', Nx H' → ∃ m', m' < m ∧ W (i + 1) m' H') ∧ ∀ x H', J.yld i H x H' → g x (L2.wipe σ vs) H' fun σ2 H2 => L2.wipe σ2 vs = L2.wipe σ vs ∧ tt σ2 H2 fun b H3 =>
    if b = true then te σ2 H3 fun y H4 => ∃ t kk, H4 S = some (F.ob t S) ∧ F.pre t y kk H4 ∧ ∀ t', F.post t y kk t' → Nx (upd H4 S (F.ob t' S)) else Nx H3)
variable {X : Cx}
theorem pe_scG (F : Fam X.prog X.w X.K τ κ) {elt tg iter : Expr} {ifs : List Expr} {scope : Scope} {own : List (Str × Nat)} {pos : Pos} {wi : TI} {g : TG} {tt : TT} {te : TE} (hu : X.A.units + 64 < cLine) (hc : X.calm = true) (hN : X.N.Nodup) (hi : PI X tg iter wi) (ok : BlkOk X.N X.env.scope scope own)
    (hg : ∀ (s : Shared) (H : Hp) (C : Addr) (cl : List (Str × Addr)) (fp : List Addr), PG (X.blk s H scope (compEnvC scope cl C X.env) fp) tg g) (ht : ∀ (s : Shared) (H : Hp) (C : Addr) (cl : List (Str × Addr)) (fp : List Addr), PTs (X.blk s H scope (compEnvC scope cl C X.env) fp) ifs tt)
    (he : ∀ (s : Shared) (H : Hp) (C : Addr) (cl : List (Str × Addr)) (fp : List Addr), PE (X.blk s H scope (compEnvC scope cl C X.env) fp) elt te) (hs : ∀ x, foldedSetIterable iter X.env x = pure x := by intro _; rfl) :
    PE X (.SetComp elt [⟨tg, iter, ifs, 0⟩] scope pos) (tScG F wi g tt te (own.map (·.2))) := by
  constructor
  intro pins s σ H Q I rd
  rw [PpSet.eval_SetComp]
  have cells : ∀ y ∈ scope.names, y.2 = .free → ∃ c, X.env.cells.lookup y.1 = some c := fun y hy e => (ok.free y hy e).elim (fun k => I.ok.has _ (.inl k)) fun k => I.ok.has _ (.inr k)
  refine wpAny_comprehension_free (use := none) rfl hs (closure_ok cells) ok.kind (fun y hy e => by rw [ok.uniq y hy, e]) (thn (hi.run pins s σ H _ I rd) fun xv s1 hx => thn hx fun itv s2 h2 => ?_)
  obtain ⟨it, fp, tn, J, H2, rfl, I2, T, st2, f2, q⟩ := h2
  refine PpSet.newSet_ok (newEnv_comp ?_)
  have hfr : H2 s2.heap.objs.size = none := I2.hok.fresh (Nat.le_refl _)
  generalize hA : s2.heap.objs.size = A0 at hfr
  obtain ⟨W, ⟨m0, w0⟩, turn⟩ := q A0 hfr
  obtain ⟨s3, hs3⟩ : ∃ s3 : Shared, s3 = { s2 with heap := s2.heap.push (freshSet X.w) } := ⟨_, rfl⟩
  obtain ⟨H3, hH3⟩ : ∃ H3 : Hp, H3 = upd H2 A0 (F.ob F.t0 A0) := ⟨_, rfl⟩
  have old : ∀ b o, s2.heap.get? b = some o → s3.heap.get? b = some o := fun b o e => by rw [hs3]; exact Heap.get?_push_of_some _ e
  have I3 : Inv X pins σ H3 s3 := by
    rw [hs3, hH3]
    exact I2.laid (t' := s2.toks) (fun b o e => Heap.get?_push_of_some _ e) (Nat.le_of_eq hA) (F.new _ _ _ (by rw [← hA]; exact Heap.get?_push_size _ rfl))
  have there : ∀ b ∈ fp, b < s2.heap.objs.size := fun b hb => by
    obtain ⟨o, e, _⟩ := T.obj _ _ st2 b hb
    exact Heap.lt_size e
  have f3 : ∀ b ∈ fp, FpOk X pins H3 b ∧ b < s3.heap.objs.size := fun b hb => by
    have lt := there b hb
    refine ⟨⟨?_, (f2 b hb).2⟩, by rw [hs3]; exact (Heap.size_push ..).symm ▸ Nat.lt_succ_of_lt lt⟩
    rw [hH3, upd_ne (by rw [← hA]; exact Nat.ne_of_lt lt)]
    exact (f2 b hb).1
  have st3 : tn 0 s3.heap := T.keep _ _ _ st2 fun b _ o e => old b o e
  have I4 := block_start I3 ok hN f3
  have pg := hg s3 H3 s3.heap.objs.size (cellsFrom (s3.heap.objs.size + 1) scope.names (cloFrom X.env.cells scope.names [])) fp
  have pt := ht s3 H3 s3.heap.objs.size (cellsFrom (s3.heap.objs.size + 1) scope.names (cloFrom X.env.cells scope.names [])) fp
  have pe := he s3 H3 s3.heap.objs.size (cellsFrom (s3.heap.objs.size + 1) scope.names (cloFrom X.env.cells scope.names [])) fp
  have goal : codeAny (model X.prog X.w) X.A (.compStart (.SetComp elt [⟨tg, iter, ifs, 0⟩] scope pos) 0 (.ref it) (.ref A0) (compEnvC scope (cellsFrom (s3.heap.objs.size + 1) scope.names (cloFrom X.env.cells scope.names [])) s3.heap.objs.size X.env))
      (compPost (model X.prog X.w) X.A X.xe none (EP X pins σ Q) (.ref A0) s3.heap.objs.size) { s3 with heap := pushCells (s3.heap.push { cls := .type "dict", data := .dict #[] }) scope.names } := by
    generalize hce : compEnvC scope (cellsFrom (s3.heap.objs.size + 1) scope.names (cloFrom X.env.cells scope.names [])) s3.heap.objs.size X.env = ce at I4 pg pt pe ⊢
    have cL : ce.locals = s3.heap.objs.size := by subst hce; rfl
    generalize hs4 : ({ s3 with heap := pushCells (s3.heap.push { cls := .type "dict", data := .dict #[] }) scope.names } : Shared) = s4 at I4 ⊢
    have st4 : tn 0 s4.heap := T.keep _ _ _ st3 fun b _ o e => by rw [← hs4]; exact pushCells_keeps _ _ _ _ (Heap.get?_push_of_some _ e)
    have fpo : ∀ {σ' : L2.St} {H' : Hp} {s' : Shared}, Inv (X.blk s3 H3 scope ce fp) [] σ' H' s' → (∀ b ∈ fp, H' b = none) → ∀ b ∈ fp, FpOk (X.blk s3 H3 scope ce fp) [] H' b := fun {σ' H' s'} J' hn b hb =>
      ⟨hn b hb, (J'.ok.exf b hb).1, J'.ok.exfs b hb, .inl hb, (J'.ok.exf b hb).2, fun p hp => by cases (show p ∈ ([] : List (Addr × Obj)) from hp)⟩
    have loop : codeAny (model X.prog X.w) X.A (.compLoop (.SetComp elt [⟨tg, iter, ifs, 0⟩] scope pos) 0 (.ref it) (.ref A0) ce) (compPost (model X.prog X.w) X.A X.xe none (EP X pins σ Q) (.ref A0) s3.heap.objs.size) s4 := by
      refine PpSet.compLoopS_any (fun n s' => ∃ i H', Inv (X.blk s3 H3 scope ce fp) [] (L2.wipe σ (own.map (·.2))) H' s' ∧ tn i s'.heap ∧ (∀ b ∈ fp, H' b = none) ∧ W i n H') ?_ m0 ⟨0, H3, I4, st4, fun b hb => (f3 b hb).1.1, by rw [hH3]; exact w0⟩
      rintro n s5 ⟨i, H5, I5, st5, n5, w5⟩
      rcases turn i n H5 w5 with ⟨stop, qq⟩ | ⟨go, Nx, hNx, step⟩
      · refine thnF (T.done (X.blk s3 H3 scope ce fp) rfl rfl rfl hc i [] s5 _ H5 (fun _ _ => False) I5 (fpo I5 n5) st5 stop) fun r s6 ⟨hr, I6⟩ => ?_
        subst hr
        have I7 : Inv X pins σ H5 s6 := I3.call' (ch := fp) I6.os I6.base I6.hok I6.bare fun b hb => ⟨(f3 b hb).1.2.2.2.1, (f3 b hb).1.2.1, (f3 b hb).1.2.2.2.2.1, (f3 b hb).1.2.2.2.2.2⟩
        have nC : H5 s3.heap.objs.size = none := by rw [← cL]; exact I6.free
        obtain ⟨m, hn, _⟩ := I6.loc
        have hn : s6.heap.Ns ce.locals m := hn
        rw [cL] at hn
        have fC := I3.fpOk (Nat.le_refl _) nC
        exact ⟨m, hn, fun h'' sb => ⟨.ref A0, H5, I7.turned (t' := s6.toks) (fun b o hb e => (sb.2 b hb).trans e) fC.1 fC.2.1 fC.2.2.2.1 fC.2.2.2.2.1 fC.2.2.2.2.2, rfl, qq⟩⟩
      · refine thnF (T.item (X.blk s3 H3 scope ce fp) rfl rfl rfl hc i [] s5 _ H5 (fun _ _ => False) I5 (fpo I5 n5) st5 go) fun r s6 ⟨u, hr, h6⟩ => ?_
        subst hr
        refine thnF h6 fun _ s7 ⟨x, H7, I7, r7, y7, st7, n7⟩ => ?_
        have I7' := I7.pinned (fpo I7 n7) (T.obj _ _ st7)
        refine thnF (pg.run _ s7 _ H7 x u _ I7' r7 (step x H7 y7)) fun _ s8 ⟨σ8, H8, I8, hw8, q8⟩ => ?_
        refine thnF (pt.run _ s8 σ8 H8 _ I8 q8) fun b s9 ⟨H9, I9, q9⟩ => ?_
        have fin : ∀ {s' : Shared} {H' : Hp}, Inv (X.blk s3 H3 scope ce fp) ([] ++ pinsAt fp s7.heap) σ8 H' s' → Nx H' → ∃ m, m < n ∧ ∃ i H', Inv (X.blk s3 H3 scope ce fp) [] (L2.wipe σ (own.map (·.2))) H' s' ∧ tn i s'.heap ∧ (∀ b ∈ fp, H' b = none) ∧ W i m H' := fun {s' H'} I' nx => by
          obtain ⟨m', hm, w'⟩ := hNx H' nx
          have pinned : ∀ b ∈ fp, ∀ o, s7.heap.get? b = some o → s'.heap.get? b = some o ∧ H' b = none := fun b hb o e =>
            let z := I'.pin (b, o) (List.mem_append_right _ (List.mem_append_right _ (mem_pinsAt hb e)))
            ⟨z.1, z.2.1⟩
          refine ⟨m', hm, i + 1, H', (I'.unpinned (pins := [])).weak (by rw [← hw8, wipe_length]) (fun j v e => ?_), T.keep _ _ _ st7 fun b hb o e => (pinned b hb o e).1, fun b hb => ?_, w'⟩
          · rw [← hw8] at e
            exact (wipe_some e).1
          · obtain ⟨o, e, _⟩ := T.obj _ _ st7 b hb
            exact (pinned b hb o e).2
        cases b with
        | false =>
          rw [if_neg Bool.false_ne_true] at q9 ⊢
          exact fin I9 q9
        | true =>
          rw [if_pos rfl] at q9 ⊢
          refine thnF (pe.run _ s9 σ8 H9 _ I9 q9) fun z s10 ⟨yv, H10, I10, r10, t, kk, ht10, hp10, nx⟩ => ?_
          exact F.add (X.blk s3 H3 scope ce fp) rfl rfl rfl hu _ s10 σ8 H10 A0 t yv kk z _ _ I10 ht10 r10 hp10 fun t' s11 hpost I11 => fin I11 (nx t' hpost)
    exact PpSet.codeAny_compStart_set loop (T.self X.A 0 _ _ _ st4 loop)
  rw [hs3] at goal
  exact goal
end
section
theorem set_add_tup {P : Program} {w : World} {A : Around} {E : Value → Shared → Prop} {s : Shared} {a x : Addr} {L : List (Addr × List Int)} {es : Array (Int × Value)} {ep : Nat} {t : SetTable} {k : List Int} {Q : Value → Shared → Prop} (R : SetTR P w s.heap a L es ep t) (hx : IsT P w s.heap k x) (hu : A.units + 2 < cLine) (hfew : L.length + 1 < 64)
    (hQ : ∀ h' tk L' es' ep' t', Heap.SameBut a s.heap h' → SetTR P w h' a L' es' ep' t' → (k ∈ L.map (·.2) → L' = L) → (k ∉ L.map (·.2) → L'.Perm ((x, k) :: L)) → Q .none { s with heap := h', toks := tk }) : wpAny (model P w) A (call (.builtin "set.add") [.ref a, .ref x]) Q E s := by
  obtain ⟨o, ho, hex, hd⟩ := R.ob
  have hT : s.TypeIs (.ref a) "set" := ⟨o, ho, hex.1⟩
  refine wpAny_call_entry F.slot_set_add hT F.entry_set_add ?_ (F.args_set_add_2 _ _)
  unfold Builtin.«set.add» Builtin.Frozenset.oneOther
  simp only [List.isEmpty_nil, bind_assoc]
  unfold Builtin.Frozenset.addrOf setAdd
  refine wpAny_bind (wpAny_pure ?_)
  try dsimp only
  refine wpAny_bind (wpAny_pure ?_)
  try dsimp only
  refine wpAny_bind ?_
  refine wpAny_holding ?_
  refine wpAny_bind (wpAny_pyHash_tuple (by first | exact Nat.lt_of_le_of_lt (Nat.le_add_right _ _) hu | (show A.units + 1 < cLine; omega) | omega) hx ?_)
  refine add_at (s := { s with toks := s.toks + (k.length + 1) }) R hx (by first | exact Nat.lt_of_le_of_lt (Nat.le_add_right _ _) hu | (show A.units + 1 < cLine; omega) | omega) hfew fun b h' L' es' ep' t' sb R' c1 c2 => ?_
  show wpAny _ _ (ret Value.none) _ _ _
  exact wpAny_pure ⟨_, rfl, hQ h' _ L' es' ep' t' sb R' c1 c2⟩
def famT (P : Program) (w : World) (K : PySem.W.Frag) : Fam P w K (List (Addr × List Int)) (List Int) where
  ob := fun L a => SetTO P w a L
  t0 := []
  pre := fun L y k H => (∀ p ∈ L, SqT K H p.1 (p.2.map V.int)) ∧ L.length + 1 < 64 ∧ ∃ x, y = .ref x ∧ SqT K H x (k.map V.int)
  post := fun L y k L' => ∃ x, y = .ref x ∧ (k ∈ L.map (·.2) → L' = L) ∧ (k ∉ L.map (·.2) → L'.Perm ((x, k) :: L))
  new := fun H h a e => setTO_new (setTR_fresh e).t0
  add := by
    intro X hP hw hK hu pins s σ H S L y k u Q E I hS ry hp hq
    subst hP hw hK
    obtain ⟨h1, h2, x, rfl, h3⟩ := hp
    cases ry
    have R0 : SetT0 X.prog X.w s.heap S L := (I.hok S _ hS).1
    obtain ⟨es, ep, t, R⟩ := R0.full fun p hp => I.isT (h1 p hp)
    refine set_add_tup R (I.isT h3) (by omega) h2 fun h' tk L' es' ep' t' sb R' c1 c2 => ?_
    have he : ∃ u, h'.get? S = some u := by
      obtain ⟨o, ho, _⟩ := R'.ob
      exact ⟨o, ho⟩
    exact hq L' _ ⟨x, rfl, c1, c2⟩ (I.write (e := S) (t' := tk) (by rw [hS]; trivial) (.inl rfl) (fun b u hb hu => (sb.2 b hb).trans hu) he (setTO_new R'.t0))
theorem call_lenT {X : Cx} : CallR X (.builtin "len") (fun xs H Q => ∃ a L, xs = [V.ref a] ∧ H a = some (SetTO X.prog X.w a L) ∧ (∀ p ∈ L, SqT X.K H p.1 (p.2.map V.int)) ∧ Q (.int L.length) H) := by
  intro pins s σ H xs us Q I r h
  obtain ⟨a, L, rfl, ha, ht, q⟩ := h
  rw [Vals.ref1 r]
  have R0 : SetT0 X.prog X.w s.heap a L := (I.hok a _ ha).1
  obtain ⟨es, ep, t, R⟩ := R0.full fun p hp => I.isT (ht p hp)
  obtain ⟨o, ho, hex, hd⟩ := R.ob
  have hs := R.size
  have hf := R.few
  refine call_len_set ho hex hd R.fits (by omega) ⟨.int L.length, H, I.tok _, ⟨_, by rw [hs]⟩, q⟩
def nubT (acc : List (List Int)) (k : List Int) : List (List Int) := if k ∈ acc then acc else k :: acc
def nub (ks : List (List Int)) : List (List Int) := ks.foldl nubT []
def asT : D → Option (List Int)
  | .tup ds => asI ds
  | _ => none
def asTs : List D → Option (List (List Int))
  | [] => some []
  | d :: ds => match asT d, asTs ds with
    | some k, some ks => some (k :: ks)
    | _, _ => none
def lenSc (fi : FI) (ga : FG) (t : FT) (fe : FE) (vs : List Nat) : FE := fun S => fi S >>= fun ds => if ds.length < 60 then lcF ga t fe (wipeS S vs) ds >>= fun ys => (match asTs ys with
  | some ks => .ok (.int (nub ks).length)
  | none => .fail) else .fail
theorem RD.asT {k : Kn} {G : Hp} {d : D} {v : V} {ns : List Int} (r : RD k G d v) (h : M.asT d = some ns) : ∃ a, v = .ref a ∧ SqU k.K G a (ns.map V.int) := by
  cases d <;> simp only [M.asT] at h <;> first | (cases h; done) | skip
  cases r with
  | tup hs hr =>
    have := asI_of hr h
    subst this
    exact ⟨_, rfl, hs⟩
theorem lenSc_go {X : Cx} {c : Cf} {t : FT} {ki gs vs : List Nat} {fi : FI} {ga : FG} {fe : FE} {σ : L2.St} {H : Hp} {Q : VK} {gi : TG} {tt : TT} {te : TE} (hk : c.k.K = X.K) (hg : ∀ v σ H Q, RdG c.nx gs ga v σ H Q → gi v σ H Q) (ht : ∀ σ H Q, RdT c.nx t σ H Q → tt σ H Q) (he : ∀ σ H Q, RdE c.nx .st fe σ H Q → te σ H Q)
    (hgs : ∀ i, i ∈ gs → i ∈ vs) (q : RdE c .st (lenSc fi ga t fe vs) σ H Q) :
    tScG (famT X.prog X.w X.K) (RdI c ki fi) gi tt te vs σ H fun v H1 => ∃ a L, [v] = [V.ref a] ∧ H1 a = some (SetTO X.prog X.w a L) ∧ (∀ p ∈ L, SqT X.K H1 p.1 (p.2.map V.int)) ∧ Q (.int L.length) H1 := by
  obtain ⟨G, S, rel, p⟩ := q
  refine ⟨G, S, rel, ?_⟩
  have p : PostE c .st G S σ H Q (fi S >>= fun ds => if ds.length < 60 then lcF ga t fe (wipeS S vs) ds >>= fun ys => (match asTs ys with
    | some ks => .ok (.int (nub ks).length)
    | none => .fail) else .fail) := p
  cases e0 : fi S with
  | exc x => rw [e0] at p; exact p
  | fail => rw [e0] at p; exact p
  | ok ds =>
    rw [e0, R.ok_bind] at p
    by_cases hz : ds.length < 60
    · rw [if_pos hz] at p
      intro J G1 H1 sp it Dl hD
      have relb := ((rel.grow sp).wipe vs).cw (W := liftX E0)
      refine ⟨fun i m H2 => m = ds.length - i ∧ i ≤ ds.length ∧ ∃ G2 L ac, Step G1 H1 G2 H2 ∧ G2 Dl = none ∧ H2 Dl = some (SetTO X.prog X.w Dl L) ∧ (∀ p ∈ L, SqU c.k.K G2 p.1 (p.2.map V.int)) ∧ (L.map (·.2)).Perm ac ∧ ac.length ≤ i ∧
          PostE c .st G S σ H Q (lcF ga t fe (wipeS S vs) (ds.drop i) >>= fun ys => (match asTs ys with
            | some ks => .ok (.int (ks.foldl nubT ac).length)
            | none => .fail)),
        ⟨_, rfl, Nat.zero_le _, G1, [], [], Step.new' sp.gh hD, sp.gh.free hD, upd_same, fun p hp => (by cases hp), List.Perm.nil, Nat.zero_le _, by simpa [nub] using p⟩, ?_⟩
      rintro i m H2 ⟨rfl, hle, G2, L, ac, sp2, hGD, hHD, hr, hpm, hal, p2⟩
      have rel2 : Rel c.nx G2 (wipeS S vs) (L2.wipe σ vs) H2 := relb.grow sp2
      have itm := it G2 H2 sp2.g sp2.gh fun j hj x ow => by
        obtain ⟨_, _, o, _, ho, _⟩ := (rel.grow sp).own ow
        rw [ho, sp2.h _ _ ho]
      have nD : ∀ {G6 H6 : Hp}, Step G2 H2 G6 H6 → G6 Dl = none ∧ H6 Dl = some (SetTO X.prog X.w Dl L) := fun {G6 H6} z => by
        refine ⟨?_, z.h _ _ hHD⟩
        cases q : G6 Dl with
        | none => rfl
        | some o =>
          rcases z.gr _ _ q with w | w
          · rw [hGD] at w; cases w
          · rw [hHD] at w; cases w
      by_cases hlt : i < ds.length
      · obtain ⟨d, hd⟩ : ∃ d, ds[i]? = some d := ⟨ds[i], List.getElem?_eq_getElem hlt⟩
        have hdrop : ds.drop i = d :: ds.drop (i + 1) := by
          rw [List.drop_eq_getElem_cons hlt]; congr 1; rw [List.getElem?_eq_getElem hlt] at hd; exact Option.some.inj hd
        rw [hdrop] at p2
        obtain ⟨hgo, hy⟩ := itm.2 i d hd
        refine .inr ⟨hgo, fun H' => ∃ G3 L ac, Step G1 H1 G3 H' ∧ G3 Dl = none ∧ H' Dl = some (SetTO X.prog X.w Dl L) ∧ (∀ p ∈ L, SqU c.k.K G3 p.1 (p.2.map V.int)) ∧ (L.map (·.2)).Perm ac ∧ ac.length ≤ i + 1 ∧
          PostE c .st G S σ H Q (lcF ga t fe (wipeS S vs) (ds.drop (i + 1)) >>= fun ys => (match asTs ys with
            | some ks => .ok (.int (ks.foldl nubT ac).length)
            | none => .fail)), fun H' ⟨G3, r3⟩ => ⟨_, by omega, rfl, hlt, G3, r3⟩, fun x H3 hx => ?_⟩
        obtain ⟨G3, sp3, hd3⟩ := hy x H3 hx
        refine hg x _ H3 _ ⟨G3, wipeS S vs, d, rel2.grow sp3, hd3, ?_⟩
        unfold lcF at p2
        cases e1 : ga d (wipeS S vs) with
        | exc x => rw [e1] at p2; exact p2.elim
        | fail => rw [e1] at p2; exact p2.elim
        | ok S1 =>
          rw [e1, R.nox_ok, R.ok_bind] at p2
          intro G4 σ4 H4 sp4 rel4 f4
          refine ⟨wipe_eq (by rw [f4.len, wipe_length]) fun j hj => f4.sg j fun z => hj (hgs j z), ht σ4 H4 _ ⟨G4, S1, rel4, ?_⟩⟩
          cases e2 : t S1 with
          | exc x => rw [e2] at p2; exact p2.elim
          | fail => rw [e2] at p2; exact p2.elim
          | ok b =>
            rw [e2, R.nox_ok, R.ok_bind] at p2
            intro G5 H5 sp5
            have spA : Step G2 H2 G5 H5 := (sp3.trans sp4).trans sp5
            cases b with
            | false =>
              rw [if_neg Bool.false_ne_true] at p2 ⊢
              exact ⟨G5, L, ac, sp2.trans spA, (nD spA).1, (nD spA).2, fun p hp => spA.g.sqU (hr p hp), hpm, by omega, p2⟩
            | true =>
              rw [if_pos rfl] at p2 ⊢
              refine he σ4 H5 _ ⟨G5, S1, rel4.grow sp5, ?_⟩
              cases e3 : fe S1 with
              | exc x => rw [e3] at p2; exact p2.elim
              | fail => rw [e3] at p2; exact p2.elim
              | ok y =>
                rw [e3, R.nox_ok, R.ok_bind] at p2
                intro v G6 H6 sp6 hv
                have hv : RD c.k G6 y v := hv
                have spB := spA.trans sp6
                cases e4 : lcF ga t fe (wipeS S vs) (ds.drop (i + 1)) with
                | exc x => exact absurd e4 (lcF_exc _)
                | fail => rw [e4] at p2; exact p2.elim
                | ok ys =>
                  rw [e4] at p2
                  have p2 : PostE c .st G S σ H Q (match asTs (y :: ys) with
                    | some ks => .ok (.int (ks.foldl nubT ac).length)
                    | none => .fail) := p2
                  simp only [asTs] at p2
                  cases ek : asT y with
                  | none => rw [ek] at p2; exact p2.elim
                  | some kk =>
                    cases es : asTs ys with
                    | none => rw [ek, es] at p2; exact p2.elim
                    | some ks =>
                      rw [ek, es] at p2
                      obtain ⟨xa, rfl, hxa⟩ := hv.asT ek
                      have hlen : L.length = ac.length := by rw [← List.length_map (f := fun (p : Addr × List Int) => p.2)]; exact hpm.length_eq
                      have hr6 : ∀ p ∈ L, SqU c.k.K G6 p.1 (p.2.map V.int) := fun p hp => spB.g.sqU (hr p hp)
                      refine ⟨L, kk, (nD spB).2, ⟨fun p hp => hk ▸ (sp6.gh.sqU (hr6 p hp)).t, by omega, xa, rfl, hk ▸ (sp6.gh.sqU hxa).t⟩, ?_⟩
                      rintro L' ⟨xb, hxb, c1, c2⟩
                      cases hxb
                      have spC : Step G1 H1 G6 (upd H6 Dl (SetTO X.prog X.w Dl L')) := by
                        have z := sp2.trans spB
                        exact ⟨z.g, z.h.upd hD, z.gh.upd (nD spB).1, z.gr⟩
                      by_cases hm : kk ∈ L.map (·.2)
                      · have := c1 hm
                        subst this
                        refine ⟨G6, L', ac, spC, (nD spB).1, upd_same, hr6, hpm, by omega, ?_⟩
                        rw [R.ok_bind, es]
                        have hm' : kk ∈ ac := hpm.mem_iff.mp hm
                        simpa only [List.foldl_cons, nubT, if_pos hm'] using p2
                      · have hp' := c2 hm
                        refine ⟨G6, L', kk :: ac, spC, (nD spB).1, upd_same, fun p hp => ?_, ?_, by simp only [List.length_cons]; omega, ?_⟩
                        · rcases List.mem_cons.mp (hp'.mem_iff.mp hp) with rfl | hp
                          · exact hxa
                          · exact hr6 p hp
                        · exact (hp'.map _).trans (List.Perm.cons _ hpm)
                        · rw [R.ok_bind, es]
                          have hm' : kk ∉ ac := fun z => hm (hpm.mem_iff.mpr z)
                          simpa only [List.foldl_cons, nubT, if_neg hm'] using p2
      · have hi : i = ds.length := by omega
        subst hi
        rw [List.drop_length] at p2
        refine .inl ⟨itm.1 _ (Nat.le_refl _), Dl, L, rfl, hHD, fun p hp => hk ▸ (sp2.gh.sqU (hr p hp)).t, ?_⟩
        have p2 : PostE c .st G S σ H Q (.ok (.int ac.length)) := p2
        have hlen : L.length = ac.length := by rw [← List.length_map (f := fun (p : Addr × List Int) => p.2)]; exact hpm.length_eq
        rw [hlen]
        exact p2 _ G2 H2 (sp.trans sp2) (.int _)
    · rw [if_neg hz] at p; exact p.elim
theorem d_lenSc {X : Cx} {c : Cf} {t : FT} {tg elt iter : Expr} {ifs : List Expr} {scope : Scope} {p1 p2 pos : Pos} {x : Str} (own : List (Str × Nat)) {ki gs : List Nat} {fi : FI} {ga : FG} {fe : FE} (hk : c.k.K = X.K) (hu : X.A.units + 64 < cLine) (hm : X.mg x = none) (hc : X.calm = true) (hN : X.N.Nodup) (hi : PI' X c ki tg iter fi) (ok : BlkOk X.N X.env.scope scope own)
    (hg : ∀ (s : Shared) (H : Hp) (C : Addr) (cl : List (Str × Addr)) (fp : List Addr), PG' (X.blk s H scope (compEnvC scope cl C X.env) fp) c.nx gs tg ga) (ht : ∀ (s : Shared) (H : Hp) (C : Addr) (cl : List (Str × Addr)) (fp : List Addr), PTs' (X.blk s H scope (compEnvC scope cl C X.env) fp) c.nx ifs t)
    (he : ∀ (s : Shared) (H : Hp) (C : Addr) (cl : List (Str × Addr)) (fp : List Addr), PE' (X.blk s H scope (compEnvC scope cl C X.env) fp) c.nx .st elt fe) (hgs : ∀ i, i ∈ gs → i ∈ own.map (·.2) := by decide) (hs : ∀ x, foldedSetIterable iter X.env x = pure x := by intro _; rfl)
    (hv : bootBuiltins x = some (.builtin "len") := by decide +kernel) (hgl : Gl X x := by rfl) (hn : x ≠ "__name__" := by decide) (hdb : (x == ("__debug__" : Str)) = false := by decide) :
    PE' X c .st (.Call (.Name x p1) [.SetComp elt [⟨tg, iter, ifs, 0⟩] scope p2] [] pos) (lenSc fi ga t fe (own.map (·.2))) :=
  peI (pe_callB call_lenT hgl hm hv (pa_cons (pe_scG (famT X.prog X.w X.K) hu hc hN hi ok hg ht he hs) pa_nil rfl) hn hdb rfl rfl) fun σ H Q q => lenSc_go hk (fun _ _ _ _ z => z) (fun _ _ _ z => z) (fun _ _ _ z => z) hgs q
end
end M
set_option Elab.async false
set_option linter.all false
set_option maxRecDepth 100000
set_option maxHeartbeats 4000000
namespace M
open PySem L2
open AutoSeq1 (wpAny_loadPart')
theorem enum_new1 {v : Value} {o : Obj} {H : Heap → Prop} (B : Begins v o H) :
    Meets (Builtin.«enumerate.__new__» ⟨[.type "enumerate", v], []⟩) (fun _ R s => H s.heap ∧
      R (.ok (.ret (.ref (s.heap.push o).objs.size))) { s with heap := (s.heap.push o).push { cls := .type "enumerate", data := .fields #[.none, .bool false, .ref s.heap.objs.size, rawInt 0, .none, .none] } }) :=
  .of_wp fun prog w A R s h => by
    obtain ⟨hp, g, d, tk, os⟩ := s; obtain ⟨h1, h⟩ := h
    have hsub := sub_enumerate
    have q1 : ∀ {A' : Around} {E : Value → Shared → Prop} {Q : Value → Shared → Prop}, Q (.ref hp.objs.size) ⟨hp.push o, g, d, tk, os⟩ → wpAny (model prog w) A' (pyIter v) Q E ⟨hp, g, d, tk, os⟩ :=
      fun q => B.iter prog w _ _ ⟨hp, g, d, tk, os⟩ _ h1 q
    wp_walk using q1
    refine wpAny_stack_any fun st => wpAny_pure ?_
    split
    · rename_i c _ _ _ _ _
      cases (c == Value.type "enumerate")
      · wp_walk using q1
        exact ⟨_, rfl, h⟩
      · wp_walk using q1
        exact ⟨_, rfl, h⟩
    · wp_walk using q1
      exact ⟨_, rfl, h⟩
theorem enum_begins1 {prog : Program} {w : World} {A : Around} {E : Value → Shared → Prop} {s : Shared} {v : Value} {o : Obj} {H : Heap → Prop} {Q : Value → Shared → Prop} (B : Begins v o H) (h1 : H s.heap)
    (h : ∀ h', IsEnum h' (s.heap.objs.size + 1) s.heap.objs.size 0 .none → h'.get? s.heap.objs.size = some o → (∀ b o, s.heap.get? b = some o → h'.get? b = some o) → Q (.ref (s.heap.objs.size + 1)) { s with heap := h' }) :
    wpAny (model prog w) A (call (.type "enumerate") [v]) Q E s := by
  refine callType_new F.called_enumerate (by decide) (F.typeCall_enumerate_1 _) (F.newCall_enumerate_1 _) (fun obj => F.args_object_init_2 obj _) F.entry_enumerate_new (enum_new1 B) ⟨h1, ?_⟩
  have hz : (s.heap.push o).objs.size = s.heap.objs.size + 1 := Heap.size_push ..
  show _ ∧ _
  rw [hz]
  have he : IsEnum ((s.heap.push o).push { cls := .type "enumerate", data := .fields #[.none, .bool false, .ref s.heap.objs.size, rawInt 0, .none, .none] }) (s.heap.objs.size + 1) s.heap.objs.size 0 .none := by
    have := Heap.get?_push_size (s.heap.push o) (o := { cls := .type "enumerate", data := .fields #[.none, .bool false, .ref s.heap.objs.size, rawInt 0, .none, .none] }) rfl
    rw [hz] at this; exact this
  exact ⟨⟨_, he, rfl⟩, h _ he (Heap.get?_push_of_some _ (Heap.get?_push_size _ B.free)) fun b o x => Heap.get?_push_of_some _ (Heap.get?_push_of_some _ x)⟩
def ItU (K : PySem.W.Frag) (a : Addr) : It :=
  ⟨fun i H => ∃ (xs : List V) (x : V), SqT K H a xs ∧ xs[i]? = some x, fun i H v H' => ∃ T x, v = .ref T ∧ H T = none ∧ H' = upd H T (.tup [.int (i : Nat), x]) ∧ ∀ xs, SqT K H a xs → xs[i]? = some x, fun i H => ∃ xs : List V, SqT K H a xs ∧ xs.length ≤ i⟩
theorem turn_enumT {P : Program} {w : World} {K : PySem.W.Frag} {elts : List Expr} {kk : Nat} {tpos : Pos} (a e it : Addr) :
    Turn P w K (.Tuple elts kk tpos) (ItU K a) [e, it] e (fun i h => (∃ old, IsEnum h e it ((i : Nat) : Int) old) ∧ h.IsTupleIter it a i ∧ e ≠ it) := by
  refine ⟨by simp, fun i h st b hb => ?_, fun i h h' st k => ?_, ?_, ?_, fun A i s Q E st h => ?_⟩
  · obtain ⟨⟨old, he⟩, ⟨o, ho, hc, hd⟩, _⟩ := st
    rcases (by simpa using hb : b = e ∨ b = it) with z | z
    · rw [z]; exact ⟨_, he, fun v q => nomatch q⟩
    · rw [z]; exact ⟨o, ho, fun v q => by rw [hd] at q; cases q⟩
  · obtain ⟨⟨old, he⟩, hi, hne⟩ := st
    exact ⟨⟨old, k e (by simp) _ he⟩, hi.at fun o q => k it (by simp) o q, hne⟩
  · intro X hP hw hK hc i pins s σ H E I hf st hg
    subst hP hw hK
    obtain ⟨⟨old, he⟩, hit, hne⟩ := st
    obtain ⟨xs, x, hq, hx⟩ := hg
    obtain ⟨its, rv, p, hz⟩ := I.tuple hq
    obtain ⟨u, hu, ru⟩ := rv.get hx
    have pT : s.heap.IsTuple a its.toArray := p
    have hel : e < s.heap.objs.size := Heap.lt_size he
    have hil : it < s.heap.objs.size := by obtain ⟨_, q, _⟩ := hit; exact Heap.lt_size q
    have ai : a ≠ it := by
      rintro rfl
      obtain ⟨o1, q1, c1, _⟩ := hit
      obtain ⟨o2, q2, c2, _⟩ := pT
      rw [q1] at q2; cases q2; rw [c1] at c2; injection c2 with z; exact absurd z (by decide)
    have ea : e ≠ a := by
      rintro rfl
      obtain ⟨o2, q2, c2, _⟩ := pT
      rw [show s.heap.get? e = some _ from he] at q2; cases q2; injection c2 with z; exact absurd z (by decide)
    have hlt : i < its.toArray.size := by rw [List.size_toArray]; exact (List.getElem?_eq_some_iff.mp hu).1
    refine wpAny_pyNext_enum_itemD (Draws.tuple (A := X.A.in1) (I.ok.hd hc) it a ai its.toArray) he ⟨hit, pT⟩ hlt hne (by simp only [List.mem_cons, List.not_mem_nil, or_false, not_or]; exact ⟨hne, ea⟩) fun y h' tk hy ho st' hT hsz hk => ?_
    have hy' : y = u := by
      have z : its[i]? = some y := by simpa using hy
      rw [hu] at z; exact (Option.some.inj z).symm
    subst hy'
    refine ⟨_, rfl, wpAny_letOwnedTupleGo_enum (s := { s with heap := h', toks := tk + 1 }) ho fun h'' he' sb => ?_⟩
    have hT2 : h''.get? s.heap.objs.size = some { cls := .type "tuple", data := .seq #[.int i tk, y] } := (sb.2 _ (Nat.ne_of_gt hel)).trans hT
    have new : ObjOk X.prog X.w (upd H s.heap.objs.size (.tup [.int (i : Nat), x])) h'' s.heap.objs.size (.tup [.int (i : Nat), x]) :=
      ⟨by show 2 ≤ sizeLine; decide, [.int i tk, y], .cons ⟨_, rfl⟩ (.cons ru .nil), ⟨_, hT2, rfl, _, rfl⟩⟩
    have I1 : Inv X pins σ (upd H s.heap.objs.size (.tup [.int (i : Nat), x])) { s with heap := h'', toks := tk + 1 } :=
      I.turnedNew (ch := [e, it]) (fun b ob hb q => (sb.2 b (fun z => hb (by simp [z]))).trans (hk b ob (fun z => hb (by simp [z])) (fun z => hb (by simp [z])) q)) hf (Nat.le_refl _) new
    refine ⟨.ref s.heap.objs.size, _, I1, rfl, ⟨_, x, rfl, I.hok.fresh (Nat.le_refl _), rfl, fun ys hy => by rw [I.tuple_inj hy hq]; exact hx⟩, ⟨⟨y, ?_⟩, st'.1.at fun o q => (sb.2 it (Ne.symm hne)).trans q, hne⟩, fun b hb => ?_⟩
    · have e1 : ((i + 1 : Nat) : Int) = (i : Int) + 1 := by omega
      rw [e1]; exact he'
    · have hb' : b < s.heap.objs.size := by
        rcases (by simpa using hb : b = e ∨ b = it) with z | z
        · rw [z]; exact hel
        · rw [z]; exact hil
      rw [upd_ne (Nat.ne_of_lt hb')]
      exact (hf b hb).1
  · intro X hP hw hK hc i pins s σ H E I hf st hg
    subst hP hw hK
    obtain ⟨⟨old, he⟩, hit, hne⟩ := st
    obtain ⟨xs, hq, hx⟩ := hg
    obtain ⟨its, rv, p, hz⟩ := I.tuple hq
    obtain ⟨f0, f1, f2, f3, f4, f5⟩ := hf it (by simp)
    have pT : s.heap.IsTuple a its.toArray := p
    have ai : a ≠ it := by
      rintro rfl
      obtain ⟨o1, q1, c1, _⟩ := hit
      obtain ⟨o2, q2, c2, _⟩ := pT
      rw [q1] at q2; cases q2; rw [c1] at c2; injection c2 with z; exact absurd z (by decide)
    have hl := rv.length
    have hn : its.toArray[i]? = none := by simp; omega
    have hT : s.TypeIs (.ref e) "enumerate" := ⟨_, he, rfl⟩
    unfold pyNext
    refine wpAny_bind (wpAny_attempt (wpAny_callSpecial?_slot (name := Str.ofString "__next__") hT F.slot_enumerate_next (wpAny_call_entry F.slot_enumerate_next hT F.entry_enumerate_next ?_ (F.args_enumerate_next_1 _))))
    show wpAny _ _ (field (.ref e) 2 >>= _) _ _ _
    refine wpAny_bind (wpAny_field he rfl (x := .ref it) rfl ?_)
    refine wpAny_bind (wpAny_nextOf_tuple_end (A := X.A.in1) (I.ok.hd hc) hit pT hn fun h' x he' hx' => ?_)
    obtain ⟨o, ho, hcl⟩ := hx'
    refine wpAny_bind (wpAny_isInstance (T := "StopIteration") (b := true) ⟨o, ho, hcl⟩ isSubtype_stop ?_)
    exact wpAny_pure ⟨rfl, I.turned (t' := s.toks) (fun b o hb q => he' b o hb q) f0 f1 f3 f4 f5⟩
  · obtain ⟨⟨_, he⟩, _⟩ := st
    exact wpAny_pyIter_enum he h
theorem pi_enumT {X : Cx} {e : Expr} {ta : TA} {p pos tpos : Pos} {elts : List Expr} {kk : Nat} (hg : Gl X "enumerate") (hm : X.mg "enumerate" = none) (ha : PA X [e] ta) (hs : starEach [e] X.env = [(false, eval e X.env)] := by rfl) :
    PI X (.Tuple elts kk tpos) (.Call (.Name "enumerate" p) [e] [] pos) (fun σ H R => ta σ H fun vs H1 => ∃ a xs, vs = [.ref a] ∧ SqT X.K H1 a xs ∧ R (ItU X.K a) H1) := by
  constructor
  intro pins s σ H R I h
  refine PyProof.Rows.Call_ (ld_blt I hg hm PyProof.Rows.boot_enumerate (PyProof.Rows.callWith_type1 (thn (ha.run pos pins s σ H _ I h) fun us s1 ⟨vs, H1, I1, r1, q1⟩ => ?_) hs rfl))
  obtain ⟨a, xs, rfl, hq, q⟩ := q1
  rw [Vals.ref1 r1]
  obtain ⟨its, rv, p', hz⟩ := I1.tuple hq
  refine enum_begins1 (begins_tuple a its.toArray) p' fun h' he hit hk => wpAny_pyIter_enum he ?_
  have I2 : Inv X pins σ H1 { s1 with heap := h' } := I1.kept (t' := s1.toks) hk
  refine ⟨s1.heap.objs.size + 1, [s1.heap.objs.size + 1, s1.heap.objs.size], _, _, H1, rfl, I2, turn_enumT a (s1.heap.objs.size + 1) s1.heap.objs.size, ⟨⟨.none, he⟩, ⟨_, hit, rfl, rfl⟩, Nat.succ_ne_self _⟩, fun b hb => ?_, q⟩
  have hle : s1.heap.objs.size ≤ b := by
    rcases (by simpa using hb : b = s1.heap.objs.size + 1 ∨ b = s1.heap.objs.size) with z | z
    · rw [z]; exact Nat.le_add_right _ _
    · rw [z]; exact Nat.le_refl _
  exact I1.fpOk hle (I1.hok.fresh hle)
def enumAt (n : Nat) : List D → List D
  | [] => []
  | d :: ds => .tup [.int n, d] :: enumAt (n + 1) ds
theorem enumAt_get : ∀ (ds : List D) (n i : Nat), (enumAt n ds)[i]? = ds[i]?.map fun d => .tup [.int ((n + i : Nat) : Int), d]
  | [], n, i => by simp [enumAt]
  | d :: ds, n, 0 => by simp [enumAt]
  | d :: ds, n, i + 1 => by
    simp only [enumAt, List.getElem?_cons_succ]
    rw [enumAt_get ds (n + 1) i]
    congr 1
    funext d
    rw [show n + 1 + i = n + (i + 1) by omega]
theorem enumAt_length : ∀ (ds : List D) (n : Nat), (enumAt n ds).length = ds.length
  | [], n => rfl
  | d :: ds, n => by simp [enumAt, enumAt_length ds]
def enumerateF : List D → R (List D)
  | [.lst ds] => .ok (enumAt 0 ds)
  | [.tup ds] => .ok (enumAt 0 ds)
  | _ => .fail
theorem itm_enumL {k : Kn} {ki : List Nat} {G1 H1 : Hp} {S : Env} {σ : L2.St} {K : PySem.W.Frag} {ds : List D} {vs : List V} {p : Addr} (hr : RDs k G1 ds vs) (hs : G1 p = some (.lst vs)) : Itm k ki G1 S σ H1 (Ite K p) (enumAt 0 ds) := fun G H e1 e2 kp => by
  have q : SqL K H p vs := SqL.of (e2 _ _ (e1 _ _ hs))
  refine ⟨fun i hi => ⟨vs, q, by rw [enumAt_length] at hi; rw [← hr.length]; exact hi⟩, fun i d hd => ?_⟩
  rw [enumAt_get] at hd
  cases hd0 : ds[i]? with
  | none => rw [hd0] at hd; cases hd
  | some d0 =>
    rw [hd0] at hd
    have hd : D.tup [.int ((0 + i : Nat) : Int), d0] = d := Option.some.inj hd
    subst hd
    obtain ⟨v, hv, r⟩ := (hr.mono e1).get hd0
    refine ⟨⟨vs, v, q, hv⟩, fun x H' hx => ?_⟩
    obtain ⟨T, x', rfl, hT, rfl, hy⟩ := hx
    have := hy vs q
    rw [hv] at this; cases this
    refine ⟨_, Step.new e2 hT, .tup (SqU.of upd_same) (.cons ?_ (.cons (r.mono (Ex.new (e2.free hT))) .nil))⟩
    rw [Nat.zero_add]; exact .int _
theorem itm_enumT {k : Kn} {ki : List Nat} {G1 H1 : Hp} {S : Env} {σ : L2.St} {K : PySem.W.Frag} {ds : List D} {vs : List V} {p : Addr} (hr : RDs k G1 ds vs) (hs : SqT K G1 p vs) : Itm k ki G1 S σ H1 (ItU K p) (enumAt 0 ds) := fun G H e1 e2 kp => by
  have q : SqT K H p vs := e2.sqT (e1.sqT hs)
  refine ⟨fun i hi => ⟨vs, q, by rw [enumAt_length] at hi; rw [← hr.length]; exact hi⟩, fun i d hd => ?_⟩
  rw [enumAt_get] at hd
  cases hd0 : ds[i]? with
  | none => rw [hd0] at hd; cases hd
  | some d0 =>
    rw [hd0] at hd
    have hd : D.tup [.int ((0 + i : Nat) : Int), d0] = d := Option.some.inj hd
    subst hd
    obtain ⟨v, hv, r⟩ := (hr.mono e1).get hd0
    refine ⟨⟨vs, v, q, hv⟩, fun x H' hx => ?_⟩
    obtain ⟨T, x', rfl, hT, rfl, hy⟩ := hx
    have := hy vs q
    rw [hv] at this; cases this
    refine ⟨_, Step.new e2 hT, .tup (SqU.of upd_same) (.cons ?_ (.cons (r.mono (Ex.new (e2.free hT))) .nil))⟩
    rw [Nat.zero_add]; exact .int _
theorem i_enumerate {X : Cx} {c : Cf} {e : Expr} {fa : FA} {p pos tpos : Pos} {elts : List Expr} {kk : Nat} (hk : c.k.K = X.K) (hm : X.mg "enumerate" = none) (ha : PA' X c false [e] fa) (hg : Gl X "enumerate" := by rfl) (hs : starEach [e] X.env = [(false, eval e X.env)] := by rfl) :
    PI' X c [] (.Tuple elts kk tpos) (.Call (.Name "enumerate" p) [e] [] pos) (fun S => fa S >>= enumerateF) := by
  constructor
  intro pins st σ H Rq I q
  obtain ⟨G, S, rel, p⟩ := q
  have p : PostI c [] G S σ H Rq (fa S >>= enumerateF) := p
  cases e1 : fa S with
  | exc x => exact (pi_enum hg hm ha hs).run pins st σ H Rq I ⟨G, S, rel, by rw [e1] at p ⊢; exact p⟩
  | fail => rw [e1] at p; exact p.elim
  | ok ds =>
    rw [e1, R.ok_bind] at p
    unfold enumerateF at p
    split at p
    · rename_i ds0
      refine (pi_enum hg hm ha hs).run pins st σ H Rq I ⟨G, S, rel, ?_⟩
      rw [e1]
      intro vs G' H' sp q
      have q : RDs c.k G' [.lst ds0] vs := q
      cases q with
      | cons q1 q2 =>
        cases q2
        cases q1 with
        | lst h r => exact ⟨_, _, rfl, SqL.of (sp.gh _ _ h), p _ G' H' sp (itm_enumL r h)⟩
    · rename_i ds0
      refine (pi_enumT hg hm ha hs).run pins st σ H Rq I ⟨G, S, rel, ?_⟩
      rw [e1]
      intro vs G' H' sp q
      have q : RDs c.k G' [.tup ds0] vs := q
      cases q with
      | cons q1 q2 =>
        cases q2
        cases q1 with
        | tup h r => exact ⟨_, _, rfl, hk ▸ sp.gh.sqT h.t, p _ G' H' sp (itm_enumT r (hk ▸ h.t))⟩
    · exact p.elim
end M
set_option Elab.async false
set_option linter.all false
set_option maxRecDepth 100000
set_option maxHeartbeats 4000000
namespace M
open PySem L2
theorem zip_none : ∀ {nm : List Str} {vs : List V} {f : Str}, f ∉ nm → (nm.zip vs).lookup f = none
  | [], _, _, _ => by simp
  | _ :: _, [], _, _ => by simp
  | n :: nm, v :: vs, f, h => by
    simp only [List.mem_cons, not_or] at h
    rw [List.zip_cons_cons, List.lookup_cons, beq_eq_false_iff_ne.mpr h.1]
    exact zip_none h.2
def D.isObj (ci : Nat) : D → Bool
  | .obj c _ => c == ci
  | _ => false
structure Method (P : Program) (w : World) (K : PySem.W.Frag) (mg : Str → Option Value) (base : Heap) (k : Kn) (lv : Nat) (ci : Nat) (m : Str) (n : Nat) (fr : Bool) (den : List D → R D) : Prop where
  ex : ∃ (C f : Addr) (fd : FuncData) (ps nm : List Str), ps.length = n ∧ k.cl ci = some (C, nm) ∧ m ∉ nm ∧ Cls K C ∧ Meth K C m f ∧ FnOk P w K mg base CX0 lv f fd ps (SpF k fr n den) ∧ Binds K fd ps []
structure MakeK (P : Program) (w : World) (K : PySem.W.Frag) (mg : Str → Option Value) (base : Heap) (k : Kn) (lv : Nat) (x : Str) (ci n : Nat) (ks : List Str) (den : List D → R D) : Prop where
  ex : ∃ (C f : Addr) (fd : FuncData) (ps nm : List Str) (g : List Value → List Value → List Value), k.cl ci = some (C, nm) ∧ Mk K C f ∧ FnOk P w K mg base CX0 lv f fd ps (SpN k ci (n + ks.length + 1) den) ∧ mg x = some (.ref C) ∧ KBn K fd ps (n + 1) ks g (fun vs zs => vs ++ zs)
section
variable {X : Cx} {c : Cf} {k : Kn} {kd k1 k2 k3 : Kd} {a b e o : Expr} {f g h : FE} {pos apos cpos p' : Pos} {fr : Bool} {x y : Str} {den : List D → R D}
def eM (ci : Nat) (den : List D → R D) (f : FE) (fa : FA) : FE := fun S => f S >>= fun o => if o.isObj ci then fa S >>= fun ds => (den (o :: ds)).nox else .fail
theorem meth_go {ci n : Nat} {C : Addr} {nm : List Str} {m : Str} {fa : FA} {σ : L2.St} {H : Hp} {Q : VK} (hcl : c.k.cl ci = some (C, nm)) (hmn : m ∉ nm) (hl : Len n fa) (q : RdE c (kdOf fr) (eM ci den f fa) σ H Q) :
    RdE c .st f σ H fun x H1 => ∃ a dx fs, x = .ref a ∧ H1 a = some (.ins C dx fs) ∧ fs.lookup m = none ∧ RdA c false fa σ H1 fun vs H2 => SpF c.k fr (n + 1) den (x :: (vs ++ [])) H2 Q E0 := by
  obtain ⟨G, S, rel, p⟩ := q
  refine rdE_go (g := fun o => if o.isObj ci then fa S >>= fun ds => (den (o :: ds)).nox else .fail) (Post := PostE c (kdOf fr) G S σ H Q) rel p (fun _ z => z) (fun z => z) fun d v G1 H1 s1 q1 p1 => ?_
  by_cases ho : d.isObj ci = true
  · rw [if_pos ho] at p1
    cases d with
    | obj c' ds =>
      have hc : c' = ci := by simpa [D.isObj] using ho
      subst hc
      have q1 : RD c.k G1 (.obj c' ds) v := q1
      cases q1 with
      | @obj _ _ ad CA dx nm' vs' hcl' hG hr =>
        rw [hcl] at hcl'; cases hcl'
        refine ⟨ad, dx, _, rfl, s1.gh _ _ hG, zip_none hmn, G1, S, rel.grow s1, ?_⟩
        cases e0 : fa S with
        | exc x => rw [e0] at p1; exact p1
        | fail => rw [e0] at p1; exact p1
        | ok as =>
          rw [e0] at p1
          intro vs G2 H2 s2 q2
          have q2 : RDs c.k G2 as vs := q2
          rw [List.append_nil]
          refine ⟨by simp [← q2.length, hl S as e0], G2, .obj c' ds :: as, s2.gh, .cons (.obj hcl (s2.g _ _ hG) (hr.mono s2.g)) q2, ?_⟩
          have p1 : PostE c (kdOf fr) G S σ H Q (den (.obj c' ds :: as)).nox := p1
          cases e1 : den (.obj c' ds :: as) with
          | ok d => rw [e1] at p1; exact fun v G' H' s3 r3 => p1 v G' H' ((s1.trans s2).trans s3) (r3.mono (s1.h.trans s2.h))
          | exc x => rw [e1] at p1; exact p1.elim
          | fail => rw [e1] at p1; exact p1.elim
    | _ => simp [D.isObj] at ho
  · rw [if_neg ho] at p1; exact p1.elim
theorem d_meth {lv m' : Nat} (ci : Nat) {m : Str} {n : Nat} {es : List Expr} {fa : FA} {pl : Sem Bool} (F : Method X.prog X.w X.K X.mg X.base c.k lv ci m (n + 1) fr den) (hr : Room m' X.A) (hle : lv ≤ m') (ho : PE' X c .st o f) (ha : PA' X c false (e :: es) fa) (hl : Len n fa)
    (hst : starEach (e :: es) X.env = (false, eval e X.env) :: starEach es X.env := by rfl) (hpl : (backTo pos (starEach es X.env)).any (·.1) = false := by rfl)
    (ht : eval (.Call (.Attribute o m apos) (e :: es) [] pos) X.env = (do
      let ov ← eval o X.env
      standAt apos.atName
      let (f, first) ← holding [ov] (getMethod ov m pl)
      callWith pos f first (backTo pos (starEach (e :: es) X.env)) (backToKw pos (keywordEach [] X.env))) := by rfl) :
    PE' X c (kdOf fr) (.Call (.Attribute o m apos) (e :: es) [] pos) (eM ci den f fa) := by
  obtain ⟨C, fa', fd, ps, nm, hn, hcl, hmn, cl, mt, ok, bd⟩ := F.ex
  exact peI (pe_meth ho cl mt ok (hr.mono hle) bd .nil pass0 ha hst hpl ht) fun σ H Q q => meth_go hcl hmn hl q
def eP (ci : Nat) (den : List D → R D) (f : FE) : FE := eM ci den f fun _ => .ok []
def fApp (fa fk : FA) : FA := fun S => fa S >>= fun as => fk S >>= fun bs => .ok (as ++ bs)
abbrev PK' (X : Cx) (c : Cf) (ks : List Keyword) (f : FA) : Prop := PK X ks (RdA c false f)
theorem pkI {ks : List Keyword} {t t' : TA} (h : PK X ks t) (i : ∀ σ H Q, t' σ H Q → t σ H Q) : PK X ks t' := ⟨fun pos pins s σ H Q I q => h.run pos pins s σ H Q I (i σ H Q q)⟩
theorem d_kn : PK' X c [] aN := pkI pk_nil fun σ H Q ⟨G, S, rel, p⟩ => p [] G H (Step.refl rel.st.gh) .nil
theorem d_kc {nm : Option Str} {kp : Pos} {ks : List Keyword} {ga : FA} (ha : PE' X c .st e f) (hr : PK' X c ks ga) : PK' X c (⟨nm, e, kp⟩ :: ks) (aC f ga) :=
  pkI (pk_cons ha hr) fun σ H Q ⟨G, S, rel, p⟩ => by
    refine rdE_go (g := fun x => do let xs ← ga S; .ok (x :: xs)) (Post := PostA c false G S σ H Q) rel p (fun _ z => z) (fun z => z) fun d1 v1 G1 H1 s1 q1 p1 => ?_
    refine rdA_go (g := fun xs => .ok (d1 :: xs)) (Post := PostA c false G S σ H Q) (rel.grow s1) p1 (fun _ z => z) (fun z => z) fun d2 v2 G2 H2 s2 q2 p2 => ?_
    exact p2 _ G2 H2 (s1.trans s2) (.cons (RD.mono s2.g q1) q2)
theorem d_makeK {lv m' : Nat} {ci n : Nat} {ks : List Str} {p : Pos} {es : List Expr} {kws : List Keyword} {fa fk : FA} (F : MakeK X.prog X.w X.K X.mg X.base c.k lv x ci n ks den) (hr : Room m' X.A) (hle : lv + 1 ≤ m') (ha : PA' X c false (e :: es) fa) (hl : Len n fa) (hk : PK' X c kws fk) (hkl : Len ks.length fk) (hg : Gl X x := by rfl)
    (hall : (backToKw pos (keywordEach kws X.env)).all (·.1.isSome) = true := by rfl) (hks : (backToKw pos (keywordEach kws X.env)).filterMap (·.1) = ks := by rfl) (hdb : (x == ("__debug__" : Str)) = false := by decide)
    (he : starEach (e :: es) X.env = (false, eval e X.env) :: starEach es X.env := by rfl) (hpl : ((backTo pos (starEach (e :: es) X.env)).any (·.1) || (backToKw pos (keywordEach kws X.env)).any (·.1.isNone)) = false := by rfl) :
    PE' X c .fr (.Call (.Name x p) (e :: es) kws pos) (eC den (fApp fa fk)) := by
  obtain ⟨C, f, fd, ps, nm, g, hcl, mk, ok, hm, hb⟩ := F.ex
  refine peI (pe_makeK mk ok (hr.mono hle) hg hm hb pass0 ha hk hall hks hdb he hpl) fun σ H Q ⟨G, S, rel, p⟩ => ?_
  have p : PostE c .fr G S σ H Q ((fa S >>= fun as => fk S >>= fun bs => R.ok (as ++ bs)) >>= fun ds => (den ds).nox) := p
  refine ⟨G, S, rel, ?_⟩
  cases e1 : fa S with
  | exc x => rw [e1] at p; exact p
  | fail => rw [e1] at p; exact p
  | ok as =>
    rw [e1] at p
    intro vs G1 H1 s1 q1
    refine ⟨G1, S, rel.grow s1, ?_⟩
    cases e2 : fk S with
    | exc x => simp only [R.ok_bind] at p; rw [e2] at p; exact p
    | fail => simp only [R.ok_bind] at p; rw [e2] at p; exact p
    | ok bs =>
      simp only [R.ok_bind] at p
      rw [e2] at p
      simp only [R.ok_bind] at p
      intro zs G2 H2 s2 q2
      have q1 : RDs c.k G1 as vs := q1
      have q2 : RDs c.k G2 bs zs := q2
      have l1 := hl S as e1
      have l2 := hkl S bs e2
      refine ⟨by rw [← q1.length]; exact l1, by rw [← q2.length]; exact l2, fun x dx hx hdx hne => ?_⟩
      have sp := s1.trans s2
      have q3 : RDs c.k G2 (as ++ bs) (vs ++ zs) := (q1.mono s2.g).append q2
      have hgx : G2 x = none := s2.gh.free hx
      have ex1 : Ex H2 (upd (upd H2 dx (.own x)) x (.ins C dx [])) := (Ex.new hdx).upd hx
      refine ⟨by simp [← q1.length, ← q2.length, l1, l2], x, vs ++ zs, G2, as ++ bs, C, dx, nm, rfl, hcl, upd_same, hgx, s2.gh.trans ex1, q3, ?_⟩
      have p : PostE c .fr G S σ H Q (den (as ++ bs)).nox := p
      cases e1 : den (as ++ bs) with
      | ok d =>
        rw [e1] at p
        intro G' H' o ex hk gh hgx' gr ho ct
        refine ⟨rfl, p _ G' H' (sp.trans ⟨ex, fun b u q => hk b u (ne_of_none q hx) (ex1 b u q), gh, fun b u q => ?_⟩) ⟨x, o, rfl, hgx', sp.h.free hx, ho, ct⟩⟩
        rcases gr b u q with z | z
        · exact .inl z
        · exact .inr (ex1.free z)
      | exc x => rw [e1] at p; exact p.elim
      | fail => rw [e1] at p; exact p.elim
theorem d_callS {n : Nat} {p : Pos} {es : List Expr} {fa : FA} (F : Fn0 X c.k x n false den) (ha : PA' X c false (e :: es) fa) (hl : Len n fa) (hg : Gl X x := by rfl) (hdb : (x == ("__debug__" : Str)) = false := by decide)
    (hs : starEach (e :: es) X.env = (false, eval e X.env) :: starEach es X.env := by rfl) (hs2 : ((backTo pos (starEach es X.env)).any fun x => x.1) = false := by rfl) : PE' X c .st (.Call (.Name x p) (e :: es) [] pos) (eC den fa) := d_call F ha hl hg hdb hs hs2
theorem d_methS {lv m' : Nat} (ci : Nat) {m : Str} {n : Nat} {es : List Expr} {fa : FA} {pl : Sem Bool} (F : Method X.prog X.w X.K X.mg X.base c.k lv ci m (n + 1) false den) (hr : Room m' X.A) (hle : lv ≤ m') (ho : PE' X c .st o f) (ha : PA' X c false (e :: es) fa) (hl : Len n fa)
    (hst : starEach (e :: es) X.env = (false, eval e X.env) :: starEach es X.env := by rfl) (hpl : (backTo pos (starEach es X.env)).any (·.1) = false := by rfl)
    (ht : eval (.Call (.Attribute o m apos) (e :: es) [] pos) X.env = (do
      let ov ← eval o X.env
      standAt apos.atName
      let (f, first) ← holding [ov] (getMethod ov m pl)
      callWith pos f first (backTo pos (starEach (e :: es) X.env)) (backToKw pos (keywordEach [] X.env))) := by rfl) :
    PE' X c .st (.Call (.Attribute o m apos) (e :: es) [] pos) (eM ci den f fa) := d_meth ci F hr hle ho ha hl hst hpl ht
theorem d_callF {n : Nat} {p : Pos} {es : List Expr} {fa : FA} (F : Fn0 X c.k x n true den) (ha : PA' X c false (e :: es) fa) (hl : Len n fa) (hg : Gl X x := by rfl) (hdb : (x == ("__debug__" : Str)) = false := by decide)
    (hs : starEach (e :: es) X.env = (false, eval e X.env) :: starEach es X.env := by rfl) (hs2 : ((backTo pos (starEach es X.env)).any fun x => x.1) = false := by rfl) : PE' X c .fr (.Call (.Name x p) (e :: es) [] pos) (eC den fa) := d_call F ha hl hg hdb hs hs2
end
end M
set_option Elab.async false
set_option linter.all false
set_option maxRecDepth 100000
set_option maxHeartbeats 4000000
namespace M
open PySem L2
def Ok {α : Type} (r : R α) (Q : α → Prop) : Prop := ∃ a, r = .ok a ∧ Q a
section
variable {α β : Type} {Q : α → Prop} {S : Env}
theorem Ok.mono {r : R α} {P : α → Prop} (h : Ok r P) (k : ∀ a, P a → Q a) : Ok r Q := by obtain ⟨a, e, p⟩ := h; exact ⟨a, e, k a p⟩
theorem ok_ok {a : α} : Ok (.ok a) Q ↔ Q a := ⟨fun ⟨_, e, q⟩ => (by cases e; exact q), fun q => ⟨a, rfl, q⟩⟩
theorem ok_eq {r : R α} {a : α} (e : r = .ok a) : Ok r Q ↔ Q a := by rw [e]; exact ok_ok
theorem ok_bind {r : R β} {f : β → R α} : Ok (r >>= f) Q ↔ Ok r fun b => Ok (f b) Q := by
  cases r with
  | ok b => rw [ok_ok]; exact Iff.rfl
  | exc x => exact ⟨fun ⟨_, e, _⟩ => (nomatch e), fun ⟨_, e, _⟩ => (nomatch e)⟩
  | fail => exact ⟨fun ⟨_, e, _⟩ => (nomatch e), fun ⟨_, e, _⟩ => (nomatch e)⟩
theorem ok_nox {r : R α} : Ok r.nox Q ↔ Ok r Q := by
  cases r with
  | ok b => exact Iff.rfl
  | exc x => exact ⟨fun ⟨_, e, _⟩ => (nomatch e), fun ⟨_, e, _⟩ => (nomatch e)⟩
  | fail => exact Iff.rfl
theorem ok_if {c : Prop} [Decidable c] {a : R α} : Ok (if c then a else .fail) Q ↔ c ∧ Ok a Q := by
  by_cases h : c
  · rw [if_pos h]; exact ⟨fun z => ⟨h, z⟩, fun z => z.2⟩
  · rw [if_neg h]; exact ⟨fun ⟨_, e, _⟩ => (nomatch e), fun z => absurd z.1 h⟩
theorem Ok.eq {r : R α} {a : α} (h : Ok r fun x => x = a) : r = .ok a := by obtain ⟨x, e, rfl⟩ := h; exact e
end
section
variable {Q : D → Prop} {QB : Bool → Prop} {QL : List D → Prop} {QE : Env → Prop} {QS : Fl × Env → Prop} {QO : Option Int → Prop} {S : Env} {f g h : FE} {t u : FT} {fa : FA} {s r : FS} {i j : Nat} {d x y : D}
theorem k_I {i : Int} : Ok (eI i S) Q ↔ Q (.int i) := ok_ok
theorem k_S {i : Str} : Ok (eS i S) Q ↔ Q (.str i) := ok_ok
theorem k_B {i : Bool} : Ok (eB i S) Q ↔ Q (.bl i) := ok_ok
theorem k_N : Ok (eN S) Q ↔ Q .non := ok_ok
theorem k_G : Ok (eG d S) Q ↔ Q d := ok_ok
theorem k_Y {n : String} : Ok (eY n S) Q ↔ Q (.ty n) := ok_ok
def get0 (i : Nat) (S : Env) (Q : D → Prop) : Prop := match S[i]? with | some (some ⟨false, d⟩) => Q d | _ => False
def getA (i : Nat) (S : Env) (Q : D → Prop) : Prop := match S[i]? with | some (some ⟨_, d⟩) => Q d | _ => False
def get1 (i : Nat) (S : Env) (Q : D → Prop) : Prop := match S[i]? with | some (some ⟨true, d⟩) => Q d | _ => False
theorem ok_fail {α : Type} {Q : α → Prop} : Ok (.fail : R α) Q ↔ False := ⟨fun ⟨_, e, _⟩ => (nomatch e), False.elim⟩
theorem k_V : Ok (eV i S) Q ↔ get0 i S Q := by
  unfold eV get0
  cases S[i]? with
  | none => exact ok_fail
  | some o =>
    cases o with
    | none => exact ok_fail
    | some sl => obtain ⟨b, d⟩ := sl; cases b <;> first | exact ok_ok | exact ok_fail
theorem k_W : Ok (eW i S) Q ↔ getA i S Q := by
  unfold eW getA
  cases S[i]? with
  | none => exact ok_fail
  | some o =>
    cases o with
    | none => exact ok_fail
    | some sl => obtain ⟨b, d⟩ := sl; cases b <;> first | exact ok_ok | exact ok_fail
theorem k_O : Ok (eO i S) Q ↔ get1 i S Q := by
  unfold eO get1
  cases S[i]? with
  | none => exact ok_fail
  | some o =>
    cases o with
    | none => exact ok_fail
    | some sl => obtain ⟨b, d⟩ := sl; cases b <;> first | exact ok_ok | exact ok_fail
theorem g0_z {b : List (Option Sl)} {Q : D → Prop} : get0 0 (some ⟨false, d⟩ :: b) Q ↔ Q d := Iff.rfl
theorem g0_s {a : Option Sl} {b : List (Option Sl)} {Q : D → Prop} : get0 (i + 1) (a :: b) Q ↔ get0 i b Q := Iff.rfl
theorem gA_z {o : Bool} {b : List (Option Sl)} {Q : D → Prop} : getA 0 (some ⟨o, d⟩ :: b) Q ↔ Q d := Iff.rfl
theorem gA_s {a : Option Sl} {b : List (Option Sl)} {Q : D → Prop} : getA (i + 1) (a :: b) Q ↔ getA i b Q := Iff.rfl
theorem g1_z {b : List (Option Sl)} {Q : D → Prop} : get1 0 (some ⟨true, d⟩ :: b) Q ↔ Q d := Iff.rfl
theorem g1_s {a : Option Sl} {b : List (Option Sl)} {Q : D → Prop} : get1 (i + 1) (a :: b) Q ↔ get1 i b Q := Iff.rfl
theorem k_1 {o : D → R D} : Ok (e1 o f S) Q ↔ Ok (f S) fun x => Ok (o x) Q := by unfold e1; simp only [ok_bind, ok_nox]
theorem k_2 {o : D → D → R D} : Ok (e2 o f g S) Q ↔ Ok (f S) fun x => Ok (g S) fun y => Ok (o x y) Q := by unfold e2; simp only [ok_bind, ok_nox]
theorem k_n : Ok (aN S) QL ↔ QL [] := ok_ok
theorem k_c : Ok (aC f fa S) QL ↔ Ok (f S) fun x => Ok (fa S) fun xs => QL (x :: xs) := by unfold aC; simp only [ok_bind, ok_ok]
theorem k_T : Ok (eT fa S) Q ↔ Ok (fa S) fun xs => xs.length ≤ sizeLine ∧ Q (.tup xs) := by unfold eT mkT; simp only [ok_bind, ok_if, ok_ok]
theorem k_L : Ok (eL fa S) Q ↔ Ok (fa S) fun xs => xs.length ≤ sizeLine ∧ Q (.lst xs) := by unfold eL mkL; simp only [ok_bind, ok_if, ok_ok]
theorem k_C {o : List D → R D} : Ok (eC o fa S) Q ↔ Ok (fa S) fun xs => Ok (o xs) Q := by unfold eC; simp only [ok_bind, ok_nox]
theorem k_f1 {o : D → R D} : Ok (f1 o [x]) Q ↔ Ok (o x) Q := Iff.rfl
theorem k_f2 {o : D → D → R D} : Ok (f2 o [x, y]) Q ↔ Ok (o x y) Q := Iff.rfl
theorem k_App {fk : FA} : Ok (fApp fa fk S) QL ↔ Ok (fa S) fun xs => Ok (fk S) fun ys => QL (xs ++ ys) := by unfold fApp; simp only [ok_bind, ok_ok]
theorem k_M {ci : Nat} {den : List D → R D} : Ok (eM ci den f fa S) Q ↔ Ok (f S) fun o => o.isObj ci = true ∧ Ok (fa S) fun ds => Ok (den (o :: ds)) Q := by unfold eM; simp only [ok_bind, ok_if, ok_nox]
theorem k_P {ci : Nat} {den : List D → R D} : Ok (eP ci den f S) Q ↔ Ok (f S) fun o => o.isObj ci = true ∧ Ok (den [o]) Q := by unfold eP; rw [k_M]; simp only [ok_ok]
theorem ok_b {α : Type} {Q : α → Prop} {b : Bool} {a c : R α} : Ok (if b = true then a else c) Q ↔ (b = true → Ok a Q) ∧ (b = false → Ok c Q) := by cases b <;> simp
theorem k_3 {o o' : D → D → R D} : Ok (e3 o o' f g h S) Q ↔ Ok (f S) fun x => Ok (g S) fun y => Ok (o x y) fun b => Ok (toB b) fun b => (b = true → Ok (h S) fun z => Ok (o' y z) Q) ∧ (b = false → Q (.bl false)) := by
  unfold e3
  simp only [ok_bind, ok_nox, ok_b, ok_ok]
theorem k_tB : Ok (tB' f S) QB ↔ Ok (f S) fun x => Ok (toB x) QB := by unfold tB'; simp only [ok_bind]
theorem k_tT : Ok (tT' f S) QB ↔ Ok (f S) fun x => Ok (truD x) QB := by unfold tT'; simp only [ok_bind]
theorem k_toB {b : Bool} : Ok (toB (.bl b)) QB ↔ QB b := ok_ok
theorem k_tNo : Ok (tNo t S) QB ↔ Ok (t S) fun b => QB (!b) := by unfold tNo; simp only [ok_bind, ok_ok]
theorem k_tA : Ok (tA t u S) QB ↔ Ok (t S) fun b => (b = true → Ok (u S) QB) ∧ (b = false → QB false) := by unfold tA; simp only [ok_bind, ok_b, ok_ok]
theorem k_tO : Ok (tO t u S) QB ↔ Ok (t S) fun b => (b = true → QB true) ∧ (b = false → Ok (u S) QB) := by unfold tO; simp only [ok_bind, ok_b, ok_ok]
theorem k_tY : Ok (tY S) QB ↔ QB true := ok_ok
theorem k_And : Ok (eAnd f g S) Q ↔ Ok (f S) fun x => Ok (toB x) fun b => (b = true → Ok (g S) Q) ∧ (b = false → Q (.bl false)) := by unfold eAnd; simp only [ok_bind, ok_b, ok_ok]
theorem k_Or : Ok (eOr f g S) Q ↔ Ok (f S) fun x => Ok (toB x) fun b => (b = true → Q (.bl true)) ∧ (b = false → Ok (g S) Q) := by unfold eOr; simp only [ok_bind, ok_b, ok_ok]
theorem k_Not : Ok (eNot f S) Q ↔ Ok (f S) fun x => Ok (toB x) fun b => Q (.bl (!b)) := by unfold eNot; simp only [ok_bind, ok_ok]
theorem k_eIf : Ok (eIf t f g S) Q ↔ Ok (t S) fun b => (b = true → Ok (f S) Q) ∧ (b = false → Ok (g S) Q) := by unfold eIf; simp only [ok_bind, ok_b]
theorem k_nil : Ok (sNil S) QS ↔ QS (.nx, S) := ok_ok
theorem k_seq : Ok (sSeq s r S) QS ↔ Ok (s S) fun z => match z.1 with | .nx => Ok (r z.2) QS | _ => QS z := by
  unfold sSeq
  rw [ok_bind]
  apply iff_of_eq
  congr 1
  funext z
  obtain ⟨fl, S'⟩ := z
  cases fl <;> simp [ok_ok]
theorem k_set : Ok (sSet i f S) QS ↔ Ok (f S) fun d => QS (.nx, S.set i (some ⟨false, d⟩)) := by unfold sSet; simp only [ok_bind, ok_ok]
theorem k_own : Ok (sOwn i f S) QS ↔ Ok (f S) fun d => QS (.nx, S.set i (some ⟨true, d⟩)) := by unfold sOwn; simp only [ok_bind, ok_ok]
theorem k_drop : Ok (sDrop f S) QS ↔ Ok (f S) fun d => QS (.nx, S) := by unfold sDrop; simp only [ok_bind, ok_ok]
theorem k_ret : Ok (sRet f S) QS ↔ Ok (f S) fun d => QS (.rt d, S) := by unfold sRet; simp only [ok_bind, ok_ok]
theorem k_retN : Ok (sRetN S) QS ↔ QS (.rt .non, S) := ok_ok
theorem k_retO : Ok (sRetO i S) QS ↔ get1 i S fun d => QS (.rt d, S) := by unfold sRetO; simp only [ok_bind, ok_ok, k_O]
theorem k_if : Ok (sIf t s r S) QS ↔ Ok (t S) fun b => (b = true → Ok (s S) QS) ∧ (b = false → Ok (r S) QS) := by unfold sIf; simp only [ok_bind, ok_b]
theorem k_fz : Ok (sFz i s S) QS ↔ Ok (s (fzS S i)) QS := Iff.rfl
theorem fz_z {b : Bool} {l : List (Option Sl)} : fzS (some ⟨b, d⟩ :: l) 0 = some ⟨false, d⟩ :: l := by cases b <;> rfl
theorem fz_s {a : Option Sl} {l : List (Option Sl)} : fzS (a :: l) (i + 1) = a :: fzS l i := by
  unfold fzS
  rw [List.getElem?_cons_succ]
  split <;> simp [*]
theorem k_gN : Ok (gN i d S) QE ↔ QE (S.set i (some ⟨false, d⟩)) := ok_ok
theorem k_gsN : Ok (gsN [] S) QE ↔ QE S := ok_ok
theorem k_gsC {ga : FG} {gr : FGs} {ds : List D} : Ok (gsC ga gr (d :: ds) S) QE ↔ Ok (ga d S) fun S1 => Ok (gr ds S1) QE := ok_bind
theorem k_gT {n : Nat} {gr : FGs} {ds : List D} : Ok (gT n gr (.tup ds) S) QE ↔ ds.length = n ∧ Ok (gr ds S) QE := ok_if
theorem k_asg {ga : FG} : Ok (sAsg ga f S) QS ↔ Ok (f S) fun d => Ok (ga d S) fun S1 => QS (.nx, S1) := by unfold sAsg; simp only [ok_bind, ok_nox, ok_ok]
theorem k_for {fi : FI} {ga : FG} : Ok (sFor fi ga s S) QS ↔ Ok (fi S) fun ds => Ok (forF ga s ds S) QS := ok_bind
theorem k_fnil {ga : FG} : Ok (forF ga s [] S) QS ↔ QS (.nx, S) := ok_ok
theorem k_fcons {ga : FG} {ds : List D} : Ok (forF ga s (d :: ds) S) QS ↔ Ok (ga d S) fun S1 => Ok (s S1) fun z => match z.1 with
    | .nx => Ok (forF ga s ds z.2) QS
    | .ct => Ok (forF ga s ds z.2) QS
    | .bk => QS (.nx, z.2)
    | .rt d => QS (.rt d, z.2) := by
  show Ok ((ga d S).nox >>= _) QS ↔ _
  rw [ok_bind, ok_nox]
  apply iff_of_eq
  congr 1
  funext S1
  refine propext ?_
  rw [ok_bind]
  apply iff_of_eq
  congr 1
  funext z
  obtain ⟨fl, S'⟩ := z
  cases fl <;> simp [ok_ok]
theorem for_inv {ga : FG} (P : Nat → Env → Prop) : ∀ (ds : List D) (n : Nat) (S : Env), P n S → (∀ i d S, ds[i]? = some d → P (n + i) S → Ok (ga d S) fun S1 => Ok (s S1) fun z => match z.1 with
    | .nx => P (n + i + 1) z.2
    | .ct => P (n + i + 1) z.2
    | .bk => QS (.nx, z.2)
    | .rt d => QS (.rt d, z.2)) → (∀ S, P (n + ds.length) S → QS (.nx, S)) → Ok (forF ga s ds S) QS
  | [], n, S, h, _, q => ok_ok.mpr (q S h)
  | d :: ds, n, S, h, k, q => by
    rw [k_fcons]
    refine (k 0 d S rfl h).mono fun S1 h1 => h1.mono fun z hz => ?_
    have next : ∀ S', P (n + 0 + 1) S' → Ok (forF ga s ds S') QS := fun S' hp => for_inv P ds (n + 1) S' hp (fun i d' S'' hi hp => by
      have := k (i + 1) d' S'' (by simpa using hi) (by rwa [show n + (i + 1) = n + 1 + i by omega])
      rwa [show n + (i + 1) + 1 = n + 1 + i + 1 by omega] at this) fun S'' h => q S'' (by rwa [List.length_cons, show n + (ds.length + 1) = n + 1 + ds.length by omega])
    obtain ⟨fl, S'⟩ := z
    cases fl with
    | nx => exact next S' hz
    | ct => exact next S' hz
    | bk => exact hz
    | rt d => exact hz
theorem k_app : Ok (sApp i f S) QS ↔ Ok (ownL i S) fun ds => Ok (f S) fun d => ds.length < sizeLine ∧ QS (.nx, S.set i (some ⟨true, .lst (ds ++ [d])⟩)) := by unfold sApp; simp only [ok_bind, ok_if, ok_ok]
theorem oL_z {l : List (Option Sl)} {ds : List D} : Ok (ownL 0 (some ⟨true, .lst ds⟩ :: l)) QL ↔ QL ds := ok_ok
theorem oL_s {a : Option Sl} {l : List (Option Sl)} : Ok (ownL (i + 1) (a :: l)) QL ↔ Ok (ownL i l) QL := Iff.rfl
theorem k_par {is : List Nat} : Ok (sPar is fa S) QS ↔ Ok (fa S) fun ds => ds.length = is.length ∧ QS (.nx, putS S is ds) := by unfold sPar; simp only [ok_bind, ok_if, ok_ok]
theorem k_run {n : Nat} {ds : List D} : Ok (runF false n s ds) Q ↔ Ok (s (startS n ds)) fun z => match z.1 with | .rt d => Q d | .nx => Q .non | _ => False := by
  unfold runF
  cases e : s (startS n ds) with
  | ok z =>
    rw [ok_ok]
    obtain ⟨fl, S'⟩ := z
    cases fl <;> simp [endF, ok_ok, ok_fail]
  | exc x => exact ⟨fun ⟨_, e, _⟩ => (nomatch e), fun ⟨_, e, _⟩ => (nomatch e)⟩
  | fail => exact ⟨fun ⟨_, e, _⟩ => (nomatch e), fun ⟨_, e, _⟩ => (nomatch e)⟩
theorem k_runN {n ci : Nat} {ds : List D} : Ok (runN n ci s ds) Q ↔ Ok (s (startN n ci ds)) fun z => match z.1 with | .nx => get1 0 z.2 Q | _ => False := by
  unfold runN
  cases e : s (startN n ci ds) with
  | ok z =>
    rw [ok_ok]
    obtain ⟨fl, S'⟩ := z
    cases fl with
    | nx =>
      show Ok (endN (.ok (.nx, S'))) Q ↔ get1 0 S' Q
      unfold endN get1
      dsimp only
      cases S'[0]? with
      | none => exact ok_fail
      | some o =>
        cases o with
        | none => exact ok_fail
        | some sl => obtain ⟨b, d⟩ := sl; cases b <;> first | exact ok_ok | exact ok_fail
    | _ => exact ok_fail
  | exc x => exact ⟨fun ⟨_, e, _⟩ => (nomatch e), fun ⟨_, e, _⟩ => (nomatch e)⟩
  | fail => exact ⟨fun ⟨_, e, _⟩ => (nomatch e), fun ⟨_, e, _⟩ => (nomatch e)⟩
theorem k_fld {ci : Nat} : Ok (sFldN ci i j f S) QS ↔ Ok (ownO ci i S) fun ds => Ok (f S) fun d => ds.length = j ∧ QS (.nx, S.set i (some ⟨true, .obj ci (ds ++ [d])⟩)) := by unfold sFldN; simp only [ok_bind, ok_if, ok_ok]
theorem oO_z {ci : Nat} {l : List (Option Sl)} {ds : List D} : Ok (ownO ci 0 (some ⟨true, .obj ci ds⟩ :: l)) QL ↔ QL ds := by
  show Ok (if ci = ci then _ else _) QL ↔ _
  rw [if_pos rfl]; exact ok_ok
theorem k_add {a b : Int} : Ok (addD (.int a) (.int b)) Q ↔ Q (.int (a + b)) := ok_ok
theorem k_addL {a b : List D} : Ok (addD (.lst a) (.lst b)) Q ↔ a.length + b.length ≤ sizeLine ∧ Q (.lst (a ++ b)) := by show Ok (if _ then _ else _) Q ↔ _; rw [ok_if, ok_ok]
theorem k_sub {a b : Int} : Ok (subD (.int a) (.int b)) Q ↔ Q (.int (a - b)) := ok_ok
theorem k_mul {a b : Int} : Ok (mulD (.int a) (.int b)) Q ↔ (CMul a b ∨ CMulX a b) ∧ Q (.int (a * b)) := by show Ok (if _ then _ else _) Q ↔ _; rw [ok_if, ok_ok]
theorem k_div {a b : Int} : Ok (fdivD (.int a) (.int b)) Q ↔ CDiv a b ∧ Q (.int (a / b)) := by show Ok (if _ then _ else _) Q ↔ _; rw [ok_if, ok_ok]
theorem k_mod {a b : Int} : Ok (modD (.int a) (.int b)) Q ↔ 0 < b ∧ Q (.int (a % b)) := by show Ok (if _ then _ else _) Q ↔ _; rw [ok_if, ok_ok]
theorem k_pow {a b : Int} : Ok (powD (.int a) (.int b)) Q ↔ CPow a b ∧ Q (.int (a ^ b.toNat)) := by show Ok (if _ then _ else _) Q ↔ _; rw [ok_if, ok_ok]
theorem k_neg {a : Int} : Ok (negD (.int a)) Q ↔ Q (.int (-a)) := ok_ok
theorem k_lt {a b : Int} : Ok (ltD (.int a) (.int b)) Q ↔ Q (.bl (decide (a < b))) := ok_ok
theorem k_le {a b : Int} : Ok (leD (.int a) (.int b)) Q ↔ Q (.bl (decide (a ≤ b))) := ok_ok
theorem k_gt {a b : Int} : Ok (gtD (.int a) (.int b)) Q ↔ Q (.bl (decide (b < a))) := ok_ok
theorem k_ge {a b : Int} : Ok (geD (.int a) (.int b)) Q ↔ Q (.bl (decide (b ≤ a))) := ok_ok
theorem k_eqI {a b : Int} : Ok (eqD (.int a) (.int b)) Q ↔ Q (.bl (decide (a = b))) := by
  have e : eqD (.int a) (.int b) = .ok (.bl (decide (a = b))) := by
    unfold eqD; simp only [dok, deq, Bool.and_self, if_true]; rfl
  rw [e, ok_ok]
theorem k_neI {a b : Int} : Ok (neD (.int a) (.int b)) Q ↔ Q (.bl (!decide (a = b))) := by
  have e : neD (.int a) (.int b) = .ok (.bl (!decide (a = b))) := by
    unfold neD; simp only [dok, deq, Bool.and_self, if_true]; rfl
  rw [e, ok_ok]
theorem k_int {a : Int} : Ok (intD (.int a)) Q ↔ Q (.int a) := ok_ok
theorem k_intB {b : Bool} : Ok (intD (.bl b)) Q ↔ Q (.int (if b then 1 else 0)) := ok_ok
theorem k_abs {a : Int} : Ok (absD (.int a)) Q ↔ Q (.int (if a < 0 then -a else a)) := ok_ok
theorem k_lenL {a : List D} : Ok (lenD (.lst a)) Q ↔ Q (.int a.length) := ok_ok
theorem k_lenT {a : List D} : Ok (lenD (.tup a)) Q ↔ Q (.int a.length) := ok_ok
theorem k_lenC {a : List Int} : Ok (lenD (.scr a)) Q ↔ Q (.int a.length) := ok_ok
theorem k_tru {b : Bool} : Ok (truD (.bl b)) QB ↔ QB b := ok_ok
theorem k_tupL {a : List D} : Ok (tupD (.lst a)) Q ↔ Q (.tup a) := ok_ok
theorem k_tupT {a : List D} : Ok (tupD (.tup a)) Q ↔ Q (.tup a) := ok_ok
theorem k_fldD {ci j : Nat} {ds : List D} : Ok (fldD ci j (.obj ci ds)) Q ↔ ∃ d, ds[j]? = some d ∧ Q d := by
  show Ok (if ci = ci then _ else _) Q ↔ _
  rw [if_pos rfl]
  cases h : ds[j]? with
  | none => exact ⟨fun ⟨_, e, _⟩ => (nomatch e), fun ⟨_, e, _⟩ => (nomatch e)⟩
  | some d => exact ⟨fun q => ⟨d, rfl, ok_ok.mp q⟩, fun ⟨_, e, q⟩ => by cases e; exact ok_ok.mpr q⟩
theorem k_items_l {ds : List D} : Ok (itemsD (.lst ds)) QL ↔ QL ds := ok_ok
theorem k_items_t {ds : List D} : Ok (itemsD (.tup ds)) QL ↔ QL ds := ok_ok
theorem k_rng1 {j : Int} : Ok (rng1 [.int j]) QL ↔ (-(2 ^ 62) ≤ j ∧ j < 2 ^ 62) ∧ QL (rngL 0 j.toNat) := by show Ok (if _ then _ else _) QL ↔ _; rw [ok_if, ok_ok]
theorem k_ixL {xs : List D} {i : Int} : Ok (ixD (.lst xs) (.int i)) Q ↔ ∃ d, L2.atI xs i = some d ∧ Q d := by
  show Ok (match L2.atI xs i with | some d => .ok d | none => .fail) Q ↔ _
  cases L2.atI xs i with
  | none => exact ⟨fun ⟨_, e, _⟩ => (nomatch e), fun ⟨_, e, _⟩ => (nomatch e)⟩
  | some d => exact ⟨fun q => ⟨d, rfl, ok_ok.mp q⟩, fun ⟨_, e, q⟩ => by cases e; exact ok_ok.mpr q⟩
theorem k_ixT {xs : List D} {i : Int} : Ok (ixD (.tup xs) (.int i)) Q ↔ ∃ d, L2.atI xs i = some d ∧ Q d := by
  show Ok (match L2.atI xs i with | some d => .ok d | none => .fail) Q ↔ _
  cases L2.atI xs i with
  | none => exact ⟨fun ⟨_, e, _⟩ => (nomatch e), fun ⟨_, e, _⟩ => (nomatch e)⟩
  | some d => exact ⟨fun q => ⟨d, rfl, ok_ok.mp q⟩, fun ⟨_, e, q⟩ => by cases e; exact ok_ok.mpr q⟩
theorem k_ixC {xs : List Int} {i : Int} : Ok (ixD (.scr xs) (.int i)) Q ↔ ∃ d, L2.atI xs i = some d ∧ Q (.int d) := by
  show Ok (match L2.atI xs i with | some d => .ok (.int d) | none => .fail) Q ↔ _
  cases L2.atI xs i with
  | none => exact ⟨fun ⟨_, e, _⟩ => (nomatch e), fun ⟨_, e, _⟩ => (nomatch e)⟩
  | some d => exact ⟨fun q => ⟨d, rfl, ok_ok.mp q⟩, fun ⟨_, e, q⟩ => by cases e; exact ok_ok.mpr q⟩
end
theorem k_no {QS : Fl × Env → Prop} {S : Env} : Ok (sNo S) QS ↔ False := ok_fail
theorem k_guard {QS : Fl × Env → Prop} {S : Env} {t : FT} : Ok (sIf t sNo sNil S) QS ↔ Ok (t S) fun b => b = false ∧ QS (.nx, S) := by
  rw [k_if]
  apply iff_of_eq
  congr 1
  funext b
  cases b <;> simp [k_no, k_nil]
theorem seq_cut {QS : Fl × Env → Prop} {S : Env} {s r : FS} (P : Env → Prop) (h : Ok (s S) fun z => z.1 = .nx ∧ P z.2) (k : ∀ S', P S' → Ok (r S') QS) : Ok (sSeq s r S) QS := by
  rw [k_seq]
  refine h.mono fun z hz => ?_
  obtain ⟨fl, S'⟩ := z
  obtain ⟨rfl, hp⟩ := hz
  exact k S' hp
theorem mul_r {i j : Int} (h1 : -(2 ^ 64) < j) (h2 : j < 2 ^ 64) : CMul i j ∨ CMulX i j := .inl (.inr ⟨h1, h2⟩)
theorem mul_l {i j : Int} (h1 : -(2 ^ 64) < i) (h2 : i < 2 ^ 64) : CMul i j ∨ CMulX i j := .inl (.inl ⟨h1, h2⟩)
theorem div_c {i j : Int} (h1 : 0 < j) (h2 : j < 1073741824) : CDiv i j := ⟨h1, h2⟩
theorem atI_mem {α : Type} {xs : List α} {i : Int} {a : α} (h : L2.atI xs i = some a) : a ∈ xs := by
  unfold L2.atI at h
  cases e : ixN xs.length i with
  | none => rw [e] at h; cases h
  | some n => rw [e] at h; exact List.mem_of_getElem? h
theorem atI_lt {α : Type} {xs : List α} {i : Int} (h0 : 0 ≤ i) (h : i < xs.length) : ∃ a, L2.atI xs i = some a := by
  have hi : i.toNat < xs.length := by omega
  refine ⟨xs[i.toNat], ?_⟩
  unfold L2.atI ixN
  rw [if_pos h0, if_pos h]
  exact List.getElem?_eq_getElem hi
theorem rngL_get {lo : Int} {n i : Nat} {d : D} (h : (rngL lo n)[i]? = some d) : i < n ∧ d = .int (lo + i) := by
  unfold rngL at h
  rw [List.getElem?_map] at h
  by_cases hi : i < n
  · rw [List.getElem?_range hi] at h
    cases h
    exact ⟨hi, rfl⟩
  · rw [List.getElem?_eq_none (by simp; omega)] at h
    cases h
theorem rngL_len {lo : Int} {n : Nat} : (rngL lo n).length = n := by unfold rngL; simp
theorem size_ge : (1048576 : Nat) ≤ sizeLine := by decide
end M
namespace M
open PySem L2
theorem lc_typed {α : Type} {ga : FG} {t : FT} {fe : FE} {S : Env} (f : α → D) (p : α → Bool) (g : α → D) : ∀ (xs : List α), (∀ x ∈ xs, Ok (ga (f x) S) fun S1 => Ok (t S1) fun b => b = p x ∧ (p x = true → Ok (fe S1) fun y => y = g x)) → lcF ga t fe S (xs.map f) = .ok ((xs.filter p).map g)
  | [], _ => rfl
  | x :: xs, h => by
    have ih := lc_typed f p g xs fun y hy => h y (List.mem_cons_of_mem _ hy)
    obtain ⟨S1, e1, b, e2, rfl, k⟩ := h x (List.mem_cons_self ..)
    show ((ga (f x) S).nox >>= fun S1 => (t S1).nox >>= fun b => if b then (fe S1).nox >>= fun y => lcF ga t fe S (xs.map f) >>= fun ys => .ok (y :: ys) else lcF ga t fe S (xs.map f)) = _
    rw [e1, R.nox_ok, R.ok_bind, e2, R.nox_ok, R.ok_bind, ih]
    by_cases hp : p x = true
    · obtain ⟨y, e3, rfl⟩ := k hp
      rw [if_pos hp, e3, R.nox_ok, R.ok_bind, R.ok_bind, List.filter_cons_of_pos hp, List.map_cons]
    · rw [if_neg hp, List.filter_cons_of_neg hp]
theorem k_lc {fi : FI} {ga : FG} {t : FT} {fe : FE} {vs : List Nat} {S : Env} {Q : D → Prop} : Ok (lcE fi ga t fe vs S) Q ↔ Ok (fi S) fun ds => ds.length ≤ sizeLine ∧ Ok (lcF ga t fe (wipeS S vs) ds) fun ys => Q (.lst ys) := by
  unfold lcE; simp only [ok_bind, ok_if, ok_ok]
theorem k_lcT {α : Type} {fi : FI} {ga : FG} {t : FT} {fe : FE} {vs : List Nat} {S : Env} {Q : D → Prop} (f : α → D) (p : α → Bool) (g : α → D) (xs : List α) (hi : Ok (fi S) fun ds => ds = xs.map f) (hl : xs.length ≤ sizeLine)
    (h : ∀ x ∈ xs, Ok (ga (f x) (wipeS S vs)) fun S1 => Ok (t S1) fun b => b = p x ∧ (p x = true → Ok (fe S1) fun y => y = g x)) (q : Q (.lst ((xs.filter p).map g))) : Ok (lcE fi ga t fe vs S) Q := by
  rw [k_lc]
  obtain ⟨ds, e, rfl⟩ := hi
  refine ⟨_, e, by rwa [List.length_map], ?_⟩
  rw [lc_typed f p g xs h, ok_ok]
  exact q
theorem filter_true {α : Type} {p : α → Bool} : ∀ {xs : List α}, (∀ x ∈ xs, p x = true) → xs.filter p = xs
  | [], _ => rfl
  | x :: xs, h => by rw [List.filter_cons_of_pos (h x (List.mem_cons_self ..)), filter_true fun y hy => h y (List.mem_cons_of_mem _ hy)]
theorem k_lcM {α : Type} {fi : FI} {ga : FG} {fe : FE} {vs : List Nat} {S : Env} {Q : D → Prop} (f : α → D) (g : α → D) (xs : List α) (hi : Ok (fi S) fun ds => ds = xs.map f) (hl : xs.length ≤ sizeLine)
    (h : ∀ x ∈ xs, Ok (ga (f x) (wipeS S vs)) fun S1 => Ok (fe S1) fun y => y = g x) (q : Q (.lst (xs.map g))) : Ok (lcE fi ga tY fe vs S) Q := by
  refine k_lcT f (fun _ => true) g xs hi hl (fun x hx => (h x hx).mono fun S1 h1 => ok_ok.mpr ⟨rfl, fun _ => h1⟩) ?_
  rw [filter_true fun _ _ => rfl]
  exact q
theorem asB_mapf {α : Type} (f : α → Bool) : ∀ xs : List α, asB (xs.map fun x => .bl (f x)) = some (xs.map f)
  | [] => rfl
  | x :: xs => by simp only [List.map_cons, asB, asB_mapf f xs, Option.map_some]
theorem asI_mapf {α : Type} (f : α → Int) : ∀ xs : List α, asI (xs.map fun x => .int (f x)) = some (xs.map f)
  | [] => rfl
  | x :: xs => by simp only [List.map_cons, asI, asI_mapf f xs, Option.map_some]
theorem k_any {α : Type} (f : α → Bool) (xs : List α) {Q : D → Prop} : Ok (anyD (.lst (xs.map fun x => .bl (f x)))) Q ↔ Q (.bl (xs.any f)) := by
  have e : anyD (.lst (xs.map fun x => .bl (f x))) = .ok (.bl (xs.any f)) := by
    simp only [anyD, asB_mapf]
    rw [List.any_map]; rfl
  rw [e, ok_ok]
theorem k_sum {α : Type} (f : α → Int) (xs : List α) {Q : D → Prop} : Ok (sumD (.lst (xs.map fun x => .int (f x)))) Q ↔ Q (.int (xs.map f).sum) := by
  have e : sumD (.lst (xs.map fun x => .int (f x))) = .ok (.int (xs.map f).sum) := by simp only [sumD, asI_mapf]
  rw [e, ok_ok]
theorem k_maxc {α : Type} (f : α → Int) (n : Int) (xs : List α) {Q : D → Prop} : Ok (maxD (.lst (.int n :: xs.map fun x => .int (f x)))) Q ↔ Q (.int (maxL (n :: xs.map f))) := by
  have e : maxD (.lst (.int n :: xs.map fun x => .int (f x))) = .ok (.int (maxL (n :: xs.map f))) := by
    unfold maxD
    simp only [asI, asI_mapf, Option.map_some]
  rw [e, ok_ok]
theorem for_typed {α : Type} {ga : FG} {s : FS} {QS : Fl × Env → Prop} (f : α → D) (P : List α → Env → Prop) (xs : List α) (S : Env) (h0 : P [] S)
    (h : ∀ (done : List α) (x : α) (rest : List α) (S : Env), xs = done ++ x :: rest → P done S → Ok (ga (f x) S) fun S1 => Ok (s S1) fun z => match z.1 with
      | .nx => P (done ++ [x]) z.2
      | .ct => P (done ++ [x]) z.2
      | .bk => QS (.nx, z.2)
      | .rt d => QS (.rt d, z.2)) (q : ∀ S, P xs S → QS (.nx, S)) : Ok (forF ga s (xs.map f) S) QS := by
  suffices H : ∀ (rest done : List α) (S : Env), xs = done ++ rest → P done S → Ok (forF ga s (rest.map f) S) QS from H xs [] S rfl h0
  intro rest
  induction rest with
  | nil => intro done S e hp; rw [List.append_nil] at e; subst e; exact ok_ok.mpr (q S hp)
  | cons x rest ih =>
    intro done S e hp
    rw [List.map_cons, k_fcons]
    refine (h done x rest S e hp).mono fun S1 h1 => h1.mono fun z hz => ?_
    obtain ⟨fl, S'⟩ := z
    have e' : xs = (done ++ [x]) ++ rest := by rw [e]; simp
    cases fl with
    | nx => exact ih (done ++ [x]) S' e' hz
    | ct => exact ih (done ++ [x]) S' e' hz
    | bk => exact hz
    | rt d => exact hz
end M
set_option Elab.async false
set_option linter.all false
set_option maxRecDepth 100000
set_option maxHeartbeats 4000000
namespace M
open PySem L2
def isStrD : D → Bool
  | .str _ => true
  | _ => false
def okCD (ds : List D) : Bool := decide (ds.length < 2) || (decide (3 < ds.length) || ds.all isStrD)
mutual
def dB (K : PySem.W.Frag) : D → Value → Bool
  | .non, .none => true
  | .bl b, .bool c => b == c
  | .int i, .int j _ => decide (i = j)
  | .str x, .str y _ => decide (x = y)
  | .tup ds, .ref a => (match K.lookup a with
    | some ⟨.type c, _, .seq its _, _⟩ => decide (c = "tuple") && (decide (its.size ≤ sizeLine) && (okCD ds && dsB K ds its.toList))
    | _ => false)
  | _, _ => false
termination_by structural d => d
def dsB (K : PySem.W.Frag) : List D → List Value → Bool
  | [], [] => true
  | d :: ds, u :: us => dB K d u && dsB K ds us
  | _, _ => false
termination_by structural ds => ds
end
theorem okCD_ok {k : Kn} {G : Hp} {ds : List D} {vs : List V} (r : RDs k G ds vs) (h : okCD ds = true) : okC vs = true := by
  have e : ∀ {ds : List D} {vs : List V}, RDs k G ds vs → ds.all isStrD = true → (vs.all fun x => match x with | .str _ => true | _ => false) = true := by
    intro ds vs r h
    induction ds generalizing vs with
    | nil => cases r; rfl
    | cons d ds ih =>
      cases r with
      | cons a b =>
        rw [List.all_cons, Bool.and_eq_true] at h
        rw [List.all_cons, ih b h.2, Bool.and_true]
        have h1 := h.1
        unfold isStrD at h1
        split at h1
        · cases a; rfl
        · cases h1
  unfold okCD at h
  unfold okC
  rw [← r.length]
  simp only [Bool.or_eq_true, decide_eq_true_eq] at h ⊢
  rcases h with h | h | h
  · exact .inl h
  · exact .inr (.inl h)
  · exact .inr (.inr (e r h))
section
variable {K : PySem.W.Frag} {cl : Nat → Option (Addr × List Str)}
mutual
theorem dB_ok : ∀ {d : D} {u : Value}, dB K d u = true → ∃ v, RelV v u ∧ ∀ G, RD ⟨K, cl⟩ G d v
  | .non, .none, _ => ⟨.non, rfl, fun _ => .non⟩
  | .bl b, .bool c, h => by simp only [dB, beq_iff_eq] at h; subst h; exact ⟨.bl b, rfl, fun _ => .bl _⟩
  | .int i, .int j t, h => by simp only [dB, decide_eq_true_eq] at h; subst h; exact ⟨.int i, ⟨t, rfl⟩, fun _ => .int _⟩
  | .str x, .str y t, h => by simp only [dB, decide_eq_true_eq] at h; subst h; exact ⟨.str x, ⟨t, rfl⟩, fun _ => .str _⟩
  | .tup ds, .ref a, h => by
    simp only [dB] at h
    split at h
    · rename_i c od its n sl e
      simp only [Bool.and_eq_true, decide_eq_true_eq] at h
      obtain ⟨h1, h2, h4, h3⟩ := h
      obtain ⟨vs, r1, r2⟩ := dsB_ok h3
      exact ⟨.ref a, rfl, fun G => .tup (.inr ⟨_, its, n, e, congrArg Value.type h1, rfl, h2, r1, okCD_ok (r2 G) h4⟩) (r2 G)⟩
    · cases h
theorem dsB_ok : ∀ {ds : List D} {us : List Value}, dsB K ds us = true → ∃ vs, Vals vs us ∧ ∀ G, RDs ⟨K, cl⟩ G ds vs
  | [], [], _ => ⟨[], .nil, fun _ => .nil⟩
  | d :: ds, u :: us, h => by
    simp only [dsB, Bool.and_eq_true] at h
    obtain ⟨v, r1, r2⟩ := dB_ok h.1
    obtain ⟨vs, q1, q2⟩ := dsB_ok h.2
    exact ⟨v :: vs, .cons r1 q1, fun G => .cons (r2 G) (q2 G)⟩
end
end
def gB (K : PySem.W.Frag) (q : Str × D) : Bool := match PySem.W.nsIn K mainGlobals q.1 with
  | some (some u) => dB K q.2 u
  | _ => false
theorem gB_ok {K : PySem.W.Frag} {h : Heap} {mg : Str → Option Value} {cl : Nat → Option (Addr × List Str)} {x : Str} {d : D} (X : K.In h) (G : h.Ns mainGlobals mg) (c : gB K (x, d) = true) : Gc mg ⟨K, cl⟩ x d := by
  unfold gB at c
  split at c
  · rename_i u e
    obtain ⟨v, r1, r2⟩ := dB_ok (cl := cl) c
    exact ⟨v, u, PySem.W.mg_of X G e, r1, r2⟩
  · cases c
theorem gcls_ok {K : PySem.W.Frag} {mg : Str → Option Value} {cl : Nat → Option (Addr × List Str)} {x : Str} {ci : Nat} {C : Addr} {nm : List Str} (h : mg x = some (.ref C)) (hc : cl ci = some (C, nm)) : Gc mg ⟨K, cl⟩ x (.cls ci) :=
  ⟨.ref C, .ref C, h, rfl, fun _ => .cls hc⟩
def tyB (K : PySem.W.Frag) (x : Str) : Bool := He.eqO (PySem.W.findIn K (.ref (He.ga K x)) "__class__") (some (some (.builtin "object.__class__"))) && (He.eqO (PySem.W.specialIn K (.builtin "object.__class__") "__get__") (some (some (.builtin "getset_descriptor.__get__"))) &&
  (decide (PySem.W.takesIn K (.builtin "object.__class__") = some true) && decide (PySem.W.mroIn K (He.ga K x) (.type "object") = some true)))
structure Fx where
  fa : List He.Fa
  gs : List (Str × D)
  ts : List Str
def Fx.ok (x : Fx) (K : PySem.W.Frag) : Bool := (x.fa.all fun f => f.ok K) && ((x.gs.all fun g => gB K g) && x.ts.all fun t => tyB K t)
def obsX (x : Fx) (fn : List He.DefD) (K : PySem.W.Frag) : He.AlD := (x.ok K && fn.all fun d => d.ok K, fn.map fun d => He.fnW K d.at_)
def SaysX (x : Fx) (fn : List He.DefD) (K : PySem.W.Frag) : Prop := obsX x fn K = He.valD fn
section
variable {x : Fx} {fn : List He.DefD} {K : PySem.W.Frag}
theorem SaysX.ok (c : SaysX x fn K) : x.ok K = true := (He.ba (show (x.ok K && fn.all fun d => d.ok K) = true from congrArg (fun z : He.AlD => z.1) c)).1
theorem SaysX.fact (c : SaysX x fn K) (i : Nat) {f : He.Fa} (h : x.fa[i]? = some f := by rfl) : f.ok K = true := List.all_eq_true.mp (He.ba c.ok).1 f (List.mem_of_getElem? h)
theorem SaysX.gc (c : SaysX x fn K) (i : Nat) {f : Str × D} (h : x.gs[i]? = some f := by rfl) : gB K f = true := List.all_eq_true.mp (He.ba (He.ba c.ok).2).1 f (List.mem_of_getElem? h)
theorem SaysX.ty (c : SaysX x fn K) (i : Nat) {f : Str} (h : x.ts[i]? = some f := by rfl) : tyB K f = true := List.all_eq_true.mp (He.ba (He.ba c.ok).2).2 f (List.mem_of_getElem? h)
theorem SaysX.def_ (c : SaysX x fn K) (i : Nat) {d : He.DefD} (h : fn[i]? = some d := by rfl) : ∃ fd, FunD K d.name d.qual d.params d.body d.scope (d.dvs K) (d.kws K) (He.fAd K d.at_) fd := by
  have c2 := (He.ba (show (x.ok K && fn.all fun d => d.ok K) = true from congrArg (fun z : He.AlD => z.1) c)).2
  have e : fn.map (fun d => He.fnW K d.at_) = fn.map He.DefD.val := congrArg (fun z : He.AlD => z.2) c
  have e2 : (fn.map fun d => He.fnW K d.at_)[i]? = (fn.map He.DefD.val)[i]? := by rw [e]
  rw [List.getElem?_map, List.getElem?_map, h] at e2
  exact He.DefD.funD (Option.some.inj e2) (List.all_eq_true.mp c2 d (List.mem_of_getElem? h))
end
theorem walk_ofX {l : PySem.W.OpenLaw} {n k : Nat} {q : Program} {loose : List Str} {XP : (Str → Option Value) → Heap → Prop} {YP : World → Heap → Prop} {d : DefRec} {x : Str} {den : List D → R D}
    (hn : l.most = some n) (hn2 : n ≤ sizeLine) (hdf : d.params.defaults = []) (hr : Room k callerA)
    (F : ∀ (w : World) (mg : Str → Option Value) (fa : Addr) (h : Heap), YP w h → h.Ns mainGlobals mg → mg d.name = some (.ref fa) →
      ∃ (K : PySem.W.Frag) (fd : FuncData) (cl : Nat → Option (Addr × List Str)), K.In h ∧ (∀ (s : Shared) (u : Value), BindsTo s fd ⟨[u], []⟩ [(x, u)]) ∧
        ∀ base : Heap, K.In base → base.Ns mainGlobals mg → FnOk l.prog w K mg base CX0 k fa fd [x] (SpF ⟨K, cl⟩ false 1 den))
    (pure_ : ∀ ns : List Int, ns.length ≤ n → (∀ z ∈ ns, Builtin.Int.intBits z ≤ 1048576) → den [.scr ns] = .ok (.bl true)) :
    PySem.W.WalkO q loose XP YP l.row.toRowW d [] (fun f vs => PySem.call f vs) := by
  refine Att.attach_callB hn hdf fun w s₀ s₁ mg mb fa o pm cd doc a vs ns G Y ho hd hcd hmg hobj hints hlen hbits hg => ?_
  obtain ⟨K, fd, cl, KX, hb, hF⟩ := F w mg fa _ Y G.T.g hmg
  refine law_call KX G.T.g G.T.b G.T.builtins G.T.nolimit hg hobj hints (Nat.le_trans hlen hn2) hr hF hb (fun H hO hS => ?_) fun H e s' z => z
  refine ⟨rfl, H, [.scr ns], Ex.refl H, .cons (.scr hS) .nil, ?_⟩
  rw [pure_ ns hlen hbits]
  intro v G' H' s r
  have r : RD ⟨K, cl⟩ G' (.bl true) v := r
  cases r
  rfl
end M
set_option Elab.async false
set_option linter.all false
set_option maxRecDepth 100000
set_option maxHeartbeats 4000000
namespace M
open PySem L2
inductive Wh where
  | glo (x : Str) | met (C m : Str) | pro (C m : Str) | cme (C m : Str)
def innA (K : PySem.W.Frag) (T : String) (p : Addr) : Addr := match PySem.W.recIn K p T with
  | some (.ref g :: _) => g
  | _ => 0
def Wh.ad (K : PySem.W.Frag) : Wh → Addr
  | .glo x => He.ga K x
  | .met C m => He.ma K (He.ga K C) m
  | .pro C m => innA K "property" (He.ma K (He.ga K C) m)
  | .cme C m => He5.wf K (He.ga K C) "classmethod" m
structure Dx where
  w : Wh
  d : He.DefD
def seenF : FuncData → He.FnW := fun z => some (z.name, z.qualname, z.params, z.body, z.scope, z.globals, z.closure, z.builtins)
def Dx.look (K : PySem.W.Frag) (x : Dx) : Option FuncData := (K.lookup (x.w.ad K)).bind fun o => match o.data with
  | .func z => some z
  | _ => none
def Dx.seen (K : PySem.W.Frag) (x : Dx) : He.FnW := (x.look K).bind seenF
def Dx.good (K : PySem.W.Frag) (x : Dx) : Bool := PySem.W.keepIn K (.ref (x.w.ad K)) && ((x.look K).map fun z => PySem.W.codeIn K z.code x.d.qual && (He.dflB K z.defaults (x.d.dvs K) && He.kwdB K z.kwdefaults (x.d.kws K))).getD false
theorem Dx.fund {K : PySem.W.Frag} {x : Dx} (e : x.seen K = x.d.val) (c : x.good K = true) : ∃ z, FunD K x.d.name x.d.qual x.d.params x.d.body x.d.scope (x.d.dvs K) (x.d.kws K) (x.w.ad K) z := by
  obtain ⟨kp, c2⟩ := He.ba c
  cases hl : x.look K with
  | none => rw [hl] at c2; cases c2
  | some z =>
    rw [hl] at c2
    have c3 : (PySem.W.codeIn K z.code x.d.qual && (He.dflB K z.defaults (x.d.dvs K) && He.kwdB K z.kwdefaults (x.d.kws K))) = true := c2
    have e2 : seenF z = x.d.val := by
      unfold Dx.seen at e
      rw [hl] at e
      exact e
    obtain ⟨a1, a2⟩ := He.ba c3
    obtain ⟨a3, a4⟩ := He.ba a2
    have hk : ∃ oc od osl, K.lookup (x.w.ad K) = some ⟨oc, od, .func z, osl⟩ := by
      unfold Dx.look at hl
      cases q : K.lookup (x.w.ad K) with
      | none => rw [q] at hl; cases hl
      | some o =>
        rw [q] at hl
        obtain ⟨oc, od, dt, osl⟩ := o
        cases dt with
        | func y => cases hl; exact ⟨oc, od, osl, rfl⟩
        | _ => cases hl
    obtain ⟨oc, od, osl, hk⟩ := hk
    obtain ⟨y1, y2, y3, y4, y5, y6, y7, y8, y9, y10, y11, y12, y13, y14, y15⟩ := z
    simp only [seenF, He.DefD.val, Option.some.injEq, Prod.mk.injEq] at e2
    obtain ⟨b1, b2, b3, b4, b5, b6, b7, b8⟩ := e2
    subst b1 b2 b3 b4 b5 b6 b7 b8
    exact ⟨_, ⟨oc, od, y8, y9, y10, y11, y12, y13, y14, osl, rfl, hk, a1, He.dflB_ok a3, He.kwdB_ok a4⟩, kp⟩
def proB (K : PySem.W.Frag) (q : Str × Str) : Bool :=
  He.eqO (PySem.W.findIn K (.ref (He.ga K q.1)) q.2) (some (some (.ref (He.ma K (He.ga K q.1) q.2)))) && (He.eqO (PySem.W.specialIn K (.ref (He.ma K (He.ga K q.1) q.2)) "__get__") (some (some (.builtin "property.__get__"))) &&
    (decide (PySem.W.takesIn K (.ref (He.ma K (He.ga K q.1) q.2)) = some true) && (match PySem.W.recIn K (He.ma K (He.ga K q.1) q.2) "property" with | some (.ref _ :: _) => true | _ => false)))
structure Fy where
  fa : List He.Fa
  gs : List (Str × D)
  ts : List Str
  ps : List (Str × Str)
def Fy.ok (x : Fy) (K : PySem.W.Frag) : Bool := (x.fa.all fun f => f.ok K) && ((x.gs.all fun g => gB K g) && ((x.ts.all fun t => tyB K t) && x.ps.all fun p => proB K p))
def obsY (x : Fy) (fn : List Dx) (K : PySem.W.Frag) : He.AlD := (x.ok K && fn.all fun d => d.good K, fn.map fun d => d.seen K)
def valY (fn : List Dx) : He.AlD := (true, fn.map fun d => d.d.val)
def SaysY (x : Fy) (fn : List Dx) (K : PySem.W.Frag) : Prop := obsY x fn K = valY fn
section
variable {x : Fy} {fn : List Dx} {K : PySem.W.Frag}
theorem SaysY.both (c : SaysY x fn K) : (x.ok K && fn.all fun d => d.good K) = true := congrArg Prod.fst c
theorem SaysY.ok (c : SaysY x fn K) : x.ok K = true := (He.ba c.both).1
theorem SaysY.fact (c : SaysY x fn K) (i : Nat) {f : He.Fa} (h : x.fa[i]? = some f := by rfl) : f.ok K = true := List.all_eq_true.mp (He.ba c.ok).1 f (List.mem_of_getElem? h)
theorem SaysY.gc (c : SaysY x fn K) (i : Nat) {f : Str × D} (h : x.gs[i]? = some f := by rfl) : gB K f = true := List.all_eq_true.mp (He.ba (He.ba c.ok).2).1 f (List.mem_of_getElem? h)
theorem SaysY.ty (c : SaysY x fn K) (i : Nat) {f : Str} (h : x.ts[i]? = some f := by rfl) : tyB K f = true := List.all_eq_true.mp (He.ba (He.ba (He.ba c.ok).2).2).1 f (List.mem_of_getElem? h)
theorem SaysY.def_ (c : SaysY x fn K) (i : Nat) {d : Dx} (h : fn[i]? = some d := by rfl) : ∃ z, FunD K d.d.name d.d.qual d.d.params d.d.body d.d.scope (d.d.dvs K) (d.d.kws K) (d.w.ad K) z := by
  have e : fn.map (fun d => d.seen K) = fn.map fun d => d.d.val := congrArg Prod.snd c
  have e2 := congrArg (fun l : List He.FnW => l[i]?) e
  simp only [List.getElem?_map, h, Option.map_some, Option.some.injEq] at e2
  exact Dx.fund e2 (List.all_eq_true.mp (He.ba c.both).2 d (List.mem_of_getElem? h))
end
end M
set_option Elab.async false
set_option linter.all false
set_option maxRecDepth 100000
set_option maxHeartbeats 4000000
namespace M
open PySem L2
def isS : D → Bool
  | .str _ => true
  | _ => false
def eM1 (o : D → D → R D) (f g : FE) : FE := fun S => do
  let x ← f S
  if isS x then do
    let y ← g S
    (o x y).nox
  else .fail
section
variable {X : Cx} {c : Cf} {kd k1 k2 : Kd} {a b e o : Expr} {f g : FE} {pos apos : Pos} {k : Kn}
theorem isS_of {G H : Hp} {d : D} {v : V} (h : isS d = true) (n : Now k G H d v) : ∃ x, d = .str x ∧ v = .str x := by
  cases d with
  | str x => exact ⟨x, rfl, n.str⟩
  | _ => simp [isS] at h
theorem eM1_go {op : D → D → R D} {r : V → List V → Hp → VK → Prop} {σ : St} {H : Hp} {Q : VK} (hr : ∀ G H x y v d, Ex G H → Now c.k G H y v → op (.str x) y = .ok d → ∀ Q : VK, (∀ w G' H', Step G H G' H' → Res c.k H G' H' d w kd → Q w H') → r (.str x) [v] H Q)
    (q : RdE c kd (eM1 op f g) σ H Q) : tM1 r (RdE c k1 f) (RdE c k2 g) σ H Q := by
  obtain ⟨G, S, rel, p⟩ := q
  refine rdE_go (g := fun x => if isS x then (g S >>= fun y => (op x y).nox) else .fail) (Post := PostE c kd G S σ H Q) rel p (fun _ z => z) (fun z => z) fun d1 v1 G1 H1 s1 q1 p1 => ?_
  by_cases hs : isS d1 = true
  · rw [if_pos hs] at p1
    obtain ⟨x, rfl, rfl⟩ := isS_of hs q1.now
    refine ⟨⟨x, rfl⟩, ?_⟩
    refine rdE_go (g := fun y => (op (.str x) y).nox) (Post := PostE c kd G S σ H Q) (rel.grow s1) p1 (fun _ z => z) (fun z => z) fun d2 v2 G2 H2 s2 q2 p2 => ?_
    cases e : op (.str x) d2 with
    | ok d =>
      rw [e] at p2
      exact hr G2 H2 x d2 v2 d s2.gh q2.now e Q fun w G3 H3 s3 q3 => p2 w G3 H3 ((s1.trans s2).trans s3) (q3.mono (s1.h.trans s2.h))
    | exc x => rw [e] at p2; exact p2.elim
    | fail => rw [e] at p2; exact p2.elim
  · rw [if_neg hs] at p1; exact p1.elim
def joinD : D → D → R D
  | .str a, .lst ds => (match asS ds with
    | some ys => if (ys.map (·.length)).sum + ys.length * a.length ≤ 16777216 then .ok (.str (Txt.join a ys)) else .fail
    | none => .fail)
  | .str a, .tup ds => (match asS ds with
    | some ys => if (ys.map (·.length)).sum + ys.length * a.length ≤ 16777216 then .ok (.str (Txt.join a ys)) else .fail
    | none => .fail)
  | _, _ => .fail
theorem d_join (hk : c.k.K = X.K) (ho : PE' X c k1 o f) (he : PE' X c k2 e g) (hs : starEach [e] X.env = [(false, eval e X.env)] := by rfl) (hbase : attributeBase o "join" X.env (eval o X.env) = eval o X.env := by rfl) (hline : (apos.endLine == pos.line) = true := by rfl) :
    PE' X c .st (.Call (.Attribute o "join" apos) [e] [] pos) (eM1 joinD f g) :=
  peI (pe_join ho he hs hbase hline) fun σ H Q q => eM1_go (fun G H x y v d ex n hg Q p => by
    cases y with
    | lst ds =>
      simp only [joinD] at hg
      split at hg
      · rename_i ys hy
        split at hg
        · rename_i hl
          cases hg
          obtain ⟨a, vs, rfl, ha, r⟩ := n.lst ex
          have := asS_of r hy; subst this
          exact ⟨x, a, ys, rfl, rfl, .inl (SqL.of ha), hl, p _ G H (Step.refl ex) (.str _)⟩
        · cases hg
      · cases hg
    | tup ds =>
      simp only [joinD] at hg
      split at hg
      · rename_i ys hy
        split at hg
        · rename_i hl
          cases hg
          obtain ⟨a, vs, rfl, ha, r⟩ := n.tup
          have := asS_of r hy; subst this
          exact ⟨x, a, ys, rfl, rfl, .inr (hk ▸ ex.sqT ha.t), hl, p _ G H (Step.refl ex) (.str _)⟩
        · cases hg
      · cases hg
    | _ => simp [joinD] at hg) q
end
end M
namespace M
open PySem L2
section
variable {X : Cx} {c : Cf} {k1 k2 : Kd} {a b e : Expr} {f g : FE} {pos p p2 pos2 : Pos} {k : Kn}
instance (a b : Int) : Decidable (RgOk a b) := by unfold RgOk; infer_instance
abbrev FRg := Env → R (Int × Int)
def rg1 (f : FE) : FRg := fun S => f S >>= fun x => match x with | .int n => .ok (0, n) | _ => .fail
def PostRg (c : Cf) (G : Hp) (S : Env) (σ : St) (H : Hp) (Q : Int → Int → Hp → Prop) : R (Int × Int) → Prop
  | .ok (i, j) => ∀ G' H', Step G H G' H' → Q i j H'
  | .exc x => PX c σ x
  | .fail => False
def RdRg (c : Cf) (r : FRg) : St → Hp → (Int → Int → Hp → Prop) → Prop := fun σ H Q => ∃ G S, Rel c G S σ H ∧ PostRg c G S σ H Q (r S)
theorem prgI {t t' : St → Hp → (Int → Int → Hp → Prop) → Prop} (h : PRg X e t) (i : ∀ σ H Q, t' σ H Q → t σ H Q) : PRg X e t' := fun pins s σ H Q I q => h pins s σ H Q I (i σ H Q q)
theorem d_rg1 (hm : X.mg "range" = none) (ha : PE' X c k1 a f) (hg : Gl X "range" := by rfl) (na : starEach [a] X.env = (false, eval a X.env) :: starEach [] X.env := by rfl) : PRg X (.Call (.Name "range" p) [a] [] pos) (RdRg c (rg1 f)) :=
  prgI (prg_1 hg hm ha na) fun σ H Q ⟨G, S, rel, q⟩ => by
    refine rdE_go (g := fun x => match x with | .int n => .ok ((0 : Int), n) | _ => .fail) (Post := PostRg c G S σ H Q) rel q (fun _ z => z) (fun z => z) fun d v G' H' s r p1 => ?_
    cases d with
    | int n => exact ⟨n, r.now.int, p1 G' H' s⟩
    | _ => exact p1.elim
def rgD (a b : Int) : List D := (List.range (b - a).toNat).map fun (i : Nat) => .int (a + i)
theorem RDs.rg {G : Hp} (a b : Int) : RDs k G (rgD a b) (rgV a b) := by
  unfold rgD rgV
  induction (List.range (b - a).toNat) with
  | nil => exact .nil
  | cons x xs ih => exact .cons (.int _) ih
def eLstRg (r : FRg) : FE := fun S => r S >>= fun z => if RgOk z.1 z.2 then .ok (.lst (rgD z.1 z.2)) else .fail
def eTupRg (r : FRg) : FE := fun S => r S >>= fun z => if RgOk z.1 z.2 then .ok (.tup (rgD z.1 z.2)) else .fail
theorem d_lstRg {r : FRg} (hc : X.calm = true) (hm : X.mg "list" = none) (he : PRg X e (RdRg c r)) (hg : Gl X "list" := by rfl) (na : starEach [e] X.env = (false, eval e X.env) :: starEach [] X.env := by rfl) : PE' X c .fr (.Call (.Name "list" p) [e] [] pos) (eLstRg r) :=
  peI (pe_listRg hc hg hm he na) fun σ H Q ⟨G, S, rel, q⟩ => by
    refine ⟨G, S, rel, ?_⟩
    have q : PostE c .fr G S σ H Q (r S >>= fun z => if RgOk z.1 z.2 then .ok (.lst (rgD z.1 z.2)) else .fail) := q
    cases e1 : r S with
    | exc x => rw [e1] at q; exact q
    | fail => rw [e1] at q; exact q
    | ok z =>
      rw [e1, R.ok_bind] at q
      intro G' H' s
      by_cases hl : RgOk z.1 z.2
      · rw [if_pos hl] at q
        exact ⟨hl, fun w hw => q _ G' _ (s.trans (Step.new' s.gh hw)) ⟨w, _, rfl, s.gh.free hw, s.h.free hw, upd_same, .lst (RDs.rg _ _)⟩⟩
      · rw [if_neg hl] at q; exact q.elim
theorem d_tupRg {r : FRg} (hc : X.calm = true) (hm : X.mg "tuple" = none) (he : PRg X e (RdRg c r)) (hg : Gl X "tuple" := by rfl) (na : starEach [e] X.env = (false, eval e X.env) :: starEach [] X.env := by rfl) : PE' X c .st (.Call (.Name "tuple" p) [e] [] pos) (eTupRg r) :=
  peI (pe_tupRg hc hg hm he na) fun σ H Q ⟨G, S, rel, q⟩ => by
    refine ⟨G, S, rel, ?_⟩
    have q : PostE c .st G S σ H Q (r S >>= fun z => if RgOk z.1 z.2 then .ok (.tup (rgD z.1 z.2)) else .fail) := q
    cases e1 : r S with
    | exc x => rw [e1] at q; exact q
    | fail => rw [e1] at q; exact q
    | ok z =>
      rw [e1, R.ok_bind] at q
      intro G' H' s
      by_cases hl : RgOk z.1 z.2
      · rw [if_pos hl] at q
        exact ⟨hl, fun w hw => q _ _ _ (s.trans (Step.new s.gh hw)) (.tup (SqU.of upd_same) (RDs.rg _ _))⟩
      · rw [if_neg hl] at q; exact q.elim
end
end M
set_option Elab.async false
set_option linter.all false
set_option maxRecDepth 100000
set_option maxHeartbeats 4000000
namespace M
open PySem L2
section
variable {X : Cx} {c : Cf} {kd k1 k2 : Kd} {a b e o : Expr} {f g : FE} {pos apos cpos p : Pos} {k : Kn} {x : Str} {tab : List (Str × Int)}
theorem PostS.up {fr : Bool} {as bs : List Nat} {G H : Hp} {S : Env} {σ : St} {Dn : Ends} {r : R (Fl × Env)} (h : ∀ i, i ∈ as → i ∈ bs) (p : PostS c fr bs G S σ H Dn r) : PostS c fr as G S σ H Dn r := by
  cases r with
  | ok z =>
    obtain ⟨fl, S'⟩ := z
    cases fl with
    | nx => exact fun G' σ' H' e rel fm => p G' σ' H' e rel (fm.mono h)
    | bk => exact fun G' σ' H' e rel fm => p G' σ' H' e rel (fm.mono h)
    | ct => exact fun G' σ' H' e rel fm => p G' σ' H' e rel (fm.mono h)
    | rt d => exact fun v G2 H2 st rv ow => p v G2 H2 st rv (ow.sub h)
  | exc x => exact p
  | fail => exact p
end
end M
namespace M
open PySem L2
section
variable {X : Cx} {c : Cf} {k1 : Kd} {e : Expr} {f : FE} {pos p tp q1 q2 : Pos} {k : Kn} {x y z : Str}
end
end M
namespace M
open PySem L2
end M
namespace M
open PySem L2
end M
set_option Elab.async false
set_option linter.all false
set_option maxRecDepth 100000
set_option maxHeartbeats 4000000
namespace M
open PySem L2
abbrev TabI := Str × List (Str × Int)
def valI (K : PySem.W.Frag) (t : TabI) : Bool := t.2.all fun q => match PySem.W.nsIn K (He.ga K t.1) q.1 with
  | some (some (.int i _)) => decide (i = q.2)
  | _ => false
abbrev AlZ : Type := He.AlD × List (Option (List (Option (Str × Int))))
def obsZ (x : Fy) (ts : List TabI) (fn : List Dx) (K : PySem.W.Frag) : AlZ := (((x.ok K && ts.all fun t => valI K t) && fn.all fun d => d.good K, fn.map fun d => d.seen K), ts.map fun t => He.dicW K (He.ga K t.1))
def valZ (ts : List TabI) (fn : List Dx) (w : World) : AlZ := ((true, fn.map fun d => d.d.val), ts.map fun t => some (He.keysIn w.params (t.2.map (·.1))))
def SaysZ (x : Fy) (ts : List TabI) (fn : List Dx) (w : World) (K : PySem.W.Frag) : Prop := obsZ x ts fn K = valZ ts fn w
section
variable {x : Fy} {ts : List TabI} {fn : List Dx} {K : PySem.W.Frag} {w : World}
theorem SaysZ.all (c : SaysZ x ts fn w K) : ((x.ok K && ts.all fun t => valI K t) && fn.all fun d => d.good K) = true := congrArg (fun z : AlZ => z.1.1) c
theorem SaysZ.y (c : SaysZ x ts fn w K) : SaysY x fn K := by
  have h1 := He.ba c.all
  have e : fn.map (fun d => d.seen K) = fn.map fun d => d.d.val := congrArg (fun z : AlZ => z.1.2) c
  show (x.ok K && fn.all fun d => d.good K, fn.map fun d => d.seen K) = (true, _)
  rw [e, (He.ba h1.1).1, h1.2]; rfl
end
end M
set_option Elab.async false
set_option linter.all false
set_option maxRecDepth 100000
set_option maxHeartbeats 4000000
namespace M
open PySem L2
def keyD : D → Option Key
  | .int i => some (.inl i)
  | .str x => some (.inr x)
  | _ => none
def keysD : List D → Option (List Key)
  | [] => some []
  | d :: ds => match keyD d, keysD ds with
    | some k, some ks => some (k :: ks)
    | _, _ => none
section
variable {k : Kn} {G H : Hp}
theorem keyD_now {d : D} {v : V} {q : Key} (h : keyD d = some q) (n : Now k G H d v) : v = kV q := by
  cases d <;> simp only [keyD] at h <;> first | (cases h; done) | skip
  · cases h; exact n.int
  · cases h; exact n.str
theorem keyD_rd {d : D} {v : V} {q : Key} (h : keyD d = some q) (n : RD k G d v) : v = kV q := keyD_now (H := G) h (.inl n)
theorem keysD_rd : ∀ {ds : List D} {vs : List V} {qs : List Key}, keysD ds = some qs → RDs k G ds vs → vs = qs.map kV
  | _, _, qs, h, .nil => by cases h; rfl
  | d :: ds, _, qs, h, .cons a b => by
    simp only [keysD] at h
    split at h
    · rename_i q qs' h1 h2
      cases h
      rw [keyD_rd h1 a, keysD_rd h2 b]; rfl
    · cases h
def getL {κ : Type} [DecidableEq κ] : List κ → List D → κ → Option D
  | x :: ks, d :: ds, q => if x = q then some d else getL ks ds q
  | _, _, _ => none
def putL {κ : Type} [DecidableEq κ] (ks : List κ) (ds : List D) (q : κ) (d : D) : List κ × List D := match ks.idxOf? q with
  | some i => (ks, ds.set i d)
  | none => (ks ++ [q], ds ++ [d])
theorem getL_val {κ : Type} [DecidableEq κ] {q : κ} : ∀ {ks : List κ} {ds : List D} {vs : List V}, ks.length = ds.length → RDs k G ds vs → (∀ d, getL ks ds q = some d → ∃ v, valV (ks.zip vs) q = some v ∧ RD k G d v) ∧ (getL ks ds q = none → valV (ks.zip vs) q = none)
  | [], _, _, _, _ => ⟨(fun d h => by simp [getL] at h), fun _ => by simp [valV]⟩
  | x :: ks, [], _, h, _ => by simp at h
  | x :: ks, d :: ds, _, h, .cons a b => by
    have ih := getL_val (q := q) (ks := ks) (by simpa using h) b
    simp only [getL, List.zip_cons_cons]
    by_cases e : x = q
    · rw [if_pos e]
      exact ⟨fun d' h' => ⟨_, valV_pos e, by cases h'; exact a⟩, fun h' => by cases h'⟩
    · rw [if_neg e]
      have e2 : ∀ r : List (κ × V), ∀ v, valV ((x, v) :: r) q = valV r q := fun r v => by
        unfold valV; rw [List.find?_cons]; simp [e]
      rw [e2]; exact ih
theorem any_zip {κ : Type} [DecidableEq κ] {q : κ} : ∀ {ks : List κ} {vs : List V}, ks.length = vs.length → ((ks.zip vs).any fun kv => decide (kv.1 = q)) = (ks.idxOf? q).isSome
  | [], _, _ => by simp
  | x :: ks, [], h => by simp at h
  | x :: ks, v :: vs, h => by
    rw [List.zip_cons_cons, List.any_cons, any_zip (by simpa using h), List.idxOf?_cons]
    by_cases e : x = q
    · simp [e]
    · have : (x == q) = false := by simpa using e
      simp [e]
theorem map_zip {κ : Type} [DecidableEq κ] {q : κ} {v : V} : ∀ {ks : List κ} {vs : List V} {i : Nat}, ks.Nodup → ks.length = vs.length → ks.idxOf? q = some i → ((ks.zip vs).map fun kv => if kv.1 = q then (kv.1, v) else kv) = ks.zip (vs.set i v)
  | [], _, _, _, _, h => by simp at h
  | x :: ks, [], _, _, h, _ => by simp at h
  | x :: ks, u :: vs, i, nd, hl, h => by
    rw [List.idxOf?_cons] at h
    obtain ⟨n1, n2⟩ := List.nodup_cons.mp nd
    by_cases e : x = q
    · subst e
      simp at h
      subst h
      rw [List.zip_cons_cons, List.map_cons, if_pos rfl, List.set_cons_zero, List.zip_cons_cons]
      congr 1
      have : ∀ p ∈ ks.zip vs, (if p.1 = x then (p.1, v) else p) = p := fun p hp => by
        rw [if_neg]
        intro e
        exact n1 (by rw [← e]; exact (List.of_mem_zip hp).1)
      rw [List.map_congr_left this, List.map_id']
    · have e' : (x == q) = false := by simpa using e
      rw [e'] at h
      cases h2 : ks.idxOf? q with
      | none => rw [h2] at h; simp at h
      | some j =>
        rw [h2] at h; simp at h; subst h
        rw [List.zip_cons_cons, List.map_cons, if_neg e, List.set_cons_succ, List.zip_cons_cons, map_zip n2 (by simpa using hl) h2]
theorem putL_zip {κ : Type} [DecidableEq κ] {q : κ} {ks : List κ} {ds : List D} {d : D} {vs : List V} {v : V} (nd : ks.Nodup) (hl : ks.length = ds.length) (r : RDs k G ds vs) (rd : RD k G d v) :
    ∃ vs', putK (ks.zip vs) q v = (putL ks ds q d).1.zip vs' ∧ RDs k G (putL ks ds q d).2 vs' ∧ (putL ks ds q d).1.length = (putL ks ds q d).2.length := by
  have hv := r.length
  unfold putK putL
  rw [any_zip (by omega)]
  cases h : ks.idxOf? q with
  | none =>
    refine ⟨vs ++ [v], ?_, r.append (.cons rd .nil), by simp [hl]⟩
    rw [if_neg (by simp)]
    show _ = (ks ++ [q]).zip (vs ++ [v])
    rw [List.zip_append (by omega)]; rfl
  | some i =>
    refine ⟨vs.set i v, ?_, r.set i rd, by simp [hl]⟩
    rw [if_pos (by simp)]
    exact map_zip nd (by omega) h
end
section
variable {X : Cx} {c : Cf} {kd k1 k2 k3 : Kd} {a b e o : Expr} {f g h : FE} {pos apos cpos : Pos} {fr : Bool} {x : Str}
def isDct : D → Bool
  | .dic _ _ => true
  | .dit _ _ => true
  | _ => false
theorem d_dnewT : PE' X c .fr (.Dict [] [] pos) (fun _ => .ok (.dit [] [])) :=
  peI pe_dnewT fun σ H Q ⟨G, S, rel, p⟩ => fun q hq => p _ G _ (Step.new' rel.st.gh hq) ⟨q, _, rfl, rel.st.gh.free hq, hq, upd_same, .dit (vs := []) rfl .nil⟩
end
end M
set_option Elab.async false
set_option linter.all false
set_option maxRecDepth 100000
set_option maxHeartbeats 4000000
namespace M
open PySem L2
section
variable {X : Cx} {c : Cf} {kd k1 k2 k3 : Kd} {a b e o : Expr} {f g h : FE} {pos apos cpos : Pos} {fr : Bool} {x : Str}
def PD' (X : Cx) (c : Cf) (pos : Pos) (keys : List (Option Expr)) (values : List Expr) (ks : List Str) (fa : FA) : Prop :=
  ∃ trs, PPs X pos keys values trs ∧ ∀ σ H (Q : List (V × V) → Hp → Prop), RdA c false fa σ H (fun vs H' => vs.length = ks.length ∧ Q ((ks.map fun k => V.str k).zip vs) H') → tPairs trs σ H Q
theorem d_pn : PD' X c pos [] [] [] aN := ⟨[], pps_nil, fun σ H Q ⟨G, S, rel, p⟩ => (p [] G H (Step.refl rel.st.gh) .nil).2⟩
theorem d_pc {kx : Str} {j} {kp : Pos} {v : Expr} {keys : List (Option Expr)} {values : List Expr} {ks : List Str} {fa : FA} (hv : PE' X c .st v f) (hr : PD' X c pos keys values ks fa) : PD' X c pos (some (.Constant (.str kx) j kp) :: keys) (v :: values) (kx :: ks) (aC f fa) := by
  obtain ⟨trs, h1, h2⟩ := hr
  refine ⟨_, pps_cons pe_str hv h1, fun σ H Q ⟨G, S, rel, p⟩ => ?_⟩
  show RdE c .st f σ H fun y H2 => tPairs trs σ H2 fun ps H3 => Q ((V.str kx, y) :: ps) H3
  refine rdE_go (g := fun x => do let xs ← fa S; .ok (x :: xs)) (Post := PostA c false G S σ H _) rel p (fun _ z => z) (fun z => z) fun d1 v1 G1 H1 s1 q1 p1 => ?_
  refine h2 σ H1 _ ?_
  refine rdA_go (g := fun xs => .ok (d1 :: xs)) (Post := PostA c false G S σ H _) (rel.grow s1) p1 (fun _ z => z) (fun z => z) fun d2 v2 G2 H2 s2 q2 p2 => ?_
  have z := p2 _ G2 H2 (s1.trans s2) (.cons (RD.mono s2.g q1) q2)
  exact ⟨by simpa using z.1, z.2⟩
def eDisp (ks : List Str) (fa : FA) : FE := fun S => fa S >>= fun ds => if ds.length = ks.length ∧ ks.Nodup ∧ ks.length ≤ 15 then .ok (.dic (ks.map .inr) ds) else .fail
theorem nodup_inr : ∀ {ks : List Str}, ks.Nodup → (ks.map (Sum.inr : Str → Key)).Nodup
  | [], _ => by simp
  | x :: ks, h => by
    obtain ⟨h1, h2⟩ := List.nodup_cons.mp h
    rw [List.map_cons, List.nodup_cons]
    exact ⟨fun hm => (by obtain ⟨y, hy, e⟩ := List.mem_map.mp hm; cases e; exact h1 hy), nodup_inr h2⟩
theorem merge_nodup {ks : List Key} {vs : List V} : ∀ {acc : List (Key × V)}, ks.Nodup → ks.length = vs.length → (∀ k ∈ ks, ∀ p ∈ acc, p.1 ≠ k) → mergeK acc (ks.zip vs) = acc ++ ks.zip vs := by
  induction ks generalizing vs with
  | nil => intro acc _ _ _; simp [mergeK]
  | cons k ks ih =>
    intro acc nd hl ha
    cases vs with
    | nil => simp at hl
    | cons v vs =>
      obtain ⟨n1, n2⟩ := List.nodup_cons.mp nd
      rw [List.zip_cons_cons]
      show mergeK (putK acc k v) (ks.zip vs) = _
      have e : putK acc k v = acc ++ [(k, v)] := by
        unfold putK
        rw [if_neg]
        simp only [List.any_eq_true, decide_eq_true_eq, not_exists, not_and]
        exact fun p hp => ha k (by simp) p hp
      rw [e, ih n2 (by simpa using hl)]
      · simp
      · intro k' hk' p hp
        rcases List.mem_append.mp hp with h | h
        · exact ha k' (by simp [hk']) p h
        · rw [List.mem_singleton] at h; subst h
          intro z
          subst z
          exact n1 hk'
theorem d_disp {keys : List (Option Expr)} {values : List Expr} {ks : List Str} {fa : FA} (h : PD' X c pos keys values ks fa) (hall : keys.all (·.isSome) = true := by rfl) (hl : keys.length = values.length := by rfl) (h0 : keys ≠ [] := by exact fun z => nomatch z) (h15 : keys.length ≤ 15 := by decide) :
    PE' X c .fr (.Dict keys values pos) (eDisp ks fa) := by
  obtain ⟨trs, h1, h2⟩ := h
  refine peI (pe_disp h1 hall hl h0 h15) fun σ H Q ⟨G, S, rel, p⟩ => ?_
  intro q hq
  have s0 : Step G H G (upd H q (.dK [])) := Step.new' rel.st.gh hq
  have hgq : G q = none := rel.st.gh.free hq
  refine h2 σ _ _ ?_
  refine rdA_go (g := fun ds => if ds.length = ks.length ∧ ks.Nodup ∧ ks.length ≤ 15 then .ok (D.dic (ks.map .inr) ds) else .fail) (Post := PostE c .fr G S σ H Q) (rel.grow s0) p (fun _ z => z) (fun z => z) fun ds vs G1 H1 s1 q1 p1 => ?_
  have q1 : RDs c.k G1 ds vs := q1
  by_cases hc : ds.length = ks.length ∧ ks.Nodup ∧ ks.length ≤ 15
  · rw [if_pos hc] at p1
    have hvl : vs.length = ks.length := by rw [← q1.length]; exact hc.1
    have hq1 : H1 q = some (.dK []) := s1.h _ _ upd_same
    refine ⟨hvl, hq1, (ks.map Sum.inr).zip vs, ?_, by rw [List.length_zip, List.length_map]; omega, ?_⟩
    · rw [List.zip_map_left, List.zip_map_left, List.map_map]; rfl
    · have nd2 : (ks.map (Sum.inr : Str → Key)).Nodup := nodup_inr hc.2.1
      rw [merge_nodup nd2 (by rw [List.length_map, hvl]) (fun _ _ p hp => by cases hp), List.nil_append]
      have hg1 : G1 q = none := by
        cases z : G1 q with
        | none => rfl
        | some u =>
          rcases s1.gr q u z with w | w
          · rw [hgq] at w; cases w
          · rw [upd_same] at w; cases w
      refine p1 _ G1 _ ⟨s1.g, fun b u hb => ?_, fun b u hb => ?_, fun b u hb => ?_⟩ ⟨q, _, rfl, hg1, hq, upd_same, .dic (by rw [List.length_map]; exact hc.1.symm) q1⟩
      · rw [upd_ne (ne_of_none hb hq)]; exact s1.h b u (by rw [upd_ne (ne_of_none hb hq)]; exact hb)
      · rw [upd_ne (ne_of_none hb hg1)]; exact s1.gh b u hb
      · rcases s1.gr b u hb with w | w
        · exact .inl w
        · right
          by_cases hbq : b = q
          · subst hbq; exact hq
          · rw [upd_ne hbq] at w; exact w
  · rw [if_neg hc] at p1; exact p1.elim
end
end M
set_option Elab.async false
set_option linter.all false
set_option maxRecDepth 100000
set_option maxHeartbeats 4000000
namespace M
open PySem PySem.Spec PyProof.Rows L2
def titer (l : Addr) : Obj := { cls := .type "tuple_iterator", data := .fields #[.ref l, .int 0 0] }
def preSet (s : Shared) (w : World) : Shared := { s with heap := s.heap.push (freshSet w) }
def midSet (s : Shared) (w : World) (l : Addr) : Shared := { s with heap := (s.heap.push (freshSet w)).push (titer l) }
section
variable {P : Program} {w : World} {A : Around} {E : Value → Shared → Prop} {s : Shared}
theorem call_setT {l : Addr} {items : Array Value} {Q : Value → Shared → Prop} {Good : Heap → Prop} (hl : s.heap.IsTuple l items)
    (loop : ∀ R : Result → Shared → Prop, (∀ h' tk, Good h' → (∀ b o, s.heap.get? b = some o → h'.get? b = some o) → R (.ok (.ret .none)) { s with heap := h', toks := tk }) →
      codeAny (model P w) A.in1.in1 (.builtin "set.update.loop" ⟨[.ref s.heap.objs.size, .ref (s.heap.push (freshSet w)).objs.size], []⟩) R (midSet s w l))
    (fin : ∀ h' tk, Good h' → (∀ b o, s.heap.get? b = some o → h'.get? b = some o) → Q (.ref s.heap.objs.size) { s with heap := h', toks := tk }) :
    wpAny (model P w) A (call (.type "set") [.ref l]) Q E s := by
  obtain ⟨cq, tq, m1⟩ := F.called_set.mro
  have m2 := F.called_set.made
  have m3 := F.called_set.sub
  refine wpAny_call (codeAny_of_tree (?_ : wpAny _ _ (callAny (.type "set") _) _ _ _))
  refine wpAny_pure ⟨Code.quiet_builtin _ (by decide +kernel), codeAny_builtin F.entry_type_call ?_⟩
  rw [Around.under_plain (weight_type_call_type "set" [.ref l] []) rfl]
  have m4 := F.called_set.notType
  have m5 := F.called_set.canCreate
  have m6 := F.typeCall_set_1 (.ref l)
  repeat (any_goals (first | assumption | wp_step))
  refine codeAny_mono (code_set_led1 (.ref l) (E := E) (Q₁ := fun ob z => ob = .ref s.heap.objs.size ∧ z = preSet s w) ⟨rfl, rfl⟩) fun r z hr => ?_
  cases r with
  | error e => exact hr
  | ok fl =>
    cases fl with
    | ret ob =>
      obtain ⟨rfl, rfl⟩ := hr
      have g1 : (preSet s w).heap.get? s.heap.objs.size = some (freshSet w) := Heap.get?_push_size _ rfl
      have g2 : Shared.TypeIs (preSet s w) (.ref s.heap.objs.size) "set" := ⟨_, g1, rfl⟩
      have g3 := F.called_set.init.lookup
      have g4 := F.called_set.init.bind (.ref s.heap.objs.size)
      repeat (any_goals (first | assumption | wp_step))
      refine codeAny_mono (codeAny_call_builtin (R := wants (fun r y => r = .none ∧ ∃ h' tk, y = { s with heap := h', toks := tk } ∧ Good h' ∧ ∀ b o, s.heap.get? b = some o → h'.get? b = some o) E) F.called_set.init.plain F.entry_set_init (check_set_init_1 g2 ?_)) fun r2 y hr2 => ?_
      · obtain ⟨ol, e1, e2, nl, e3⟩ := hl
        obtain ⟨o1, o2, o3, o4⟩ := ol
        simp only at e2 e3
        subst e2; subst e3
        have e4 : (preSet s w).heap.get? l = some { cls := .type "tuple", dict := o2, data := .seq items nl, slots := o4 } := Heap.get?_push_of_some _ e1
        have q1 := F.sub_tuple_set
        have q2 := F.sub_tuple_frozenset
        have q3 : (Value.type "tuple" == Value.type "dict") = false := by decide
        have q4 : (preSet s w).heap.IsTuple l items := ⟨_, e4, rfl, nl, rfl⟩
        unfold Builtin.«set.__init__» noKeywords Builtin.Frozenset.updateFrom
        generalize hPI : pyIter = PI
        wp_walk
        subst hPI
        refine wpAny_pyIter_tuple q4 (wpAny_bind (wpAny_runValue ?_))
        refine loop _ fun h' tk hg hk => ?_
        show wpAny _ _ _ _ _ _
        refine wpAny_pure ?_
        show wpAny _ _ (ret Value.none) _ _ _
        exact wpAny_pure ⟨rfl, h', tk, rfl, hg, hk⟩
      · cases r2 with
        | error e => exact hr2
        | ok f2 =>
          cases f2 with
          | ret r =>
            obtain ⟨rfl, h', tk, rfl, hg, hk⟩ := hr2
            repeat (any_goals (first | assumption | wp_step))
            exact fin _ _ hg hk
          | _ => exact hr2.elim
    | _ => exact hr.elim
def SetN (S : Addr) (n : Nat) (h : Heap) : Prop := ∃ o es ep t, h.get? S = some o ∧ o.ExactSet ∧ o.data = .set es ep t ∧ t.fits es.size = true ∧ es.size = n
def nubG {κ : Type} [DecidableEq κ] (ks : List κ) : List κ := ks.foldl (fun acc k => if k ∈ acc then acc else k :: acc) []
theorem nubG_fold {κ : Type} [DecidableEq κ] : ∀ (ks acc : List κ), acc.Nodup → (ks.foldl (fun acc k => if k ∈ acc then acc else k :: acc) acc).Nodup ∧ ∀ x, x ∈ ks.foldl (fun acc k => if k ∈ acc then acc else k :: acc) acc ↔ x ∈ acc ∨ x ∈ ks
  | [], acc, h => ⟨h, fun x => by simp⟩
  | k :: ks, acc, h => by
    rw [List.foldl_cons]
    by_cases hk : k ∈ acc
    · rw [if_pos hk]
      obtain ⟨h1, h2⟩ := nubG_fold ks acc h
      refine ⟨h1, fun x => ?_⟩
      rw [h2, List.mem_cons]
      constructor
      · rintro (a | a)
        · exact .inl a
        · exact .inr (.inr a)
      · rintro (a | a | a)
        · exact .inl a
        · subst a; exact .inl hk
        · exact .inr a
    · rw [if_neg hk]
      obtain ⟨h1, h2⟩ := nubG_fold ks (k :: acc) (List.nodup_cons.mpr ⟨hk, h⟩)
      refine ⟨h1, fun x => ?_⟩
      rw [h2, List.mem_cons, List.mem_cons]
      constructor
      · rintro ((a | a) | a)
        · exact .inr (.inl a)
        · exact .inl a
        · exact .inr (.inr a)
      · rintro (a | a | a)
        · exact .inl (.inr a)
        · exact .inl (.inl a)
        · exact .inr a
theorem nubG_nd {κ : Type} [DecidableEq κ] (ks : List κ) : (nubG ks).Nodup := (nubG_fold ks [] List.nodup_nil).1
theorem nubG_mem {κ : Type} [DecidableEq κ] (ks : List κ) (x : κ) : x ∈ nubG ks ↔ x ∈ ks := by
  have := (nubG_fold ks [] List.nodup_nil).2 x
  unfold nubG
  rw [this]; simp
theorem nd_len_le {κ : Type} [DecidableEq κ] : ∀ {a b : List κ}, a.Nodup → (∀ x ∈ a, x ∈ b) → a.length ≤ b.length
  | [], b, _, _ => by simp
  | x :: a, b, h, hs => by
    obtain ⟨h1, h2⟩ := List.nodup_cons.mp h
    have hx := hs x (by simp)
    have := nd_len_le (a := a) (b := b.erase x) h2 (fun y hy => (List.mem_erase_of_ne (fun e => h1 (by rw [← e]; exact hy))).mpr (hs y (by simp [hy])))
    rw [List.length_erase_of_mem hx] at this
    have hp : 0 < b.length := List.length_pos_of_mem hx
    rw [List.length_cons]; omega
theorem nub_len {κ : Type} [DecidableEq κ] {a ks : List κ} (h : a.Nodup) (hm : ∀ x, x ∈ a ↔ x ∈ ks) : a.length = (nubG ks).length :=
  Nat.le_antisymm (nd_len_le h fun x hx => (nubG_mem ks x).mpr ((hm x).mp hx)) (nd_len_le (nubG_nd ks) fun x hx => (hm x).mpr ((nubG_mem ks x).mp hx))
theorem apart {l : Addr} (hlt : l < s.heap.objs.size) : l ≠ (s.heap.push (freshSet w)).objs.size ∧ s.heap.objs.size ∉ [(s.heap.push (freshSet w)).objs.size, l] := by
  rw [Heap.size_push]
  refine ⟨Nat.ne_of_lt (Nat.lt_succ_of_lt hlt), ?_⟩
  simp only [List.mem_cons, List.not_mem_nil, or_false, not_or]
  exact ⟨Nat.ne_of_lt (Nat.lt_succ_self _), Nat.ne_of_gt hlt⟩
theorem kept_of {G : Array GenState → Array GenState → Prop} {s' : Shared} {l : Addr} (hm : Moved (s.heap.objs.size :: [(s.heap.push (freshSet w)).objs.size]) G (midSet s w l) s') : ∀ b o, s.heap.get? b = some o → s'.heap.get? b = some o := fun b o e => by
  have hb := Heap.lt_size e
  refine hm.heap b o ?_ (Heap.get?_push_of_some _ (Heap.get?_push_of_some _ e))
  rw [Heap.size_push]
  simp only [List.mem_cons, List.not_mem_nil, or_false, not_or]
  exact ⟨Nat.ne_of_lt hb, Nat.ne_of_lt (Nat.lt_succ_of_lt hb)⟩
theorem back_of {s' : Shared} {wr : List Addr} {l : Addr} (hm : Moved wr (fun a b => b = a) (midSet s w l) s') : s' = { s with heap := s'.heap, toks := s'.toks } := by
  obtain ⟨h', g', d', t', o'⟩ := s'
  have h1 : g' = s.gens := hm.gens
  have h2 : d' = s.drawn := hm.drawn
  have h3 : o' = s.os := hm.os
  subst h1; subst h2; subst h3; rfl
theorem call_setTI {l : Addr} {items : Array Value} (ns : List Int) {Q : Value → Shared → Prop} (hh : A.handled = none) (hl : s.heap.IsTuple l items) (hit : IntsAre items.toList ns) (hb : ns.length + 1 < scanBound)
    (fin : ∀ h' tk, SetN s.heap.objs.size (nubG ns).length h' → (∀ b o, s.heap.get? b = some o → h'.get? b = some o) → Q (.ref s.heap.objs.size) { s with heap := h', toks := tk }) : wpAny (model P w) A (call (.type "set") [.ref l]) Q E s := by
  have hlt : l < s.heap.objs.size := by obtain ⟨o, ho, _⟩ := hl; exact Heap.lt_size ho
  obtain ⟨n1, n2⟩ := apart (w := w) hlt
  have hz : items.size = ns.length := by have := IntsAre.length hit; rwa [Array.length_toList] at this
  have g1 : (midSet s w l).heap.get? s.heap.objs.size = some (freshSet w) := Heap.get?_push_of_some _ (Heap.get?_push_size _ rfl)
  refine call_setT (Good := SetN s.heap.objs.size (nubG ns).length) hl (fun R hR => ?_) fin
  refine set_update_ints ((Walks.tuple (by simp [hh]) _ l n1 items).toS) s.heap.objs.size n2 ns hz hb (fun i v hv => ?_) items.size 0 _ (by omega) (Nat.zero_le _) ⟨⟨_, Heap.get?_push_size _ rfl, rfl, rfl⟩, ((hl.push _).push _)⟩ ⟨0, Nat.le_refl 0, setR_new_at g1⟩ fun s' c hm hc hS => ?_
  · have hi : i < ns.length := by rw [← hz]; exact (Array.getElem?_eq_some_iff.mp hv).1
    obtain ⟨t, e⟩ := IntsAre.int_at hit i v (by rw [Array.getElem?_toList]; exact hv)
    refine ⟨ns[i], t, List.getElem?_eq_getElem hi, ?_⟩
    rw [e, List.getD_eq_getElem?_getD, List.getElem?_eq_getElem hi]; rfl
  · rw [back_of hm]
    refine hR _ _ ?_ (kept_of hm)
    obtain ⟨o, es, ep, t, ho, hx, hd, _, hn, hmem, _, hf, hsz, _⟩ := hS
    refine ⟨o, es, ep, t, ho, hx, hd, hf, ?_⟩
    have := nub_len (a := es.toList.map L2.keyOf) (ks := ns) hn (fun x => by rw [← hmem x]; simp)
    rw [← this, List.length_map, Array.length_toList]
theorem call_setTT {l : Addr} {items : Array Value} (ks : List (Addr × List Int)) {Q : Value → Shared → Prop} (hh : A.handled = none) (hl : s.heap.IsTuple l items) (hit : items.toList = ks.map fun p => Value.ref p.1) (hk : ∀ p ∈ ks, IsT P w s.heap p.2 p.1) (hf : ks.length < 64) (hu : A.units + 3 < cLine)
    (fin : ∀ h' tk, SetN s.heap.objs.size (nubG (ks.map (·.2))).length h' → (∀ b o, s.heap.get? b = some o → h'.get? b = some o) → Q (.ref s.heap.objs.size) { s with heap := h', toks := tk }) : wpAny (model P w) A (call (.type "set") [.ref l]) Q E s := by
  have hlt : l < s.heap.objs.size := by obtain ⟨o, ho, _⟩ := hl; exact Heap.lt_size ho
  obtain ⟨n1, n2⟩ := apart (w := w) hlt
  have hz : items.size = ks.length := by have := congrArg List.length hit; rwa [Array.length_toList, List.length_map] at this
  have g1 : (midSet s w l).heap.get? s.heap.objs.size = some (freshSet w) := Heap.get?_push_of_some _ (Heap.get?_push_size _ rfl)
  have free : ∀ b, s.heap.objs.size ≤ b → s.heap.get? b = none := fun b hb => by
    cases q : s.heap.get? b with
    | none => rfl
    | some o => exact absurd (Nat.lt_of_lt_of_le (Heap.lt_size q) hb) (Nat.lt_irrefl _)
  refine call_setT (Good := SetN s.heap.objs.size (nubG (ks.map (·.2))).length) hl (fun R hR => ?_) fin
  refine set_update_tups ((Walks.tuple (by simp [hh]) _ l n1 items).toS) s.heap.objs.size n2 ks hz hf (fun i v hv => ?_) s.heap hk (free _ (Nat.le_refl _)) (fun b hb => free b (by rw [List.mem_singleton.mp hb, Heap.size_push]; exact Nat.le_succ _)) (by simp only [Around.in1]; first | omega | exact (by omega)) items.size 0 _ (by omega) (Nat.zero_le _) ⟨⟨_, Heap.get?_push_size _ rfl, rfl, rfl⟩, ((hl.push _).push _)⟩ (fun b o e => Heap.get?_push_of_some _ (Heap.get?_push_of_some _ e)) ⟨[], _, _, _, setTR_fresh g1, Got.zero ks⟩ fun s' L es ep t hm hS hg _ => ?_
  · have q : items.toList[i]? = some v := by rw [Array.getElem?_toList]; exact hv
    rw [hit, List.getElem?_map] at q
    obtain ⟨p, hp, e⟩ := Option.map_eq_some_iff.mp q
    exact ⟨p, hp, e.symm⟩
  · rw [back_of hm]
    refine hR _ _ ?_ (kept_of hm)
    obtain ⟨o, ho, hx, hd⟩ := hS.ob
    refine ⟨o, es, ep, t, ho, hx, hd, hS.fits, ?_⟩
    rw [hS.size]
    have := nub_len (a := L.map (·.2)) (ks := ks.map (·.2)) hS.nd (fun x => ?_)
    · rw [← this, List.length_map]
    · constructor
      · intro h
        obtain ⟨p, hp, rfl⟩ := List.mem_map.mp h
        exact List.mem_map.mpr ⟨p, List.mem_of_mem_take (hg.sub p hp), rfl⟩
      · intro h
        obtain ⟨p, hp, rfl⟩ := List.mem_map.mp h
        exact hg.all p (by rw [hz, List.take_length]; exact hp)
theorem nubG_snoc {κ : Type} [DecidableEq κ] (l : List κ) (x : κ) : (nubG (l ++ [x])).length = if x ∈ l then (nubG l).length else (nubG l).length + 1 := by
  have e : nubG (l ++ [x]) = if x ∈ nubG l then nubG l else x :: nubG l := by unfold nubG; rw [List.foldl_append]; rfl
  rw [e]
  by_cases h : x ∈ l
  · rw [if_pos ((nubG_mem l x).mpr h), if_pos h]
  · rw [if_neg (fun q => h ((nubG_mem l x).mp q)), if_neg h]; rfl
theorem loopTx {I : Addr} {fp wr : List Addr} {G : Array GenState → Array GenState → Prop} {n : Nat} {Pv : Nat → Value → Prop} {St : Nat → Shared → Prop} {R : Result → Shared → Prop}
    (W : WalksS P w A.in1 I fp wr G n Pv St) (S : Addr) (hSf : S ∉ fp) (xs : List Str) (hn : n = xs.length) (hb : xs.length + 1 < scanBound) (hval : ∀ i v, Pv i v → ∃ x t, xs[i]? = some x ∧ v = .str x t) :
    ∀ (k i : Nat) (s : Shared), n - i = k → i ≤ n → St i s → s.heap.SetOf (PySem.strKind P w) S (fun q => decide (q ∈ xs.take i)) (nubG (xs.take i)).length →
      (∀ z, Moved (S :: wr) G s z → z.heap.SetOf (PySem.strKind P w) S (fun q => decide (q ∈ xs)) (nubG xs).length → R (.ok (.ret .none)) z) → codeAny (model P w) A (.builtin "set.update.loop" ⟨[.ref S, .ref I], []⟩) R s := by
  have o1 : S ∉ wr := fun h => hSf (W.sub _ h)
  have o2 : ∀ b ∈ wr, b ∈ S :: wr := fun b hb => List.mem_cons_of_mem _ hb
  have stay : ∀ {s s' : Shared} {f : Str → Bool} {c : Nat}, Moved wr G s s' → s.heap.SetOf (PySem.strKind P w) S f c → s'.heap.SetOf (PySem.strKind P w) S f c := fun hm hS => by
    obtain ⟨o, es, ep, t, ho, rest⟩ := hS
    exact ⟨o, es, ep, t, hm.heap S _ o1 ho, rest⟩
  intro k
  induction k with
  | zero =>
    intro i s hk hi hst hS hR
    obtain rfl : i = n := by omega
    refine codeAny_builtin PyProof.Rows.F.entry_set_update_loop ?_
    rw [Around.under_plainId PyProof.Rows.F.plain_set_update_loop _]
    refine (wpAny_bind (W.done s _ _ hst fun z hm => ?_) : wpAny _ A.in1 (pyNext (.ref I) >>= _) _ _ s)
    rw [hn, List.take_length] at hS
    show wpAny _ A.in1 (ret .none) _ _ z
    exact wpAny_pure (hR z (hm.mono o2) (stay hm hS))
  | succ k ih =>
    intro i s hk hi hst hS hR
    have hlt : i < n := by omega
    refine codeAny_builtin PyProof.Rows.F.entry_set_update_loop ?_
    rw [Around.under_plainId PyProof.Rows.F.plain_set_update_loop _]
    refine (wpAny_bind (W.item i s _ _ hlt hst fun v z hP hst' hm => ?_) : wpAny _ A.in1 (pyNext (.ref I) >>= _) _ _ s)
    obtain ⟨x, t, hx, rfl⟩ := hval i v hP
    have hS' := stay hm hS
    have tk : xs.take (i + 1) = xs.take i ++ [x] := by rw [List.take_add_one, hx]; rfl
    have cnt : (nubG (xs.take i)).length ≤ i := by
      have := nd_len_le (nubG_nd (xs.take i)) (fun y hy => (nubG_mem _ y).mp hy)
      rw [List.length_take] at this
      omega
    refine (wpAny_bind (wpAny_holding ?_) : wpAny _ A.in1 (holding [Value.str x t] (setAdd S (.str x t)) >>= _) _ _ z)
    unfold setAdd
    refine wpAny_holding (wpAny_bind ((PySem.strKind P w).pyHash (k := x) (strKind_is _ _ _ _) ?_))
    refine wpAny_setAddHashed_of (knd := PySem.strKind P w) (s := { z with toks := z.toks + 1 }) (strKind_is _ _ _ _) rfl hS' (by omega) fun h' hsb hS2 => ?_
    have hS3 : h'.SetOf (PySem.strKind P w) S (fun q => decide (q ∈ xs.take (i + 1))) (nubG (xs.take (i + 1))).length := by
      refine SetOf_congr hS2 (fun q => ?_) ?_
      · rw [tk]
        simp only [List.mem_append, List.mem_singleton]
        by_cases q1 : q ∈ xs.take i <;> by_cases q2 : q = x <;> simp [q1, q2]
      · rw [tk, nubG_snoc]
        by_cases q1 : x ∈ xs.take i <;> simp [q1]
    refine wpAny_pure ⟨plainId_quiet PyProof.Rows.F.plain_set_update_loop _, ih (i + 1) _ (by omega) hlt (W.frame _ z _ _ hst' (Nat.le_succ _) fun b hb o e => ?_) hS3 fun y hy hq => ?_⟩
    · rw [hsb.2 b (fun q : b = S => hSf (by rw [← q]; exact hb))]; exact e
    · refine hR y (Moved.trans W.gtrans ((hm.mono o2).then_heap (Nat.le_succ _) fun b o hb e => ?_) hy) hq
      rw [hsb.2 b (fun q : b = S => hb (by rw [q]; exact List.mem_cons_self))]; exact e
theorem call_setTS {l : Addr} {items : Array Value} (xs : List Str) {Q : Value → Shared → Prop} (hh : A.handled = none) (hl : s.heap.IsTuple l items) (hit : Vals (xs.map V.str) items.toList) (hb : xs.length + 1 < scanBound)
    (fin : ∀ h' tk, SetN s.heap.objs.size (nubG xs).length h' → (∀ b o, s.heap.get? b = some o → h'.get? b = some o) → Q (.ref s.heap.objs.size) { s with heap := h', toks := tk }) : wpAny (model P w) A (call (.type "set") [.ref l]) Q E s := by
  have hlt : l < s.heap.objs.size := by obtain ⟨o, ho, _⟩ := hl; exact Heap.lt_size ho
  obtain ⟨n1, n2⟩ := apart (w := w) hlt
  have hz : items.size = xs.length := by have := hit.length; rw [List.length_map, Array.length_toList] at this; exact this.symm
  have g1 : (midSet s w l).heap.get? s.heap.objs.size = some (freshSet w) := Heap.get?_push_of_some _ (Heap.get?_push_size _ rfl)
  have at_ : ∀ {xs : List Str} {us : List Value}, Vals (xs.map V.str) us → ∀ (i : Nat) (v : Value), us[i]? = some v → ∃ x t, xs[i]? = some x ∧ v = .str x t := by
    intro xs
    induction xs with
    | nil => intro us h i v hv; cases h; simp at hv
    | cons x xs ih =>
      intro us h i v hv
      cases h with
      | cons r rs =>
        obtain ⟨t, rfl⟩ := r
        cases i with
        | zero => simp at hv; subst hv; exact ⟨x, t, rfl, rfl⟩
        | succ i => exact ih rs i v (by simpa using hv)
  refine call_setT (Good := SetN s.heap.objs.size (nubG xs).length) hl (fun R hR => ?_) fin
  refine loopTx ((Walks.tuple (by simp [hh]) _ l n1 items).toS) s.heap.objs.size n2 xs hz hb (fun i v hv => at_ hit i v (by rw [Array.getElem?_toList]; exact hv)) items.size 0 _ (by omega) (Nat.zero_le _) ⟨⟨_, Heap.get?_push_size _ rfl, rfl, rfl⟩, ((hl.push _).push _)⟩ ⟨freshSet w, #[], 0, _, g1, ⟨rfl, rfl, rfl⟩, rfl, (fun e he => by simp at he), by simp, by decide, rfl, rfl⟩ fun s' hm hS => ?_
  rw [back_of hm]
  refine hR _ _ ?_ (kept_of hm)
  obtain ⟨o, es, ep, t, ho, hx, hd, _, _, _, hf, hsz⟩ := hS
  exact ⟨o, es, ep, t, ho, hx, hd, hf, hsz⟩
end
section
variable {X : Cx} {c : Cf} {k1 : Kd} {e : Expr} {f : FE} {pos p p2 q : Pos} {k : Kn}
def SetLen (K : PySem.W.Frag) (H : Hp) (l : Addr) (n : Nat) : Prop :=
  (∃ ns : List Int, SqT K H l (ns.map V.int) ∧ ns.length ≤ 1000 ∧ n = (nubG ns).length) ∨ (∃ ks : List (Addr × List Int), SqT K H l (ks.map fun p => V.ref p.1) ∧ (∀ p ∈ ks, SqT K H p.1 (p.2.map V.int)) ∧ ks.length < 64 ∧ n = (nubG (ks.map (·.2))).length) ∨
  ∃ xs : List Str, SqT K H l (xs.map V.str) ∧ xs.length ≤ 1000 ∧ n = (nubG xs).length
theorem refs_vals : ∀ {as : List Addr} {us : List Value}, Vals (as.map V.ref) us → us = as.map Value.ref
  | [], _, .nil => rfl
  | a :: as, _, .cons r rs => by rw [refs_vals rs]; cases r; rfl
theorem pe_lenSetG {a : Expr} {ta : TE} (hc : X.calm = true) (hu : X.A.units + 64 < cLine) (hm : X.mg "len" = none) (hm2 : X.mg "set" = none) (ha : PE X a ta) (hg : Gl X "len") (hg2 : Gl X "set") (na : starEach [a] X.env = (false, eval a X.env) :: starEach [] X.env) :
    PE X (.Call (.Name "len" p) [.Call (.Name "set" p2) [a] [] q] [] pos) (fun σ H Q => ta σ H fun x H1 => ∃ l n, x = .ref l ∧ SetLen X.K H1 l n ∧ Q (.int n) H1) := by
  refine ⟨fun pins s σ H Q I h => ?_⟩
  refine Call_ (ld_blt I hg hm PySem.boot_len (PyProof.Rows.callWith_builtin1 (PyProof.Rows.args_cons (Call_ (ld_blt I hg2 hm2 PyProof.Rows.boot_set ?_)) rfl) rfl rfl))
  refine PyProof.Rows.callWith_type1 (PyProof.Rows.args_cons (thn (ha.run pins s σ H _ I h) fun v s1 ⟨x, H1, I1, r1, l, n, ex, hq, q1⟩ => PyProof.Rows.args_nil ?_) na) na rfl
  subst ex
  cases r1
  have fin : ∀ (h' : Heap) (tk : Nat), SetN s1.heap.objs.size n h' → (∀ b o, s1.heap.get? b = some o → h'.get? b = some o) →
      wpAny (model X.prog X.w) X.A (spliced (backTo pos (starEach [] X.env))) (fun vs z => wpAny (model X.prog X.w) X.A (call (.builtin "len") (Value.ref s1.heap.objs.size :: vs)) (EP X pins σ Q) X.xe z) X.xe { s1 with heap := h', toks := tk } := fun h' tk hS hk => by
    refine PyProof.Rows.args_nil ?_
    obtain ⟨o, es, ep, t, ho, hx, hd, hf, hsz⟩ := hS
    have I2 : L2.Inv X pins σ H1 { s1 with heap := h', toks := tk } := I1.kept hk
    have hfit : (es.size : Int) < 2 ^ 63 := by
      have : es.size ≤ 1000 := by
        rw [hsz]
        rcases hq with ⟨ns, _, h1, e1⟩ | ⟨ks, _, _, h1, e1⟩ | ⟨xs, _, h1, e1⟩
        · rw [e1]; exact Nat.le_trans (nd_len_le (nubG_nd ns) fun y hy => (nubG_mem _ y).mp hy) h1
        · rw [e1]; exact Nat.le_trans (nd_len_le (nubG_nd _) fun y hy => (nubG_mem _ y).mp hy) (by rw [List.length_map]; omega)
        · rw [e1]; exact Nat.le_trans (nd_len_le (nubG_nd xs) fun y hy => (nubG_mem _ y).mp hy) h1
      omega
    exact call_len_set ho hx hd hf hfit ⟨.int n, H1, I2.tok _, ⟨_, by rw [hsz]⟩, q1⟩
  have hsb : (1003 : Nat) < scanBound := by decide
  rcases hq with ⟨ns, hT, hl, rfl⟩ | ⟨ks, hT, hk, hl, rfl⟩ | ⟨xs, hT, hl, rfl⟩
  · obtain ⟨its, r, ⟨o, h1, h2, m, h3⟩, _⟩ := I1.tuple hT
    exact call_setTI ns (I1.ok.hd hc) ⟨o, h1, h2, m, h3⟩ (by simpa using r.ints) (by omega) fin
  · obtain ⟨its, r, ⟨o, h1, h2, m, h3⟩, _⟩ := I1.tuple hT
    refine call_setTT ks (I1.ok.hd hc) ⟨o, h1, h2, m, h3⟩ ?_ (fun p hp => I1.isT (hk p hp)) hl (by omega) fin
    have := refs_vals (as := ks.map (·.1)) (by rw [List.map_map]; exact r)
    rw [List.map_map] at this
    exact (by simpa using this : its = ks.map (Value.ref ∘ fun x => x.1))
  · obtain ⟨its, r, ⟨o, h1, h2, m, h3⟩, _⟩ := I1.tuple hT
    exact call_setTS xs (I1.ok.hd hc) ⟨o, h1, h2, m, h3⟩ (by simpa using r) (by omega) fin
def lenSetD : D → R D
  | .tup ds => match asI ds with
    | some ns => if ns.length ≤ 1000 then .ok (.int (nubG ns).length) else .fail
    | none => match asTs ds with
      | some ks => if ks.length < 60 then .ok (.int (nubG ks).length) else .fail
      | none => match asS ds with
        | some xs => if xs.length ≤ 1000 then .ok (.int (nubG xs).length) else .fail
        | none => .fail
  | _ => .fail
theorem asTs_rds {G : Hp} : ∀ {ds : List D} {vs : List V} {ks : List (List Int)}, RDs k G ds vs → asTs ds = some ks → ∃ ps : List (Addr × List Int), vs = ps.map (fun p => V.ref p.1) ∧ ps.map (·.2) = ks ∧ ∀ p ∈ ps, SqU k.K G p.1 (p.2.map V.int)
  | _, _, ks, .nil, h => by cases h; exact ⟨[], rfl, rfl, by simp⟩
  | d :: ds, _, ks, .cons a b, h => by
    simp only [asTs] at h
    split at h
    · rename_i x xs h1 h2
      cases h
      obtain ⟨ad, rfl, hs⟩ := RD.asT a h1
      obtain ⟨ps, rfl, rfl, hp⟩ := asTs_rds b h2
      refine ⟨(ad, x) :: ps, rfl, rfl, fun p hp' => ?_⟩
      rcases List.mem_cons.mp hp' with rfl | hp'
      · exact hs
      · exact hp p hp'
    · cases h
theorem d_lenSet (hk : c.k.K = X.K) (hc : X.calm = true) (hu : X.A.units + 64 < cLine) (hm : X.mg "len" = none) (hm2 : X.mg "set" = none) (he : PE' X c k1 e f) (hg : Gl X "len" := by rfl) (hg2 : Gl X "set" := by rfl) (na : starEach [e] X.env = (false, eval e X.env) :: starEach [] X.env := by rfl) :
    PE' X c .st (.Call (.Name "len" p) [.Call (.Name "set" p2) [e] [] q] [] pos) (e1 lenSetD f) :=
  peI (pe_lenSetG hc hu hm hm2 he hg hg2 na) fun σ H Q z => e1_go (r := fun x H1 Q => ∃ l n, x = .ref l ∧ SetLen X.K H1 l n ∧ Q (.int n) H1) (fun G H x u d ex n hg Q p => by
    cases x with
    | tup ds =>
      obtain ⟨ad, vs, rfl, ha, r⟩ := n.tup
      have ha' : SqT X.K H ad vs := hk ▸ ex.sqT ha.t
      simp only [lenSetD] at hg
      split at hg
      · rename_i ns hn
        split at hg
        · rename_i hl
          cases hg
          have := asI_of r hn; subst this
          exact ⟨ad, _, rfl, .inl ⟨ns, ha', hl, rfl⟩, p _ G H (Step.refl ex) (.int _)⟩
        · cases hg
      · split at hg
        · rename_i ks hn
          split at hg
          · rename_i hl
            cases hg
            obtain ⟨ps, rfl, rfl, hp⟩ := asTs_rds r hn
            rw [List.length_map] at hl
            exact ⟨ad, _, rfl, .inr (.inl ⟨ps, ha', fun q hq => hk ▸ ex.sqT (hp q hq).t, by omega, rfl⟩), p _ G H (Step.refl ex) (.int _)⟩
          · cases hg
        · split at hg
          · rename_i xs hn
            split at hg
            · rename_i hl
              cases hg
              have := asS_of r hn; subst this
              exact ⟨ad, _, rfl, .inr (.inr ⟨xs, ha', hl, rfl⟩), p _ G H (Step.refl ex) (.int _)⟩
            · cases hg
          · cases hg
    | _ => simp [lenSetD] at hg) z
end
end M
set_option Elab.async false
set_option linter.all false
set_option maxRecDepth 100000
set_option maxHeartbeats 4000000
namespace M
open PySem L2
section
instance lawK : LawfulBEq Key where
  eq_of_beq := by
    intro a b h
    cases a with
    | inl x => cases b with
      | inl y => exact congrArg Sum.inl (by simpa using (show (x == y) = true from h))
      | inr y => cases h
    | inr x => cases b with
      | inl y => cases h
      | inr y => exact congrArg Sum.inr (by simpa using (show (x == y) = true from h))
  rfl := by
    intro a
    cases a with
    | inl x => show (x == x) = true; simp
    | inr x => show (x == x) = true; simp
theorem scan_ok {n : Nat} (h : n ≤ 1000) : n + 1 < scanBound := by
  have : (1003 : Nat) < scanBound := by decide
  omega
def kset (P : Program) (w : World) (t : List Key) (a : Addr) : HO := SetK P w a (fun q => decide (q ∈ t)) t.length
def nubK (acc : List Key) (k : Key) : List Key := if k ∈ acc then acc else k :: acc
theorem nubG_eq (ks : List Key) : nubG ks = ks.foldl nubK [] := by
  unfold nubG
  congr
  funext acc k
  unfold nubK
  by_cases h : k ∈ acc
  · rw [if_pos h, if_pos h]
  · rw [if_neg h, if_neg h]
def famK (P : Program) (w : World) (K : PySem.W.Frag) : Fam P w K (List Key) Key where
  ob := fun t a => kset P w t a
  t0 := []
  pre := fun t y k H => y = kV k ∧ t.length + 1 < scanBound
  post := fun t y k t' => t' = if k ∈ t then t else k :: t
  new := fun H h a e => setK_new ⟨freshSet w, #[], 0, _, e, ⟨rfl, rfl, rfl⟩, rfl, (fun e he => by simp at he), by simp, by decide, rfl, rfl⟩
  add := by
    intro X hP hw hK hu pins s σ H S t y k u Q E I hS ry hp hq
    subst hP hw hK
    obtain ⟨rfl, h2⟩ := hp
    have R := setK_get I hS
    refine call_set_add (knd := mixKind X.prog X.w) (kV_is ry) (key_scan ry) R h2 fun h' sb R' => ?_
    refine hq _ _ rfl (I.write (e := S) (by rw [hS]; trivial) (.inl rfl) (fun b u hb hu => (sb.2 b hb).trans hu) (by obtain ⟨o, _, _, _, ho, _⟩ := R'; exact ⟨o, ho⟩) (setK_new (PyProof.Rows.SetOf_congr R' (fun q => ?_) ?_)))
    · by_cases h : k ∈ t
      · rw [if_pos h]
        by_cases q1 : q ∈ t
        · simp [q1]
        · have : q ≠ k := fun e => q1 (by rw [e]; exact h)
          simp [q1, this]
      · rw [if_neg h]
        by_cases q1 : q ∈ t <;> by_cases q2 : q = k <;> simp [q1, q2]
    · by_cases h : k ∈ t <;> simp [h]
theorem call_lenK {X : Cx} : CallR X (.builtin "len") (fun xs H Q => ∃ a L, xs = [V.ref a] ∧ H a = some (kset X.prog X.w L a) ∧ Q (.int L.length) H) := by
  intro pins s σ H xs us Q I r h
  obtain ⟨a, L, rfl, ha, q⟩ := h
  rw [Vals.ref1 r]
  obtain ⟨o, es, ep, t, ho, hx, hd, _, _, hb, hf, hsz⟩ := setK_get I ha
  have hs : (scanBound : Int) < 2 ^ 63 := by decide
  exact call_len_set ho hx hd hf (by omega) ⟨.int L.length, H, I.tok _, ⟨_, by rw [hsz]⟩, q⟩
def lenScK (fi : FI) (ga : FG) (t : FT) (fe : FE) (vs : List Nat) : FE := fun S => fi S >>= fun ds => if ds.length < 60 then lcF ga t fe (wipeS S vs) ds >>= fun ys => (match keysD ys with
  | some ks => .ok (.int (nubG ks).length)
  | none => .fail) else .fail
theorem lenScK_go {X : Cx} {c : Cf} {t : FT} {ki gs vs : List Nat} {fi : FI} {ga : FG} {fe : FE} {σ : L2.St} {H : Hp} {Q : VK} {gi : TG} {tt : TT} {te : TE} (hk : c.k.K = X.K) (hg : ∀ v σ H Q, RdG c.nx gs ga v σ H Q → gi v σ H Q) (ht : ∀ σ H Q, RdT c.nx t σ H Q → tt σ H Q) (he : ∀ σ H Q, RdE c.nx .st fe σ H Q → te σ H Q)
    (hgs : ∀ i, i ∈ gs → i ∈ vs) (q : RdE c .st (lenScK fi ga t fe vs) σ H Q) :
    tScG (famK X.prog X.w X.K) (RdI c ki fi) gi tt te vs σ H fun v H1 => ∃ a L, [v] = [V.ref a] ∧ H1 a = some (kset X.prog X.w L a) ∧ Q (.int L.length) H1 := by
  obtain ⟨G, S, rel, p⟩ := q
  refine ⟨G, S, rel, ?_⟩
  have p : PostE c .st G S σ H Q (fi S >>= fun ds => if ds.length < 60 then lcF ga t fe (wipeS S vs) ds >>= fun ys => (match keysD ys with
    | some ks => .ok (.int (nubG ks).length)
    | none => .fail) else .fail) := p
  cases e0 : fi S with
  | exc x => rw [e0] at p; exact p
  | fail => rw [e0] at p; exact p
  | ok ds =>
    rw [e0, R.ok_bind] at p
    by_cases hz : ds.length < 60
    · rw [if_pos hz] at p
      intro J G1 H1 sp it Dl hD
      have relb := ((rel.grow sp).wipe vs).cw (W := liftX E0)
      refine ⟨fun i m H2 => m = ds.length - i ∧ i ≤ ds.length ∧ ∃ G2 ac, Step G1 H1 G2 H2 ∧ G2 Dl = none ∧ H2 Dl = some (kset X.prog X.w ac Dl) ∧ ac.length ≤ i ∧
          PostE c .st G S σ H Q (lcF ga t fe (wipeS S vs) (ds.drop i) >>= fun ys => (match keysD ys with
            | some ks => .ok (.int (ks.foldl nubK ac).length)
            | none => .fail)),
        ⟨_, rfl, Nat.zero_le _, G1, [], Step.new' sp.gh hD, sp.gh.free hD, upd_same, Nat.zero_le _, by simpa [nubG_eq] using p⟩, ?_⟩
      rintro i m H2 ⟨rfl, hle, G2, ac, sp2, hGD, hHD, hal, p2⟩
      have rel2 : Rel c.nx G2 (wipeS S vs) (L2.wipe σ vs) H2 := relb.grow sp2
      have itm := it G2 H2 sp2.g sp2.gh fun j hj x ow => by
        obtain ⟨_, _, o, _, ho, _⟩ := (rel.grow sp).own ow
        rw [ho, sp2.h _ _ ho]
      have nD : ∀ {G6 H6 : Hp}, Step G2 H2 G6 H6 → G6 Dl = none ∧ H6 Dl = some (kset X.prog X.w ac Dl) := fun {G6 H6} z => by
        refine ⟨?_, z.h _ _ hHD⟩
        cases q : G6 Dl with
        | none => rfl
        | some o =>
          rcases z.gr _ _ q with w | w
          · rw [hGD] at w; cases w
          · rw [hHD] at w; cases w
      by_cases hlt : i < ds.length
      · obtain ⟨d, hd⟩ : ∃ d, ds[i]? = some d := ⟨ds[i], List.getElem?_eq_getElem hlt⟩
        have hdrop : ds.drop i = d :: ds.drop (i + 1) := by
          rw [List.drop_eq_getElem_cons hlt]; congr 1; rw [List.getElem?_eq_getElem hlt] at hd; exact Option.some.inj hd
        rw [hdrop] at p2
        obtain ⟨hgo, hy⟩ := itm.2 i d hd
        refine .inr ⟨hgo, fun H' => ∃ G3 ac, Step G1 H1 G3 H' ∧ G3 Dl = none ∧ H' Dl = some (kset X.prog X.w ac Dl) ∧ ac.length ≤ i + 1 ∧
          PostE c .st G S σ H Q (lcF ga t fe (wipeS S vs) (ds.drop (i + 1)) >>= fun ys => (match keysD ys with
            | some ks => .ok (.int (ks.foldl nubK ac).length)
            | none => .fail)), fun H' ⟨G3, r3⟩ => ⟨_, by omega, rfl, hlt, G3, r3⟩, fun x H3 hx => ?_⟩
        obtain ⟨G3, sp3, hd3⟩ := hy x H3 hx
        refine hg x _ H3 _ ⟨G3, wipeS S vs, d, rel2.grow sp3, hd3, ?_⟩
        unfold lcF at p2
        cases e1 : ga d (wipeS S vs) with
        | exc x => rw [e1] at p2; exact p2.elim
        | fail => rw [e1] at p2; exact p2.elim
        | ok S1 =>
          rw [e1, R.nox_ok, R.ok_bind] at p2
          intro G4 σ4 H4 sp4 rel4 f4
          refine ⟨wipe_eq (by rw [f4.len, wipe_length]) fun j hj => f4.sg j fun z => hj (hgs j z), ht σ4 H4 _ ⟨G4, S1, rel4, ?_⟩⟩
          cases e2 : t S1 with
          | exc x => rw [e2] at p2; exact p2.elim
          | fail => rw [e2] at p2; exact p2.elim
          | ok b =>
            rw [e2, R.nox_ok, R.ok_bind] at p2
            intro G5 H5 sp5
            have spA : Step G2 H2 G5 H5 := (sp3.trans sp4).trans sp5
            cases b with
            | false =>
              rw [if_neg Bool.false_ne_true] at p2 ⊢
              exact ⟨G5, ac, sp2.trans spA, (nD spA).1, (nD spA).2, by omega, p2⟩
            | true =>
              rw [if_pos rfl] at p2 ⊢
              refine he σ4 H5 _ ⟨G5, S1, rel4.grow sp5, ?_⟩
              cases e3 : fe S1 with
              | exc x => rw [e3] at p2; exact p2.elim
              | fail => rw [e3] at p2; exact p2.elim
              | ok y =>
                rw [e3, R.nox_ok, R.ok_bind] at p2
                intro v G6 H6 sp6 hv
                have hv : RD c.k G6 y v := hv
                have spB := spA.trans sp6
                cases e4 : lcF ga t fe (wipeS S vs) (ds.drop (i + 1)) with
                | exc x => exact absurd e4 (lcF_exc _)
                | fail => rw [e4] at p2; exact p2.elim
                | ok ys =>
                  rw [e4] at p2
                  have p2 : PostE c .st G S σ H Q (match keysD (y :: ys) with
                    | some ks => .ok (.int (ks.foldl nubK ac).length)
                    | none => .fail) := p2
                  simp only [keysD] at p2
                  cases ek : keyD y with
                  | none => rw [ek] at p2; exact p2.elim
                  | some kk =>
                    cases es : keysD ys with
                    | none => rw [ek, es] at p2; exact p2.elim
                    | some ks =>
                      rw [ek, es] at p2
                      obtain rfl := keyD_rd ek hv
                      refine ⟨ac, kk, (nD spB).2, ⟨rfl, scan_ok (by omega)⟩, ?_⟩
                      rintro L' rfl
                      have spC : ∀ L' : List Key, Step G1 H1 G6 (upd H6 Dl (kset X.prog X.w L' Dl)) := fun L' => by
                        have z := sp2.trans spB
                        exact ⟨z.g, z.h.upd hD, z.gh.upd (nD spB).1, z.gr⟩
                      by_cases hm : kk ∈ ac
                      · rw [if_pos hm]
                        refine ⟨G6, ac, spC ac, (nD spB).1, upd_same, by omega, ?_⟩
                        rw [R.ok_bind, es]
                        simpa only [List.foldl_cons, nubK, if_pos hm] using p2
                      · rw [if_neg hm]
                        refine ⟨G6, kk :: ac, spC _, (nD spB).1, upd_same, by simp only [List.length_cons]; omega, ?_⟩
                        rw [R.ok_bind, es]
                        simpa only [List.foldl_cons, nubK, if_neg hm] using p2
      · have hi : i = ds.length := by omega
        subst hi
        rw [List.drop_length] at p2
        refine .inl ⟨itm.1 _ (Nat.le_refl _), Dl, ac, rfl, hHD, ?_⟩
        have p2 : PostE c .st G S σ H Q (.ok (.int ac.length)) := p2
        exact p2 _ G2 H2 (sp.trans sp2) (.int _)
    · rw [if_neg hz] at p; exact p.elim
theorem d_lenScK {X : Cx} {c : Cf} {t : FT} {tg elt iter : Expr} {ifs : List Expr} {scope : Scope} {p1 p2 pos : Pos} {x : Str} (own : List (Str × Nat)) {ki gs : List Nat} {fi : FI} {ga : FG} {fe : FE} (hk : c.k.K = X.K) (hu : X.A.units + 64 < cLine) (hm : X.mg x = none) (hc : X.calm = true) (hN : X.N.Nodup) (hi : PI' X c ki tg iter fi) (ok : BlkOk X.N X.env.scope scope own)
    (hg : ∀ (s : Shared) (H : Hp) (C : Addr) (cl : List (Str × Addr)) (fp : List Addr), PG' (X.blk s H scope (compEnvC scope cl C X.env) fp) c.nx gs tg ga) (ht : ∀ (s : Shared) (H : Hp) (C : Addr) (cl : List (Str × Addr)) (fp : List Addr), PTs' (X.blk s H scope (compEnvC scope cl C X.env) fp) c.nx ifs t)
    (he : ∀ (s : Shared) (H : Hp) (C : Addr) (cl : List (Str × Addr)) (fp : List Addr), PE' (X.blk s H scope (compEnvC scope cl C X.env) fp) c.nx .st elt fe) (hgs : ∀ i, i ∈ gs → i ∈ own.map (·.2) := by decide) (hs : ∀ x, foldedSetIterable iter X.env x = pure x := by intro _; rfl)
    (hv : bootBuiltins x = some (.builtin "len") := by decide +kernel) (hgl : Gl X x := by rfl) (hn : x ≠ "__name__" := by decide) (hdb : (x == ("__debug__" : Str)) = false := by decide) :
    PE' X c .st (.Call (.Name x p1) [.SetComp elt [⟨tg, iter, ifs, 0⟩] scope p2] [] pos) (lenScK fi ga t fe (own.map (·.2))) :=
  peI (pe_callB call_lenK hgl hm hv (pa_cons (pe_scG (famK X.prog X.w X.K) hu hc hN hi ok hg ht he hs) pa_nil rfl) hn hdb rfl rfl) fun σ H Q q => lenScK_go hk (fun _ _ _ _ z => z) (fun _ _ _ z => z) (fun _ _ _ z => z) hgs q
end
end M
set_option Elab.async false
set_option linter.all false
set_option maxRecDepth 100000
set_option maxHeartbeats 4000000
namespace M
open PySem L2 PySem.W PyProof.Rows
section
variable {prog : Program} {w : World} {A : Around} {E : Value → Shared → Prop} {s : Shared} {a kS : Addr} {b : Bool} {vs : List Value} {e1 : Nat} {P : PySem.Fin → Shared → Prop}
end
section
variable {X : Cx} {k : Nat} {f : Addr} {fd : FuncData} {ps : List Str} {sp : Sp}
end
end M
set_option Elab.async false
set_option linter.all false
set_option maxRecDepth 100000
set_option maxHeartbeats 4000000
namespace M
open PySem L2
section
variable {X : Cx} {k : Kn} {c : Cf} {e : Expr} {pos : Pos} {den : List D → R D}
end
end M
set_option Elab.async false
set_option linter.all false
set_option maxRecDepth 100000
set_option maxHeartbeats 4000000
namespace M
open PySem L2 PySem.W PySem.Calls PyProof.Rows
section
variable {prog : Program} {w : World} {A : Around} {E : Value → Shared → Prop} {s : Shared}
theorem collect_tup {l : Addr} {vs : List Value} {Q : List Value → Shared → Prop} (hl : IsTup s.heap l vs.toArray)
    (h : Q vs { s with heap := (s.heap.push (seqObj "list" #[] 0)).update s.heap.objs.size (Obj.mapSeq (· ++ vs.toArray)) }) (hsz : vs.length ≤ sizeLine) :
    wpAny (model prog w) A (collect (.ref l)) Q E s := by
  obtain ⟨o, ho, hc, n, hd⟩ := id hl
  unfold collect
  refine wpAny_bind (wpAny_runValue (codeAny_builtin entry_proto_collect' ?_))
  show wpAny _ _ (do again (.builtin "list.__iadd__" ⟨[← newList [], .ref l], []⟩)) _ _ s
  refine wpAny_bind (wpAny_newList (wpAny_pure ⟨Code.quiet_builtin _ (by decide +kernel), codeAny_builtin entry_list_iadd' ?_⟩))
  show wpAny _ _ (Builtin.List.listExtendWith (.ref s.heap.objs.size) (.ref l) (.ref s.heap.objs.size)) _ _ { s with heap := s.heap.push (seqObj "list" #[] 0) }
  unfold Builtin.List.listExtendWith
  have ho' : (s.heap.push (seqObj "list" #[] 0)).get? l = some o := Heap.get?_push_of_some _ ho
  refine wpAny_bind (wpAny_typeOf (T := "tuple") ⟨o, ho', hc⟩ ?_)
  have ht : (Value.type "tuple" == Value.type "tuple") = true := by rfl
  rw [if_pos (by rw [ht]; simp)]
  refine wpAny_bind (listItems_at ho' hd ?_)
  refine wpAny_bind (listItems_at (xs := #[]) (n := 0) (Heap.get?_push_size _ rfl) rfl ?_)
  rw [if_neg (by simp)]
  refine wpAny_bind (listUpdate_at (xs := #[]) (n := 0) (Heap.get?_push_size _ rfl) rfl ?_ (Nat.zero_le _) (by show (#[] ++ vs.toArray).size ≤ sizeLine + 1; simp only [Array.size_append, List.size_toArray, List.length_nil]; omega))
  refine wpAny_pure ?_
  show wpAny (model prog w) A (do
      let o ← load s.heap.objs.size
      match o.data with
      | .seq xs _ => pure xs.toList
      | _ => unsupported "internal:collect") Q E { s with heap := (s.heap.push (seqObj "list" #[] 0)).update s.heap.objs.size (Obj.mapSeq (· ++ vs.toArray)) }
  refine wpAny_bind (wpAny_load (get?_update_seq (Heap.get?_push_size _ rfl) _) ?_)
  show wpAny _ _ (pure ((#[] : Array Value) ++ vs.toArray).toList) Q E _
  rw [show ((#[] : Array Value) ++ vs.toArray).toList = vs by simp]
  exact wpAny_pure h
theorem sortedT_of_sort {l : Addr} {vs : List Value} {kw : List (Str × Value)} {Q : Value → Shared → Prop} (hl : IsTup s.heap l vs.toArray) (hL : vs.length ≤ sizeLine) (ha1 : argsOk "sorted" ⟨[.ref l], kw⟩) (ha2 : ∀ x, argsOk "list.sort" ⟨[.ref x], kw⟩)
    (body : ∀ E' : Value → Shared → Prop, wpAny (model prog w) A.in1.in1 (Builtin.«list.sort» ⟨[.ref (s.heap.objs.size + 1)], kw⟩) (fun f s' => f = .done (.ret .none) ∧ Q (.ref (s.heap.objs.size + 1)) s') E' { s with heap := copyHeap s.heap vs }) :
    wpAny (model prog w) A (call (.builtin "sorted") [.ref l] kw) Q E s := by
  refine call_function_entry_kw kind_sorted plain_sorted entry_sorted ha1 ?_
  unfold Builtin.«sorted»
  refine wpAny_bind (m := checkCount "sorted" 1 1 _) (wpAny_pure ?_)
  refine wpAny_bind (collect_tup hl ?_ hL)
  refine wpAny_bind (wpAny_newList ?_ hL)
  have hsz : ((s.heap.push (seqObj "list" #[] 0)).update s.heap.objs.size (Obj.mapSeq (· ++ vs.toArray))).objs.size = s.heap.objs.size + 1 := by
    rw [Heap.size_update, size_push']
  show wpAny _ _ _ _ _ { s with heap := copyHeap s.heap vs }
  rw [hsz]
  refine wpAny_bind (wpAny_holding (wpAny_call_entry_kw slot_list_sort ⟨_, copyHeap_at s.heap vs, rfl⟩ entry_list_sort ?body (ha2 _)))
  case body =>
    show wpAny (model prog w) A.in1.in1 (Builtin.«list.sort» ⟨[.ref (s.heap.objs.size + 1)], kw⟩) _ _ _
    refine wpAny_mono (body _) (fun f s' hf => ?_) fun _ _ e => e
    obtain ⟨rfl, hq⟩ := hf
    exact ⟨_, rfl, wpAny_pure ⟨_, rfl, hq⟩⟩
variable {κ : KeyKind}
theorem sortedT_vals {l : Addr} {vs : List Value} {Q : Value → Shared → Prop} (hl : IsTup s.heap l vs.toArray) (S : SortsAt prog w A.in1.in1 { s with heap := sortingHeap (copyHeap s.heap vs) (s.heap.objs.size + 1) vs } κ vs) (hL : vs.length ≤ sizeLine)
    (h : Q (.ref (s.heap.objs.size + 1)) { s with heap := sortedAll s.heap vs (sortVals κ false vs vs).toArray }) : wpAny (model prog w) A (call (.builtin "sorted") [.ref l]) Q E s :=
  sortedT_of_sort hl hL (args_sorted1 _) (fun _ => args_list_sort _) fun _ => list_sort_vals (s := { s with heap := copyHeap s.heap vs }) (copyHeap_at s.heap vs) S hL ⟨rfl, h⟩
variable {β : Type} {R : Value → β → Prop} {vs : List Value} {bs : List β} {enc : β → PyData}
theorem sortedT_data {l : Addr} {Q : Value → Shared → Prop} (hl : IsTup s.heap l vs.toArray) (e : EachIs R vs bs) (er : EachIs (fun v b => ∃ as, Reads s.heap v (enc b) as) vs bs) (hal : AllAlike (bs.map enc)) (hk : Sortable (bs.map enc)) (hL : bs.length ≤ sizeLine)
    (hu : ∀ b, b ∈ bs → A.units + 2 + (enc b).depth < cLine) (h : ∀ out, out.length = bs.length → EachIs R out (bs.mergeSort (dataLe false enc)) → Q (.ref (s.heap.objs.size + 1)) { s with heap := sortedAll s.heap vs (List.toArray out) }) :
    wpAny (model prog w) A (call (.builtin "sorted") [.ref l]) Q E s := by
  have er' : EachIs (fun v b => ∃ as, Reads (sortingHeap (copyHeap s.heap vs) (s.heap.objs.size + 1) vs) v (enc b) as) vs bs := er.mono fun _ _ ⟨as, r⟩ => ⟨as, PyProof.Rows.Reads.keeps (fun _ _ => sorting_copy_old) r⟩
  exact sortedT_vals hl (SortsAt.data (s := { s with heap := sortingHeap (copyHeap s.heap vs) (s.heap.objs.size + 1) vs }) (each_map (R := fun v d => ∃ as, Reads (sortingHeap (copyHeap s.heap vs) (s.heap.objs.size + 1) vs) v d as) enc er') hal hk (bound_map hu)) (by rw [e.length]; exact hL)
    (h _ (by rw [sortVals_length false rfl]; exact e.length) (sortVals_data false e er' hal))
end
section
variable {X : Cx} {k : Kn}
def rSrtT (X : Cx) : List V → Hp → VK → Prop := fun vs H Q => ∃ a xs ds, vs = [V.ref a] ∧ SqT X.K H a xs ∧ DpAll X.K H xs ds ∧ PySem.W.AllAlike ds ∧ PySem.W.Sortable ds ∧ (∀ d, d ∈ ds → d.depth ≤ 60) ∧
  ∀ p, H p = none → Q (.ref p) (upd H p (.lst (((xs.zip ds).mergeSort (PySem.W.dataLe false (·.2))).map (·.1))))
theorem cr_srtT (hu : X.A.units + 64 < cLine) : CallR X (.builtin "sorted") (rSrtT X) := by
  intro pins s σ H vs us Q I r h
  obtain ⟨a, xs, ds, rfl, hs, hd, hal, hso, hdp, q⟩ := h
  obtain ⟨u, rfl, ru⟩ := vals1 r
  cases ru
  obtain ⟨its, rv, pl, hz⟩ := I.tuple hs
  have hlen := DpAll.length hd
  have hm : (xs.zip ds).map (·.2) = ds := by rw [List.map_snd_zip]; omega
  have ea := DpAll.zip hd rv
  refine sortedT_data (enc := fun (b : V × PyData) => b.2) (R := fun u (b : V × PyData) => RelV b.1 u) (bs := xs.zip ds) pl (EachIs.imp (fun _ _ z => z.1) ea) (EachIs.imp (fun u b z => Dp.reads I b.2 b.1 u z.2 z.1) ea) (by rw [hm]; exact hal) (by rw [hm]; exact hso) (by rw [List.length_zip]; omega) ?_ ?_
  · intro b hb
    have : b.2 ∈ ds := by rw [← hm]; exact List.mem_map.mpr ⟨b, hb, rfl⟩
    have := hdp _ this
    omega
  · intro out ho eo
    obtain ⟨m, F⟩ := I.fr
    obtain ⟨cn, _, N, _, kp⟩ := PySem.W.sorted_news (news := []) F (fun p hp => nomatch hp) its out
    have hobj := (N _ List.mem_cons_self).1
    have hv := each_vals eo
    refine ⟨.ref (s.heap.objs.size + 1), _, I.laid (a := s.heap.objs.size + 1) (t' := s.toks) (o := .lst _) kp (Nat.le_succ _) ⟨?_, out, cn, hv, hobj⟩, rfl, q _ (I.hok.fresh (Nat.le_succ _))⟩
    rw [List.length_map, List.length_mergeSort, List.length_zip]; omega
def srtAD : D → R D
  | .lst ds => if srtOk ds then .ok (.lst (srt ds)) else .fail
  | .tup ds => if srtOk ds then .ok (.lst (srt ds)) else .fail
  | _ => .fail
theorem c_srtA (hk : k.K = X.K) (hu : X.A.units + 64 < cLine) : ClR X k (.builtin "sorted") .fr (f1 srtAD) := cl1 ((cr_srt hu).or (cr_srtT hu)) fun G H x v d e n hg Q p => by
  cases x <;> simp only [srtAD] at hg <;> first | (cases hg; done) | skip
  · split at hg
    · rename_i ho
      cases hg; obtain ⟨a, vs, rfl, ha, r⟩ := n.tup
      have hd : doks 59 _ = true := (by unfold srtOk at ho; simp only [Bool.and_eq_true] at ho; exact ho.1.1)
      refine .inr ⟨a, vs, _, rfl, hk ▸ e.sqT ha.t, hk ▸ (r.mono e).dp 59 hd, fun p hp q hq => ?_, srt_sortable ho, fun q hq => ?_, fun pp hp => p _ _ _ (Step.new' e hp) ⟨pp, _, rfl, e.free hp, hp, upd_same, .lst r.srt⟩⟩
      · obtain ⟨d1, h1, rfl⟩ := toPs_mem hp
        obtain ⟨d2, h2, rfl⟩ := toPs_mem hq
        unfold srtOk at ho
        simp only [Bool.and_eq_true, List.all_eq_true] at ho
        exact alikeD_of _ _ (ho.1.2 d1 h1 d2 h2)
      · obtain ⟨d1, h1, rfl⟩ := toPs_mem hq
        have := (dok_lay 59 d1 (doks_mem hd h1)).2
        omega
    · cases hg
  · split at hg
    · rename_i ho
      cases hg; obtain ⟨a, vs, rfl, ha, r⟩ := n.lst e
      have hd : doks 59 _ = true := (by unfold srtOk at ho; simp only [Bool.and_eq_true] at ho; exact ho.1.1)
      refine .inl ⟨a, vs, _, rfl, SqL.of ha, hk ▸ (r.mono e).dp 59 hd, fun p hp q hq => ?_, srt_sortable ho, fun q hq => ?_, fun pp hp => p _ _ _ (Step.new' e hp) ⟨pp, _, rfl, e.free hp, hp, upd_same, .lst r.srt⟩⟩
      · obtain ⟨d1, h1, rfl⟩ := toPs_mem hp
        obtain ⟨d2, h2, rfl⟩ := toPs_mem hq
        unfold srtOk at ho
        simp only [Bool.and_eq_true, List.all_eq_true] at ho
        exact alikeD_of _ _ (ho.1.2 d1 h1 d2 h2)
      · obtain ⟨d1, h1, rfl⟩ := toPs_mem hq
        have := (dok_lay 59 d1 (doks_mem hd h1)).2
        omega
    · cases hg
end
end M
set_option Elab.async false
set_option linter.all false
set_option maxRecDepth 100000
set_option maxHeartbeats 4000000
namespace MxD
open PySem
open Sem (wp)
theorem nm : (toString "max" ++ toString ".loop" : String) = "max.loop" := by decide
theorem argsD (a d : Value) : argsOk "max" ⟨[a], [(Str.ofString "default", d)]⟩ := by unfold argsOk; kernel_rfl
abbrev kwD (d : Value) : List (Str × Value) := [(Str.ofString "default", d)]
section
variable {p : Program} {w : World} {A : Around} {R : Result → Shared → Prop} {I B : Addr} {fp wr : List Addr} {n : Nat} {P : Nat → Value → Prop} {St : Nat → Heap → Prop} {bt : Nat → Nat → Bool} {dv : Value}
theorem lp (W : Walks p w A.in1 I fp wr n P St) (cm : CmpOf p w A.in1 .Gt P bt) (out : B ∉ fp) : ∀ (m i : Nat) (s : Shared) (v : Value) (c : Nat), n - (i + 1) = m → i + 1 ≤ n → St (i + 1) s.heap → P (argBest bt i) v →
    s.heap.get? B = some { cls := .type "list", dict := none, data := .seq #[v, v] c, slots := #[] } →
    (∀ u h tk, P (argBest bt (n - 1)) u → (∀ b o, b ∉ wr → b ≠ B → s.heap.get? b = some o → h.get? b = some o) → R (.ok (.ret u)) { s with heap := h, toks := tk }) →
    codeAny (model p w) A (.builtin "max.loop" ⟨[.ref I, .none, .ref B], kwD dv⟩) R s := by
  have ow : B ∉ wr := fun z => out (W.sub _ z)
  intro m
  induction m with
  | zero =>
    intro i s v c em le st pb hb q
    have en : i + 1 = n := by omega
    refine codeAny_builtin F.entry_max_loop ?_
    rw [Around.under_plainId F.plain_max_loop _]
    show wpAny _ A.in1 (seqItems? (.ref B) >>= _) _ _ s
    refine wpAny_bind (wpAny_seqItems hb rfl ?_)
    show wpAny _ A.in1 (tryCatch (pyNext (.ref I)) _ >>= _) _ _ s
    refine wpAny_bind (wpAny_tryCatch (W.done s _ _ (en ▸ st) fun h1 tk k1 => ?_))
    have hb1 := k1 B _ ow hb
    show wpAny _ A.in1 (updateSeq B (fun _ => #[]) >>= _) _ _ _
    refine wpAny_bind (wpAny_updateSeq hb1 rfl (wpAny_bind (wpAny_letGo (wpAny_pure ?_))))
    exact q v _ tk (by rw [← en]; exact pb) fun b o nw nb e => (Heap.get?_update_other _ _ (Ne.symm nb)).trans (k1 b o nw e)
  | succ m ih =>
    intro i s v c em le st pb hb q
    have lt : i + 1 < n := by omega
    refine codeAny_builtin F.entry_max_loop ?_
    rw [Around.under_plainId F.plain_max_loop _]
    show wpAny _ A.in1 (seqItems? (.ref B) >>= _) _ _ s
    refine wpAny_bind (wpAny_seqItems hb rfl ?_)
    show wpAny _ A.in1 (tryCatch (pyNext (.ref I)) _ >>= _) _ _ s
    refine wpAny_bind (wpAny_tryCatch (W.item (i + 1) s _ _ lt st fun u h1 tk pu st1 k1 => ?_))
    have hb1 := k1 B _ ow hb
    show wpAny _ A.in1 (tryCatch (holding [u, u] (richCompare .Gt u v >>= _)) _ >>= _) _ _ _
    refine wpAny_bind (wpAny_tryCatch (wpAny_holding (wpAny_bind (cm (i + 1) (argBest bt i) u v _ _ _ pu pb (wpAny_bind (wpAny_holding (wpAny_truthy_bool (wpAny_bind (wpAny_letGo (wpAny_pure ?_)))))))))) 
    cases hc : bt (i + 1) (argBest bt i) with
    | true =>
      simp only [if_true]
      refine wpAny_bind (wpAny_updateSeq hb1 rfl (wpAny_bind (wpAny_letGo ?_)))
      rw [nm]
      refine wpAny_pure ⟨plainId_quiet F.plain_max_loop _, ih (i + 1) _ u _ (by omega) lt (W.frame _ _ _ st1 fun b bf o e => ?_) (by simp only [argBest, hc, if_true]; exact pu) (Heap.get?_update_self _ hb1 rfl) fun u' h2 tk2 p2 k2 => ?_⟩
      · exact (Heap.get?_update_other _ _ (fun z : B = b => out (by rw [z]; exact bf))).trans e
      · exact q u' h2 tk2 p2 fun b o nw nb e => k2 b o nw nb ((Heap.get?_update_other _ _ (Ne.symm nb)).trans (k1 b o nw e))
    | false =>
      simp only [Bool.false_eq_true, if_false]
      refine wpAny_bind (wpAny_letGo ?_)
      rw [nm]
      exact wpAny_pure ⟨plainId_quiet F.plain_max_loop _, ih (i + 1) _ v c (by omega) lt st1 (by simp only [argBest, hc, Bool.false_eq_true, if_false]; exact pb) hb1 fun u' h2 tk2 p2 k2 => q u' h2 tk2 p2 fun b o nw nb e => k2 b o nw nb (k1 b o nw e)⟩
theorem lp0 (W : Walks p w A.in1 I fp wr n P St) (cm : CmpOf p w A.in1 .Gt P bt) (out : B ∉ fp) {s : Shared} {c : Nat} (st : St 0 s.heap)
    (hb : s.heap.get? B = some { cls := .type "list", dict := none, data := .seq #[] c, slots := #[] })
    (q0 : n = 0 → ∀ h tk, (∀ b o, b ∉ wr → b ≠ B → s.heap.get? b = some o → h.get? b = some o) → R (.ok (.ret dv)) { s with heap := h, toks := tk })
    (q : 0 < n → ∀ u h tk, P (argBest bt (n - 1)) u → (∀ b o, b ∉ wr → b ≠ B → s.heap.get? b = some o → h.get? b = some o) → R (.ok (.ret u)) { s with heap := h, toks := tk }) :
    codeAny (model p w) A (.builtin "max.loop" ⟨[.ref I, .none, .ref B], kwD dv⟩) R s := by
  have ow : B ∉ wr := fun z => out (W.sub _ z)
  refine codeAny_builtin F.entry_max_loop ?_
  rw [Around.under_plainId F.plain_max_loop _]
  show wpAny _ A.in1 (seqItems? (.ref B) >>= _) _ _ s
  refine wpAny_bind (wpAny_seqItems hb rfl ?_)
  show wpAny _ A.in1 (tryCatch (pyNext (.ref I)) _ >>= _) _ _ s
  rcases Nat.eq_zero_or_pos n with hn | hn
  · refine wpAny_bind (wpAny_tryCatch (W.done s _ _ (hn ▸ st) fun h1 tk k1 => ?_))
    show wpAny _ A.in1 (rule _ >>= _) _ _ _
    refine wpAny_bind (wpAny_rule ?_)
    exact wpAny_pure (q0 hn _ tk fun b o nw nb e => k1 b o nw e)
  · refine wpAny_bind (wpAny_tryCatch (W.item 0 s _ _ hn st fun u h1 tk pu st1 k1 => ?_))
    have hb1 := k1 B _ ow hb
    show wpAny _ A.in1 (updateSeq B (fun _ => #[u, u]) >>= _) _ _ _
    refine wpAny_bind (wpAny_updateSeq hb1 rfl ?_)
    rw [nm]
    refine wpAny_pure ⟨plainId_quiet F.plain_max_loop _, lp W cm out _ 0 _ u _ rfl hn (W.frame _ _ _ st1 fun b bf o e => ?_) pu (Heap.get?_update_self _ hb1 rfl) fun u' h2 tk2 p2 k2 => ?_⟩
    · exact (Heap.get?_update_other _ _ (fun z : B = b => out (by rw [z]; exact bf))).trans e
    · exact q hn u' h2 tk2 p2 fun b o nw nb e => k2 b o nw nb ((Heap.get?_update_other _ _ (Ne.symm nb)).trans (k1 b o nw e))
end
section
variable {p : Program} {w : World} {A : Around} {E : Value → Shared → Prop} {s : Shared} {l : Addr} {xs : Array (Int × Tok)} {dv : Value}
theorem mx {Q : Value → Shared → Prop} (hh : A.handled = none) (hl : s.heap.IsList l (intItems xs))
    (q0 : xs.size = 0 → ∀ h tk, (∀ b o, s.heap.get? b = some o → h.get? b = some o) → Q dv { s with heap := h, toks := tk })
    (q : 0 < xs.size → ∀ v h tk, (intItems xs)[argBest (fun i j => decide (numAt xs i > numAt xs j)) (xs.size - 1)]? = some v → (∀ b o, s.heap.get? b = some o → h.get? b = some o) → Q v { s with heap := h, toks := tk }) :
    wpAny (model p w) A (call (.builtin "max") [.ref l] (kwD dv)) Q E s := by
  refine PyProof.Rows.kmk_tree F.kind_max F.plain_max F.entry_max (argsD _ _) ?_
  show wpAny _ A.in1 (Builtin.Builtins.bindParams "max" ["key", "default"] 0 ⟨[], kwD dv⟩ >>= _) _ _ s
  refine wpAny_bind (wpAny_of_eq (show Builtin.Builtins.bindParams "max" ["key", "default"] 0 ⟨[], kwD dv⟩ = pure [none, some dv] from rfl) ?_)
  refine wpAny_bind (wpAny_pure ?_)
  refine wpAny_bind (iter_intList hl fun s2 e st hfp ne => ?_)
  subst e
  refine wpAny_bind (wpAny_newObj_type ?_)
  have W := Walks.list (prog := p) (w := w) (A := A.in1) hh s.heap.objs.size l ne (intItems xs)
  have sz : (intItems xs).size = xs.size := by simp [intItems]
  have old : ∀ {h2 : Heap} (hk : ∀ b o, b ∉ [s.heap.objs.size] → (s.heap.push { cls := .type "list_iterator", data := .fields #[.ref l, .int 0 0] }).get? b = some o → h2.get? b = some o), ∀ b o, s.heap.get? b = some o → h2.get? b = some o := fun hk => old_kept hk
  rw [nm]
  refine wpAny_pure ⟨plainId_quiet F.plain_max_loop _, lp0 W (CmpOf.ints_gt (numAt xs) (fun _ _ => intItems_at)) (fun z => Nat.lt_irrefl _ (hfp _ z)) (W.frame _ _ _ st fun b _ o e => Heap.get?_push_of_some _ e) (Heap.get?_push_size _ rfl) (fun hn h tk hk => ?_) (fun hn v h tk hP hk => ?_)⟩
  · exact q0 (by omega) h tk (old fun b o nw e => hk b o nw (Nat.ne_of_lt (Heap.lt_size e)) (Heap.get?_push_of_some _ e))
  · exact q (by omega) v h tk (by rw [← sz]; exact hP) (old fun b o nw e => hk b o nw (Nat.ne_of_lt (Heap.lt_size e)) (Heap.get?_push_of_some _ e))
end
end MxD
namespace M
open PySem L2
section
variable {X : Cx} {c : Cf} {k : Kn} {e : Expr} {pos : Pos}
end
end M
set_option Elab.async false
set_option linter.all false
set_option maxRecDepth 100000
set_option maxHeartbeats 4000000
namespace PySem
namespace SupX
open PySem.W PySem.Calls PyProof.Rows PySem.HandSPX
section
variable {prog : Program} {w : World} {A : Around} {E : Value → Shared → Prop} {K : Frag} {C fI : Addr} {fs : List Str}
end
end SupX
end PySem
set_option Elab.async false
set_option linter.all false
set_option maxRecDepth 100000
set_option maxHeartbeats 4000000
namespace PySem
namespace SupX
open PySem.W PySem.Calls PyProof.Rows PySem.HandSPX
section
variable {prog : Program} {w : World} {A : Around} {E : Value → Shared → Prop} {K : Frag} {C fI : Addr} {fs : List Str}
end
end SupX
end PySem
namespace M
open PySem L2 PySem.W PySem.Calls PyProof.Rows
section
variable {X : Cx} {C fI : Addr}
end
end M
set_option Elab.async false
set_option linter.all false
set_option maxRecDepth 100000
set_option maxHeartbeats 4000000
namespace M
open PySem L2
def xix : Nat := 1000000
def Kn.at (k : Kn) (a : Addr) : Kn := ⟨k.K, fun i => if i = xix then some (a, []) else k.cl i⟩
theorem Kn.at_cl {k : Kn} {a : Addr} {i : Nat} (h : i ≠ xix) : (k.at a).cl i = k.cl i := if_neg h
theorem Kn.up {k : Kn} {a : Addr} (h0 : k.cl xix = none) {i : Nat} {p : Addr × List Str} (h : k.cl i = some p) : (k.at a).cl i = some p := by
  rw [Kn.at_cl]; exact h
  rintro rfl; rw [h0] at h; cases h
mutual
theorem RD.up {k : Kn} {G : Hp} {a : Addr} (h0 : k.cl xix = none) : ∀ {d : D} {v : V}, RD k G d v → RD (k.at a) G d v
  | _, _, .non => .non
  | _, _, .bl b => .bl b
  | _, _, .int i => .int i
  | _, _, .str x => .str x
  | _, _, .ty n => .ty n
  | _, _, .tup h r => .tup h (RDs.up h0 r)
  | _, _, .lst h r => .lst h (RDs.up h0 r)
  | _, _, .scr h => .scr h
  | _, _, .cls h => .cls (Kn.up h0 h)
  | _, _, .dic h l r => .dic h l (RDs.up h0 r)
  | _, _, .dit h l r => .dit h l (RDs.up h0 r)
  | _, _, .dkf h l r => .dkf h l (RDs.up h0 r)
  | _, _, .obj c h r => .obj (Kn.up h0 c) h (RDs.up h0 r)
theorem RDs.up {k : Kn} {G : Hp} {a : Addr} (h0 : k.cl xix = none) : ∀ {ds : List D} {vs : List V}, RDs k G ds vs → RDs (k.at a) G ds vs
  | _, _, .nil => .nil
  | _, _, .cons a b => .cons (RD.up h0 a) (RDs.up h0 b)
end
theorem Gc.up {mg : Str → Option Value} {k : Kn} {x : Str} {d : D} {a : Addr} (h0 : k.cl xix = none) (h : Gc mg k x d) : Gc mg (k.at a) x d := by
  obtain ⟨v, u, h1, h2, h3⟩ := h.ex
  exact ⟨v, u, h1, h2, fun G => (h3 G).up h0⟩
section
variable {P : Program} {w : World} {K : PySem.W.Frag} {mg : Str → Option Value} {base : Heap}
theorem fn_okX {k : Kn} {fr : Bool} {as : List Nat} {x qual : Str} {params : Arguments} {body : List Stmt} {scope : Scope} {dvs : List V} {kws : List (Str × V)} {f : Addr} {fd : FuncData} {N ps : List Str} {lv : Nat} {s : FS} (F : FunD K x qual params body scope dvs kws f fd) (S : FnScope N ps scope)
    (hb : ∀ (cdv : Value) (A : Around) (outer : List PySem.Env) (sh : Shared) (H G0 : Hp) (E : XK), Room lv (A.deeper (PyProof.Rows.envOfC qual scope sh.heap.objs.size f cdv)) → L2N.Takes (cxOf (L2N.CX P w) P w K mg base N qual scope f cdv A outer sh H E) (liftX E) →
      PB' (cxOf (L2N.CX P w) P w K mg base N qual scope f cdv A outer sh H E) ⟨k, H, G0, liftX E⟩ fr as body s) :
    FnOk P w K mg base (L2N.CX P w) (lv + 1) f fd ps (SpF k fr ps.length (runF fr N.length s)) := by
  refine F.ok S (fun vs H Q E q => q.1) fun cdv A outer sh H vs Q E hr q => ?_
  exact body_ok (X := cxOf (L2N.CX P w) P w K mg base N qual scope f cdv A outer sh H E) (fun G0 => hb cdv A outer sh H G0 E hr (L2N.takes_of rfl rfl rfl rfl)) q
theorem init_okX {k : Kn} {as : List Nat} {x qual : Str} {params : Arguments} {body : List Stmt} {scope : Scope} {dvs : List V} {kws : List (Str × V)} {f : Addr} {fd : FuncData} {N ps : List Str} {lv ci : Nat} {s : FS} (F : FunD K x qual params body scope dvs kws f fd) (S : FnScope N ps scope) (h0 : 0 ∉ as)
    (hb : ∀ (cdv : Value) (A : Around) (outer : List PySem.Env) (sh : Shared) (H H0 G0 : Hp) (E : XK), Room lv (A.deeper (PyProof.Rows.envOfC qual scope sh.heap.objs.size f cdv)) → L2N.Takes (cxOf (L2N.CX P w) P w K mg base N qual scope f cdv A outer sh H E) (liftX E) →
      PB' (cxOf (L2N.CX P w) P w K mg base N qual scope f cdv A outer sh H E) ⟨k, H0, G0, liftX E⟩ false as body s) :
    FnOk P w K mg base (L2N.CX P w) (lv + 1) f fd ps (SpN k ci ps.length (runN N.length ci s)) := by
  refine F.ok S (fun vs H Q E q => q.1) fun cdv A outer sh H vs Q E hr q => ?_
  exact body_init (X := cxOf (L2N.CX P w) P w K mg base N qual scope f cdv A outer sh H E) h0 (fun H0 G0 => hb cdv A outer sh H H0 G0 E hr (L2N.takes_of rfl rfl rfl rfl)) q
end
structure CalleeX (P : Program) (w : World) (K : PySem.W.Frag) (mg : Str → Option Value) (base : Heap) (k : Kn) (lv : Nat) (x : Str) (n : Nat) (fr : Bool) (den : List D → R D) : Prop where
  ex : ∃ (f : Addr) (fd : FuncData) (ps : List Str), ps.length = n ∧ FnOk P w K mg base (L2N.CX P w) lv f fd ps (SpF k fr n den) ∧ mg x = some (.ref f) ∧ PySem.W.keepIn K (.ref f) = true ∧ Binds K fd ps []
section
variable {X : Cx} {c : Cf} {kd k1 k2 k3 : Kd} {a b e o : Expr} {f g h : FE} {pos apos : Pos} {fr : Bool} {x : Str} {den : List D → R D} {ci : Nat}
def eCX (o : List D → R D) (g : FA) : FE := fun S => g S >>= fun xs => o xs
theorem callX_go {n : Nat} {fa : FA} {σ : L2.St} {H : Hp} {Q : VK} (hl : ∀ S ds, fa S = .ok ds → ds.length = n) (q : RdE c (kdOf fr) (eCX den fa) σ H Q) : RdA c false fa σ H fun vs H1 => SpF c.k fr n den vs H1 Q (WE c.W σ) := by
  obtain ⟨G, S, rel, p⟩ := q
  have p : PostE c (kdOf fr) G S σ H Q (fa S >>= fun ds => den ds) := p
  refine ⟨G, S, rel, ?_⟩
  cases e0 : fa S with
  | exc x => rw [e0] at p; exact p
  | fail => rw [e0] at p; exact p
  | ok ds =>
    rw [e0] at p
    intro vs G1 H1 s1 q1
    have q1 : RDs c.k G1 ds vs := q1
    refine ⟨by rw [← q1.length]; exact hl S ds e0, G1, ds, s1.gh, q1, ?_⟩
    have p : PostE c (kdOf fr) G S σ H Q (den ds) := p
    cases e1 : den ds with
    | ok d => rw [e1] at p; exact fun v G' H' s2 r2 => p v G' H' (s1.trans s2) (r2.mono s1.h)
    | exc x =>
      rw [e1] at p
      have p : PX c σ x := p
      exact fun _ cls da G' H' s2 xr => p cls da G' H' ((rel.grow s1).st.trans s2) xr
    | fail => rw [e1] at p; exact p.elim
theorem d_callX {lv m n : Nat} {p : Pos} {es : List Expr} {fa : FA} (F : CalleeX X.prog X.w X.K X.mg X.base c.k lv x n fr den) (hr : Room m X.A) (hle : lv ≤ m) (tk : L2N.Takes X c.W) (ha : PA' X c false (e :: es) fa) (hl : Len n fa) (hg : Gl X x := by rfl) (hdb : (x == ("__debug__" : Str)) = false := by decide)
    (hs : starEach (e :: es) X.env = (false, eval e X.env) :: starEach es X.env := by rfl) (hs2 : ((backTo pos (starEach es X.env)).any fun x => x.1) = false := by rfl) : PE' X c (kdOf fr) (.Call (.Name x p) (e :: es) [] pos) (eCX den fa) := by
  obtain ⟨f, fd, ps, hn, ok, hm, hk, hb⟩ := F.ex
  exact peI (pe_callS ok (hr.mono hle) hg hm hk hb (fun σ => L2N.passAt tk σ) ha hdb hs hs2) fun σ H Q q => callX_go hl q
def eMX (ci : Nat) (den : List D → R D) (f : FE) (fa : FA) : FE := fun S => f S >>= fun o => if o.isObj ci then fa S >>= fun ds => den (o :: ds) else .fail
end
end M
set_option Elab.async false
set_option linter.all false
set_option maxRecDepth 100000
set_option maxHeartbeats 4000000
namespace M
open PySem L2
section
variable {X : Cx} {c : Cf} {kd k1 k2 k3 : Kd} {a b e o : Expr} {f g h : FE} {pos apos : Pos} {fr : Bool} {x : Str} {den : List D → R D} {ci : Nat}
structure RaO (K : PySem.W.Frag) (mg : Str → Option Value) (k : Kn) (x : Str) (ci : Nat) : Prop where
  ex : ∃ C, k.cl ci = some (C, []) ∧ PySem.W.excIn K C [.type "ValueError", .type "Exception", .type "BaseException", .type "object"] "ValueError.__new__" = true ∧ mg x = some (.ref C) ∧ PySem.W.keepIn K (.ref C) = true ∧
    PySem.W.subIn K (.ref C) (.type "BaseException") = some true ∧ PySem.W.typeIn K (.ref C) = some (.type "type")
def sExc0 (ci : Nat) : FS := fun _ => .exc ⟨ci, []⟩
theorem s_raise0 {j : Nat} {p p2 pos' : Pos} {m : Str} (R : RaO X.K X.mg c.k x ci) (hc : X.calm = true) (tk : L2N.Takes X c.W) (hg : Gl X x := by rfl) (hdb : (x == ("__debug__" : Str)) = false := by decide) :
    PS' X c fr [] (.Raise (some (.Call (.Name x p) [.Constant (.str m) j p2] [] pos)) none pos') (sExc0 ci) := by
  obtain ⟨C, hcl, h1, h2, h3, h4, h5⟩ := R.ex
  refine psI (L2N.ps_raise hc tk (L2N.pmk_own PySem.F.excBase_ValueError h1 h2 h3 (raises_own h4 h5) hg hdb)) fun Dn σ H ⟨G, S, rel, p⟩ => ?_
  have p : PXs c ⟨ci, []⟩ := p
  exact p σ (.ref C) none G H rel.st ⟨C, [], hcl, rfl, .inl ⟨rfl, rfl, rfl⟩⟩
end
end M
set_option Elab.async false
set_option linter.all false
set_option maxRecDepth 100000
set_option maxHeartbeats 4000000
namespace M
open PySem L2
def PostS1 (c : Cf) (fr : Bool) (as : List Nat) (G : Hp) (S : Env) (σ : L2.St) (H : Hp) (Dn : Ends) : R (Fl × Env) → Prop
  | .ok z => PostS c fr as G S σ H Dn (.ok z)
  | .exc x => PX c σ x
  | .fail => False
theorem PostS1.of {c : Cf} {fr : Bool} {as : List Nat} {G : Hp} {S : Env} {σ : L2.St} {H : Hp} {Dn : Ends} {r : R (Fl × Env)} (p : PostS c fr as G S σ H Dn r) : PostS1 c fr as G S σ H Dn r := by
  cases r with
  | ok z => exact p
  | exc x => exact p σ
  | fail => exact p
section
variable {X : Cx} {c : Cf} {kd k1 k2 k3 : Kd} {a b e o : Expr} {f g h : FE} {t u : FT} {s r : FS} {pos apos : Pos} {fr : Bool} {x : Str} {den : List D → R D} {ci : Nat} {as bs : List Nat} {st : Stmt} {sts : List Stmt}
theorem PostS1.gr {G H G' H' : Hp} {S : Env} {σ : L2.St} {Dn : Ends} {q : R (Fl × Env)} (rel : Rel c G S σ H) (sp : Step G H G' H') (p : PostS1 c fr as G S σ H Dn q) : PostS1 c fr as G' S σ H' Dn q := by
  cases q with
  | ok z => exact PostS.gr rel sp p
  | exc x => exact p
  | fail => exact p
theorem PostS1.sub {as' : List Nat} {G H : Hp} {S : Env} {σ : L2.St} {Dn : Ends} {q : R (Fl × Env)} (hs : ∀ i, i ∈ as' → i ∈ as) (p : PostS1 c fr as G S σ H Dn q) : PostS1 c fr as' G S σ H Dn q := by
  cases q with
  | ok z => exact PostS.sub hs p
  | exc x => exact p
  | fail => exact p
theorem Rel.back {G H G' H' : Hp} {S S' : Env} {σ σ' : L2.St} {W : WX} (rel : Rel c G S σ H) (r2 : Rel ⟨c.k, H, G, W⟩ G' S' σ' H') : Rel c G' S' σ' H' :=
  ⟨rel.st.trans r2.st, r2.len, r2.fz, fun i d q => by
    obtain ⟨a, o, e, g, h0, ho, ct⟩ := r2.ow i d q
    exact ⟨a, o, e, g, rel.st.h.free h0, ho, ct⟩, r2.nd⟩
end
end M
set_option Elab.async false
set_option linter.all false
set_option maxRecDepth 100000
set_option maxHeartbeats 4000000
namespace PySem
namespace SupX
open PySem.W PySem.Spec PySem.Calls PyProof.Rows
section
variable {prog : Program} {w : World} {A : Around} {E : Value → Shared → Prop} {s : Shared} {K : Frag} {x D : Addr} {ox : Obj} {od : Option Obj}
end
end SupX
end PySem
set_option Elab.async false
set_option linter.all false
set_option maxRecDepth 100000
set_option maxHeartbeats 4000000
namespace M
open PySem L2
structure IsT (K : PySem.W.Frag) (k : Kn) (ce : Nat) (t : D) (b : Bool) : Prop where
  ex : ∃ C nm, k.cl ce = some (C, nm) ∧ ExcC K C ∧ ((∃ ci C2 nm2, t = .cls ci ∧ ci ≠ xix ∧ k.cl ci = some (C2, nm2) ∧ PySem.W.kitOne K (.ref C) (.ref C2) = some b) ∨ ∃ n, t = .ty n ∧ PySem.W.kitOne K (.ref C) (.type n) = some b)
section
variable {k : Kn} {K : PySem.W.Frag} {a : Addr}
theorem IsT.exc {ce : Nat} {t : D} {b : Bool} {C : Addr} {nm : List Str} (h : IsT K k ce t b) (hc : k.cl ce = some (C, nm)) : ExcC K C := by
  obtain ⟨C', nm', h1, h2, _⟩ := h.ex
  rw [hc] at h1; cases h1
  exact h2
theorem IsT.val {ce : Nat} {t : D} {b : Bool} {G : Hp} {v : V} {C : Addr} {nm : List Str} (h : IsT K k ce t b) (hc : k.cl ce = some (C, nm)) (r : RD (k.at a) G t v) : ∃ cv, (∀ u, RelV v u → u = cv) ∧ PySem.W.kitOne K (.ref C) cv = some b := by
  obtain ⟨C', nm', h1, h2, h3⟩ := h.ex
  rw [hc] at h1; cases h1
  rcases h3 with ⟨ci, C2, nm2, rfl, hne, h4, h5⟩ | ⟨n, rfl, h5⟩
  · cases r with
    | cls hr =>
      rw [Kn.at_cl hne, h4] at hr
      cases hr
      exact ⟨.ref C2, fun u hu => hu, h5⟩
  · cases r with
    | ty => exact ⟨.type n, fun u hu => hu, h5⟩
end
section
variable {X : Cx} {c : Cf} {k : Kn} {kd k1 k2 k3 : Kd} {e o : Expr} {f g h : FE} {pos apos : Pos} {fr : Bool} {x : Str}
end
end M
set_option Elab.async false
set_option linter.all false
set_option maxRecDepth 100000
set_option maxHeartbeats 4000000
namespace M
open PySem L2 PySem.W
abbrev FnS : Type := Option (Str × Str × Arguments × FuncBody × Scope × Addr × List Str × Addr)
def supI (K : PySem.W.Frag) (x : Str) : Addr := He.ma K (He.ga K x) "__init__"
def seenS (K : PySem.W.Frag) (x : Str) : FnS := (K.lookup (supI K x)).bind fun o => match o.data with
  | .func z => some (z.name, z.qualname, z.params, z.body, z.scope, z.globals, z.closure.map (·.1), z.builtins)
  | _ => none
structure Sx where
  x : Str
  fs : List Str
  qual : Str
  params : Arguments
  body : List Stmt
  scope : Scope
def Sx.val (s : Sx) : FnS := some ("__init__", s.qual, s.params, .stmts s.body, s.scope, mainGlobals, ["__class__"], builtinsNs)
def isNone : Value → Bool
  | .none => true
  | _ => false
def exoB (K : PySem.W.Frag) (C : Addr) : Bool := match K.lookup C with
  | some ⟨.type "type", _, .cls cd, sl⟩ => (match cd.mro, sl.toList with
    | .ref C' :: bm, [_, _, _, _, some (.builtin n), _] => C' == C && (n == "ValueError.__new__" && (!cd.hasDel && (cd.hasDict && PySem.HandSPX.refsVE bm)))
    | _, _ => false)
  | _ => false
def fnB (file : Str) (K : PySem.W.Frag) (s : Sx) : Bool := match K.lookup (supI K s.x) with
  | some ⟨_, _, .func z, _⟩ => codeIn K z.code s.qual && (isNone z.defaults && (isNone z.kwdefaults && (match z.code, z.closure with
    | .ref cda, [(_, cc)] => (match K.lookup cda with
      | some ⟨_, _, .fields vs, _⟩ => (match (vs[2]? : Option Value) with
        | some (.str f _) => decide (f = file)
        | _ => false)
      | _ => false) && (match K.lookup cc with
      | some ⟨_, _, .cell (some (.ref C')), _⟩ => decide (C' = He.ga K s.x)
      | _ => false)
    | _, _ => false)))
  | _ => false
def supB (file : Str) (K : PySem.W.Frag) (s : Sx) : Bool :=
  exoB K (He.ga K s.x) && (He.eqO (findIn K (.ref (He.ga K s.x)) "__setattr__") (some (some (.builtin "object.__setattr__"))) && ((s.fs.all fun f => He.eqO (findIn K (.ref (He.ga K s.x)) f) (some none)) &&
  (He.eqO (ks_superIn K (He.ga K s.x) (He.ga K s.x) "__init__") (some (some (.builtin "ValueError.__init__"))) && (decide (subIn K (.ref (He.ga K s.x)) (.type "ValueError") = some true) && (decide (mroIn K (He.ga K s.x) (.ref (He.ga K s.x)) = some true) &&
  (He.eqO (nsIn K cStatics "thirdparty.any") (some none) && (He.eqO (findIn K (.ref (He.ga K s.x)) "__init__") (some (some (.ref (supI K s.x)))) && (decide (typeIn K (.ref (supI K s.x)) = some (.type "function")) &&
  (He.eqO (nsIn K mainGlobals "super") (some none) && (keepIn K (.ref (He.ga K s.x)) && (decide (subIn K (.ref (He.ga K s.x)) (.type "BaseException") = some true) && (decide (typeIn K (.ref (He.ga K s.x)) = some (.type "type")) && fnB file K s))))))))))))
def kwAt (w : Wh) (x : Str) (K : PySem.W.Frag) : Addr := match K.lookup (w.ad K) with
  | some ⟨_, _, .func z, _⟩ => (match z.kwdefaults with
    | .ref D => (match nsIn K D x with
      | some (some (.ref a)) => a
      | _ => 0)
    | _ => 0)
  | _ => 0
inductive XF where
  | isT (x y : Str) (b : Bool)
  | isTy (x : Str) (n : String) (b : Bool)
  | ecc (x : Str)
  | fld (x f : Str)
  | cme (x m : Str)
  | dfl (w : Wh) (x : Str) (d : D)
  | sf (x : Str)
def XF.ok (K : PySem.W.Frag) : XF → Bool
  | .isT x y b => decide (kitOne K (.ref (He.ga K x)) (.ref (He.ga K y)) = some b)
  | .isTy x n b => decide (kitOne K (.ref (He.ga K x)) (.type n) = some b)
  | .ecc x => He.eqO (findIn K (.ref (He.ga K x)) "__getattribute__") (some (some (.builtin "BaseException.__getattribute__"))) && (He.eqO (findIn K (.ref (He.ga K x)) "__getattr__") (some none) && (decide (subIn K (.ref (He.ga K x)) (.type "BaseException") = some true) && (hasDictIn K (He.ga K x) &&
    (He.eqO (findIn K (.ref (He.ga K x)) "__class__") (some (some (.builtin "object.__class__"))) && (He.eqO (specialIn K (.builtin "object.__class__") "__get__") (some (some (.builtin "getset_descriptor.__get__"))) && (decide (takesIn K (.builtin "object.__class__") = some true) && decide (mroIn K (He.ga K x) (.type "object") = some true)))))))
  | .cme x m => readsIn K (He.ga K x) (.type "type") && (He.eqO (specialIn K (.ref (He.ga K x)) "__getattribute__") (some (some (.builtin "type.__getattribute__"))) && (He5.wrapB K (He.ga K x) "classmethod" "classmethod.__get__" m && fnIn K (He5.wf K (He.ga K x) "classmethod" m)))
  | .dfl w x d => dB K d (.ref (kwAt w x K))
  | .sf x => PySem.W.selfFirst K (He.ga K x)
  | .fld x f => xfB K (He.ga K x) && He.eqO (findIn K (.ref (He.ga K x)) f) (some none)
section
variable {K : PySem.W.Frag} {cl : Nat → Option (Addr × List Str)} {x y f : Str} {n : String} {b : Bool} {ci cj j : Nat} {nm nm2 : List Str}
theorem dfl_ok {w : Wh} {d : D} (h : (XF.dfl w x d).ok K = true) (G : Hp) : RD ⟨K, cl⟩ G d (.ref (kwAt w x K)) := by
  obtain ⟨v, r, z⟩ := dB_ok (cl := cl) (show dB K d (.ref (kwAt w x K)) = true from h)
  cases v <;> simp only [RelV] at r <;> first | (cases r; done) | skip
  all_goals first | (obtain ⟨t, r⟩ := r; cases r; done) | (cases r; exact z G)
theorem raO_ok {mg : Str → Option Value} (h : (He.Fa.exc x).ok K = true) (hg : mg x = some (.ref (He.ga K x))) (h1 : cl ci = some (He.ga K x, [])) : RaO K mg ⟨K, cl⟩ x ci := by
  obtain ⟨a, b, c, d⟩ := He.exc_ok h
  exact ⟨_, h1, a, hg, b, c, d⟩
end
section
variable {X : Cx} {c : Cf} {pos : Pos} {s : FS} {as bs : List Nat}
end
theorem takes0 {X : Cx} : L2N.Takes X (liftX E0) := fun _ _ ⟨_, _, _, _, _, _, _, _, _, _, _, _, _, _, _, _, w⟩ => w.elim
abbrev AlV : Type := AlZ × (Bool × List FnS)
structure Fv where
  y : Fy
  ts : List TabI
  xs : List XF
  ss : List Sx
  file : Str
def obsV (x : Fv) (fn : List Dx) (K : PySem.W.Frag) : AlV := (obsZ x.y x.ts fn K, (x.xs.all fun f => f.ok K) && x.ss.all fun s => supB x.file K s, x.ss.map fun s => seenS K s.x)
def valHV (x : Fv) (fn : List Dx) (w : World) : AlV := (valZ x.ts fn w, true, x.ss.map fun s => s.val)
def SaysV (x : Fv) (fn : List Dx) (w : World) (K : PySem.W.Frag) : Prop := obsV x fn K = valHV x fn w
def obsVG (n : Nat) (x : Fv) (fn : List Dx) (g : Addr → Option Obj) : AlV := obsV x fn (He.frG g (cStatics :: He.asD g n))
def hookV (n : Nat) (x : Fv) (fn : List Dx) : PySem.W.Hook where
  α := AlV
  obs := fun s => obsVG n x fn s.heap.get?
  val := fun w => valHV x fn w
  says := fun w h => ∃ K : PySem.W.Frag, K.In h ∧ SaysV x fn w K
  of := fun _ _ e => ⟨_, He.frG_in, e⟩
  keeps := fun _ _ _ ⟨K, hK, c⟩ k => ⟨K, PySem.W.Frag.In.keeps hK k, c⟩
theorem obsVG_eq {n : Nat} {x : Fv} {fn : List Dx} {g : Addr → Option Obj} {s : Shared} (h : ∀ a, g a = s.heap.get? a) : obsVG n x fn g = (hookV n x fn).obs s := by
  have q : g = s.heap.get? := funext h
  subst q; rfl
section
variable {x : Fv} {fn : List Dx} {K : PySem.W.Frag} {w : World}
theorem SaysV.z (c : SaysV x fn w K) : SaysZ x.y x.ts fn w K := congrArg (fun z : AlV => z.1) c
theorem SaysV.both (c : SaysV x fn w K) : ((x.xs.all fun f => f.ok K) && x.ss.all fun s => supB x.file K s) = true := congrArg (fun z : AlV => z.2.1) c
theorem SaysV.xf (c : SaysV x fn w K) (i : Nat) {f : XF} (h : x.xs[i]? = some f := by rfl) : f.ok K = true := List.all_eq_true.mp (He.ba c.both).1 f (List.mem_of_getElem? h)
end
end M
set_option Elab.async false
set_option linter.all false
set_option maxRecDepth 100000
set_option maxHeartbeats 0
namespace Pf
open PySem L2 M
def topS (i : Nat) : Stmt := PySem.Challenge.pw_firstbreach_k07_chosen_job.main.body.getD i (.Pass ⟨0, 0, 0, 0⟩)
def clsB : Stmt → List Stmt
  | .ClassDef _ _ _ b .. => b
  | _ => []
def clsS (i j : Nat) : Stmt := (clsB (topS i)).getD j (.Pass ⟨0, 0, 0, 0⟩)
def gv_MOST_NODES : D := .int 2
def gv_LONGEST_PLAN : D := .int 4
def gv_ENTRIES : D := .tup [.str "", .str "a", .str "b", .str "c", .str "ab", .str "ac", .str "bc", .str "abc"]
def gv_LONGEST_TIME : D := .int 8
def gv_ORDERS : D := .tup [.str "first", .str "last", .str "dues"]
def gv_RULES : D := .tup [.str "ceil", .str "lend"]
def gv_MOST_STATES : D := .int 5000
def gv_MOST_TASKS : D := .int 3
def gv_DOORS : D := .tup [.str "open", .str "shut"]
def gv_GUARDS : D := .tup [.str "after", .str "cut", .str "trust"]
def gv_MOST_WEIGHT : D := .int 100000
abbrev st_check_nodes : Stmt := topS 22
abbrev st_check_edges : Stmt := topS 23
abbrev st_Task : Stmt := clsS 21 0
abbrev st_Task_cap : Stmt := clsS 21 4
abbrev st_Task_unfinished : Stmt := clsS 21 5
abbrev st_Task_allows : Stmt := clsS 21 6
abbrev st_Task_held : Stmt := clsS 21 8
abbrev st_Task_needed : Stmt := clsS 21 9
abbrev st_uses : Stmt := topS 14
abbrev st_Choice : Stmt := clsS 13 0
abbrev st_Choice_levels : Stmt := clsS 13 1
abbrev st_Choice_ceiling : Stmt := clsS 13 2
abbrev st_Choice_urgent : Stmt := clsS 13 3
abbrev st_blocked_by : Stmt := topS 15
abbrev st_Choice_blocker : Stmt := clsS 13 4
abbrev st_Choice___call__ : Stmt := clsS 13 5
abbrev st_check_supply : Stmt := topS 35
abbrev st_moves_of : Stmt := topS 36
abbrev st_Supply : Stmt := clsS 34 0
abbrev st_weight_of : Stmt := topS 30
abbrev st_Core : Stmt := clsS 29 0
abbrev st_Core_arrived : Stmt := clsS 29 4
abbrev st_Core_chosen : Stmt := clsS 29 5
abbrev st__law_cell : Stmt := topS 40
abbrev st__law_draws : Stmt := topS 41
abbrev st__law_choice : Stmt := topS 42
abbrev st__law_core : Stmt := topS 43
abbrev st__law_cap : Stmt := topS 44
abbrev st__law_open : Stmt := topS 45
abbrev st__law_allows : Stmt := topS 46
abbrev st__law_held : Stmt := topS 47
abbrev st__law_needed : Stmt := topS 48
abbrev st__law_blocked : Stmt := topS 49
abbrev st__law_levels : Stmt := topS 50
abbrev st__law_users : Stmt := topS 51
abbrev st__law_blocker : Stmt := topS 52
abbrev st__law_urgent : Stmt := topS 53
abbrev st__law_chosen : Stmt := topS 54
abbrev st__law_arrived : Stmt := topS 55
abbrev st__law_states : Stmt := topS 56
abbrev st__law_start : Stmt := topS 57
abbrev st__law_may_ask : Stmt := topS 58
abbrev st__law_after : Stmt := topS 59
abbrev st__law_any_row : Stmt := topS 60
abbrev st__law_lock_task : Stmt := topS 61
abbrev st__law_is_number : Stmt := topS 62
abbrev st_law : Stmt := topS 63
def dd_check_nodes : Dx := ⟨.glo "check_nodes", ⟨("", none), "check_nodes", "check_nodes", defArgs st_check_nodes, defBody st_check_nodes, defScope st_check_nodes, [], []⟩⟩
def dd_check_edges : Dx := ⟨.glo "check_edges", ⟨("", none), "check_edges", "check_edges", defArgs st_check_edges, defBody st_check_edges, defScope st_check_edges, [], []⟩⟩
def dd_Task : Dx := ⟨.met "Task" "__init__", ⟨("", none), "__init__", "Task.__init__", defArgs st_Task, defBody st_Task, defScope st_Task, [], [("steady", .bl false)]⟩⟩
def dd_Task_cap : Dx := ⟨.met "Task" "cap", ⟨("", none), "cap", "Task.cap", defArgs st_Task_cap, defBody st_Task_cap, defScope st_Task_cap, [], []⟩⟩
def dd_Task_unfinished : Dx := ⟨.met "Task" "unfinished", ⟨("", none), "unfinished", "Task.unfinished", defArgs st_Task_unfinished, defBody st_Task_unfinished, defScope st_Task_unfinished, [], []⟩⟩
def dd_Task_allows : Dx := ⟨.met "Task" "allows", ⟨("", none), "allows", "Task.allows", defArgs st_Task_allows, defBody st_Task_allows, defScope st_Task_allows, [], []⟩⟩
def dd_Task_held : Dx := ⟨.met "Task" "held", ⟨("", none), "held", "Task.held", defArgs st_Task_held, defBody st_Task_held, defScope st_Task_held, [], []⟩⟩
def dd_Task_needed : Dx := ⟨.met "Task" "needed", ⟨("", none), "needed", "Task.needed", defArgs st_Task_needed, defBody st_Task_needed, defScope st_Task_needed, [], []⟩⟩
def dd_uses : Dx := ⟨.glo "uses", ⟨("", none), "uses", "uses", defArgs st_uses, defBody st_uses, defScope st_uses, [], []⟩⟩
def dd_Choice : Dx := ⟨.met "Choice" "__init__", ⟨("", none), "__init__", "Choice.__init__", defArgs st_Choice, defBody st_Choice, defScope st_Choice, [.str "first"], []⟩⟩
def dd_Choice_levels : Dx := ⟨.met "Choice" "levels", ⟨("", none), "levels", "Choice.levels", defArgs st_Choice_levels, defBody st_Choice_levels, defScope st_Choice_levels, [], []⟩⟩
def dd_Choice_ceiling : Dx := ⟨.met "Choice" "ceiling", ⟨("", none), "ceiling", "Choice.ceiling", defArgs st_Choice_ceiling, defBody st_Choice_ceiling, defScope st_Choice_ceiling, [], []⟩⟩
def dd_Choice_urgent : Dx := ⟨.met "Choice" "urgent", ⟨("", none), "urgent", "Choice.urgent", defArgs st_Choice_urgent, defBody st_Choice_urgent, defScope st_Choice_urgent, [], []⟩⟩
def dd_blocked_by : Dx := ⟨.glo "blocked_by", ⟨("", none), "blocked_by", "blocked_by", defArgs st_blocked_by, defBody st_blocked_by, defScope st_blocked_by, [], []⟩⟩
def dd_Choice_blocker : Dx := ⟨.met "Choice" "blocker", ⟨("", none), "blocker", "Choice.blocker", defArgs st_Choice_blocker, defBody st_Choice_blocker, defScope st_Choice_blocker, [], []⟩⟩
def dd_Choice___call__ : Dx := ⟨.met "Choice" "__call__", ⟨("", none), "__call__", "Choice.__call__", defArgs st_Choice___call__, defBody st_Choice___call__, defScope st_Choice___call__, [], []⟩⟩
def dd_check_supply : Dx := ⟨.glo "check_supply", ⟨("", none), "check_supply", "check_supply", defArgs st_check_supply, defBody st_check_supply, defScope st_check_supply, [], []⟩⟩
def dd_moves_of : Dx := ⟨.glo "moves_of", ⟨("", none), "moves_of", "moves_of", defArgs st_moves_of, defBody st_moves_of, defScope st_moves_of, [], []⟩⟩
def dd_Supply : Dx := ⟨.met "Supply" "__init__", ⟨("", none), "__init__", "Supply.__init__", defArgs st_Supply, defBody st_Supply, defScope st_Supply, [], [("starts", .adr (kwAt (.met "Supply" "__init__") "starts"))]⟩⟩
def dd_weight_of : Dx := ⟨.glo "weight_of", ⟨("", none), "weight_of", "weight_of", defArgs st_weight_of, defBody st_weight_of, defScope st_weight_of, [], []⟩⟩
def dd_Core : Dx := ⟨.met "Core" "__init__", ⟨("", none), "__init__", "Core.__init__", defArgs st_Core, defBody st_Core, defScope st_Core, [], [("choice", .non), ("door", .str "shut"), ("guard", .str "cut")]⟩⟩
def dd_Core_arrived : Dx := ⟨.met "Core" "arrived", ⟨("", none), "arrived", "Core.arrived", defArgs st_Core_arrived, defBody st_Core_arrived, defScope st_Core_arrived, [], []⟩⟩
def dd_Core_chosen : Dx := ⟨.met "Core" "chosen", ⟨("", none), "chosen", "Core.chosen", defArgs st_Core_chosen, defBody st_Core_chosen, defScope st_Core_chosen, [], []⟩⟩
def dd__law_cell : Dx := ⟨.glo "_law_cell", ⟨("", none), "_law_cell", "_law_cell", defArgs st__law_cell, defBody st__law_cell, defScope st__law_cell, [], []⟩⟩
def dd__law_draws : Dx := ⟨.glo "_law_draws", ⟨("", none), "_law_draws", "_law_draws", defArgs st__law_draws, defBody st__law_draws, defScope st__law_draws, [], []⟩⟩
def dd__law_choice : Dx := ⟨.glo "_law_choice", ⟨("", none), "_law_choice", "_law_choice", defArgs st__law_choice, defBody st__law_choice, defScope st__law_choice, [], []⟩⟩
def dd__law_core : Dx := ⟨.glo "_law_core", ⟨("", none), "_law_core", "_law_core", defArgs st__law_core, defBody st__law_core, defScope st__law_core, [], []⟩⟩
def dd__law_cap : Dx := ⟨.glo "_law_cap", ⟨("", none), "_law_cap", "_law_cap", defArgs st__law_cap, defBody st__law_cap, defScope st__law_cap, [], []⟩⟩
def dd__law_open : Dx := ⟨.glo "_law_open", ⟨("", none), "_law_open", "_law_open", defArgs st__law_open, defBody st__law_open, defScope st__law_open, [], []⟩⟩
def dd__law_allows : Dx := ⟨.glo "_law_allows", ⟨("", none), "_law_allows", "_law_allows", defArgs st__law_allows, defBody st__law_allows, defScope st__law_allows, [], []⟩⟩
def dd__law_held : Dx := ⟨.glo "_law_held", ⟨("", none), "_law_held", "_law_held", defArgs st__law_held, defBody st__law_held, defScope st__law_held, [], []⟩⟩
def dd__law_needed : Dx := ⟨.glo "_law_needed", ⟨("", none), "_law_needed", "_law_needed", defArgs st__law_needed, defBody st__law_needed, defScope st__law_needed, [], []⟩⟩
def dd__law_blocked : Dx := ⟨.glo "_law_blocked", ⟨("", none), "_law_blocked", "_law_blocked", defArgs st__law_blocked, defBody st__law_blocked, defScope st__law_blocked, [], []⟩⟩
def dd__law_levels : Dx := ⟨.glo "_law_levels", ⟨("", none), "_law_levels", "_law_levels", defArgs st__law_levels, defBody st__law_levels, defScope st__law_levels, [], []⟩⟩
def dd__law_users : Dx := ⟨.glo "_law_users", ⟨("", none), "_law_users", "_law_users", defArgs st__law_users, defBody st__law_users, defScope st__law_users, [], []⟩⟩
def dd__law_blocker : Dx := ⟨.glo "_law_blocker", ⟨("", none), "_law_blocker", "_law_blocker", defArgs st__law_blocker, defBody st__law_blocker, defScope st__law_blocker, [], []⟩⟩
def dd__law_urgent : Dx := ⟨.glo "_law_urgent", ⟨("", none), "_law_urgent", "_law_urgent", defArgs st__law_urgent, defBody st__law_urgent, defScope st__law_urgent, [], []⟩⟩
def dd__law_chosen : Dx := ⟨.glo "_law_chosen", ⟨("", none), "_law_chosen", "_law_chosen", defArgs st__law_chosen, defBody st__law_chosen, defScope st__law_chosen, [], []⟩⟩
def dd__law_arrived : Dx := ⟨.glo "_law_arrived", ⟨("", none), "_law_arrived", "_law_arrived", defArgs st__law_arrived, defBody st__law_arrived, defScope st__law_arrived, [], []⟩⟩
def dd__law_states : Dx := ⟨.glo "_law_states", ⟨("", none), "_law_states", "_law_states", defArgs st__law_states, defBody st__law_states, defScope st__law_states, [], []⟩⟩
def dd__law_start : Dx := ⟨.glo "_law_start", ⟨("", none), "_law_start", "_law_start", defArgs st__law_start, defBody st__law_start, defScope st__law_start, [], []⟩⟩
def dd__law_may_ask : Dx := ⟨.glo "_law_may_ask", ⟨("", none), "_law_may_ask", "_law_may_ask", defArgs st__law_may_ask, defBody st__law_may_ask, defScope st__law_may_ask, [], []⟩⟩
def dd__law_after : Dx := ⟨.glo "_law_after", ⟨("", none), "_law_after", "_law_after", defArgs st__law_after, defBody st__law_after, defScope st__law_after, [], []⟩⟩
def dd__law_any_row : Dx := ⟨.glo "_law_any_row", ⟨("", none), "_law_any_row", "_law_any_row", defArgs st__law_any_row, defBody st__law_any_row, defScope st__law_any_row, [], []⟩⟩
def dd__law_lock_task : Dx := ⟨.glo "_law_lock_task", ⟨("", none), "_law_lock_task", "_law_lock_task", defArgs st__law_lock_task, defBody st__law_lock_task, defScope st__law_lock_task, [], []⟩⟩
def dd__law_is_number : Dx := ⟨.glo "_law_is_number", ⟨("", none), "_law_is_number", "_law_is_number", defArgs st__law_is_number, defBody st__law_is_number, defScope st__law_is_number, [], []⟩⟩
def dd_law : Dx := ⟨.glo "law", ⟨("", none), "law", "law", defArgs st_law, defBody st_law, defScope st_law, [], []⟩⟩
def fn : List Dx := [dd_check_nodes, dd_check_edges, dd_Task, dd_Task_cap, dd_Task_unfinished, dd_Task_allows, dd_Task_held, dd_Task_needed, dd_uses, dd_Choice, dd_Choice_levels, dd_Choice_ceiling, dd_Choice_urgent, dd_blocked_by, dd_Choice_blocker, dd_Choice___call__, dd_check_supply, dd_moves_of, dd_Supply, dd_weight_of, dd_Core, dd_Core_arrived, dd_Core_chosen, dd__law_cell, dd__law_draws, dd__law_choice, dd__law_core, dd__law_cap, dd__law_open, dd__law_allows, dd__law_held, dd__law_needed, dd__law_blocked, dd__law_levels, dd__law_users, dd__law_blocker, dd__law_urgent, dd__law_chosen, dd__law_arrived, dd__law_states, dd__law_start, dd__law_may_ask, dd__law_after, dd__law_any_row, dd__law_lock_task, dd__law_is_number, dd_law]
def ftab : List TabI := []
def fx : Fy := ⟨[.glo "check_nodes", .glo "check_edges", .glo "uses", .glo "blocked_by", .glo "check_supply", .glo "moves_of", .glo "weight_of", .glo "_law_cell", .glo "_law_draws", .glo "_law_choice", .glo "_law_core", .glo "_law_cap", .glo "_law_open", .glo "_law_allows", .glo "_law_held", .glo "_law_needed", .glo "_law_blocked", .glo "_law_levels", .glo "_law_users", .glo "_law_blocker", .glo "_law_urgent", .glo "_law_chosen", .glo "_law_arrived", .glo "_law_states", .glo "_law_start", .glo "_law_may_ask", .glo "_law_after", .glo "_law_any_row", .glo "_law_lock_task", .glo "_law_is_number", .glo "law", .free "abs", .free "any", .free "bool", .free "enumerate", .free "int", .free "isinstance", .free "len", .free "list", .free "max", .free "min", .free "range", .free "set", .free "sorted", .free "sum", .free "tuple", .free "zip", .glo "Task", .cls "Task", .mkr "Task", .noat "Task" "nodes", .noat "Task" "edges", .noat "Task" "steady", .noat "Task" "caps", .glo "Choice", .cls "Choice", .mkr "Choice", .noat "Choice" "order", .noat "Choice" "rules", .glo "Supply", .cls "Supply", .mkr "Supply", .noat "Supply" "size", .noat "Supply" "steps", .noat "Supply" "starts", .noat "Supply" "moves", .glo "Core", .cls "Core", .mkr "Core", .noat "Core" "supply", .noat "Core" "tasks", .noat "Core" "choice", .noat "Core" "door", .noat "Core" "guard", .noat "Core" "weight", .noat "Core" "parties", .meth "Task" "cap", .meth "Task" "unfinished", .meth "Task" "allows", .meth "Task" "held", .meth "Task" "needed", .meth "Choice" "levels", .meth "Choice" "ceiling", .meth "Choice" "urgent", .meth "Choice" "blocker", .meth "Choice" "__call__", .meth "Core" "arrived", .meth "Core" "chosen", .glo "InvalidChoice", .glo "InvalidSupply", .exc "InvalidChoice", .exc "InvalidSupply"], [("MOST_NODES", gv_MOST_NODES), ("LONGEST_PLAN", gv_LONGEST_PLAN), ("ENTRIES", gv_ENTRIES), ("LONGEST_TIME", gv_LONGEST_TIME), ("ORDERS", gv_ORDERS), ("RULES", gv_RULES), ("MOST_STATES", gv_MOST_STATES), ("MOST_TASKS", gv_MOST_TASKS), ("DOORS", gv_DOORS), ("GUARDS", gv_GUARDS), ("MOST_WEIGHT", gv_MOST_WEIGHT)], [], []⟩
def fv : Fv := ⟨fx, ftab, [.dfl (.met "Supply" "__init__") "starts" (.tup [.int 0])], [], "/claim/cut.py"⟩
def clK (K : PySem.W.Frag) : Nat → Option (Addr × List Str) := fun i => if i = 4 then some (He.ga K "Task", ["nodes", "edges", "steady", "caps"]) else if i = 5 then some (He.ga K "Choice", ["order", "rules"]) else if i = 3 then some (He.ga K "Supply", ["size", "steps", "starts", "moves"]) else if i = 6 then some (He.ga K "Core", ["supply", "tasks", "choice", "door", "guard", "weight", "parties"]) else if i = 205 then some (He.ga K "InvalidChoice", []) else if i = 202 then some (He.ga K "InvalidSupply", []) else none
def looseN : List Str := (["_wall", "BreachError", "InvalidSupply", "NothingCommon", "InvalidTask", "InvalidChoice", "InvalidCore", "TooLarge", "BadRow", "ORDERS", "RULES", "Choice", "uses", "blocked_by", "ENTRIES", "MOST_NODES", "LONGEST_PLAN", "LONGEST_TIME", "Task", "check_nodes", "check_edges", "MOST_TASKS", "MOST_WEIGHT", "DOORS", "GUARDS", "Core", "weight_of", "older", "MOST_STATES", "Supply"] : List Str) ++ (["check_supply", "moves_of", "joint_steps", "both", "_law_cell", "_law_draws", "_law_choice", "_law_core", "_law_cap", "_law_open", "_law_allows", "_law_held", "_law_needed", "_law_blocked", "_law_levels", "_law_users", "_law_blocker", "_law_urgent", "_law_chosen", "_law_arrived", "_law_states", "_law_start", "_law_may_ask", "_law_after", "_law_any_row", "_law_lock_task", "_law_is_number"] : List Str)
abbrev Rw : PySem.W.OpenRow := PySem.W.OpenLaw.row PySem.Challenge.rw_firstbreach_k07_chosen_job
abbrev hk : PySem.W.Hook := hookV 5 fv fn
def ob (s : PySem.W.SharedT) : AlV := obsVG 5 fv fn (HandSHeadRun.getT s)
theorem ob_eq (s : PySem.W.SharedT) : ob s = hk.obs s.abs := obsVG_eq (HandSHeadRun.getT_eq s)
theorem runParts {σ α β γ : Type} {x : Option σ} {f1 : σ → α} {f2 : σ → β} {f3 : σ → γ} {a : α} {b : β} {c : γ} (h1 : x.map (fun s => (f1 s, f2 s)) = some (a, b)) (h2 : x.map (fun s => f3 s) = some c) : x.map (fun s => (f1 s, f2 s, f3 s)) = some (a, b, c) := by
  cases x with
  | none => cases h1
  | some s =>
    have e1 : (f1 s, f2 s) = (a, b) := Option.some.inj h1
    have e2 : f3 s = c := Option.some.inj h2
    cases e1; cases e2; rfl
section
open HandSHeadRun PySem.W
theorem run1 (w : World) (os : OsState) : (endF (stepQ (denQ tabQ) Rw.prog w) 20000 Rw.prog w os).map (fun s => (looksF Rw.prog (boot_heap w.params) s.abs, seenQ (PySem.W.view Rw.prog [63]) looseN (importedModules Rw.prog.main.body) (fun s => xlAt (PySem.W.view Rw.prog [63]) [] s && recOk Rw.toRowW.records s) s.abs)) = some (true, openGood (PySem.W.view Rw.prog [63]) looseN) := by kernel_rfl
theorem run2 (w : World) (os : OsState) : (endF (stepQ (denQ tabQ) Rw.prog w) 20000 Rw.prog w os).map (fun s => ob s) = some (hk.val w) := by kernel_rfl
theorem run (w : World) : RunEq Rw (PySem.W.view Rw.prog [63]) hk ob 20000 looseN w := fun os => runParts (run1 w os) (run2 w os)
end
end Pf
set_option Elab.async false
set_option linter.all false
set_option maxRecDepth 100000
set_option maxHeartbeats 4000000
namespace M
open PySem L2
section
variable {X : Cx} {c : Cf} {a b e o : Expr} {f g h : FE} {pos apos : Pos} {x : Str} {den : List D → R D}
theorem d_callXS {lv m n : Nat} {p : Pos} {es : List Expr} {fa : FA} (F : CalleeX X.prog X.w X.K X.mg X.base c.k lv x n false den) (hr : Room m X.A) (hle : lv ≤ m) (tk : L2N.Takes X c.W) (ha : PA' X c false (e :: es) fa) (hl : Len n fa) (hg : Gl X x := by rfl) (hdb : (x == ("__debug__" : Str)) = false := by decide)
    (hs : starEach (e :: es) X.env = (false, eval e X.env) :: starEach es X.env := by rfl) (hs2 : ((backTo pos (starEach es X.env)).any fun x => x.1) = false := by rfl) : PE' X c .st (.Call (.Name x p) (e :: es) [] pos) (eCX den fa) := d_callX F hr hle tk ha hl hg hdb hs hs2
end
end M
set_option Elab.async false
set_option linter.all false
set_option maxRecDepth 100000
set_option maxHeartbeats 4000000
namespace M
open PySem L2
structure MakerXD (P : Program) (w : World) (K : PySem.W.Frag) (mg : Str → Option Value) (base : Heap) (k : Kn) (lv : Nat) (x : Str) (ci n : Nat) (dd : List D) (den : List D → R D) : Prop where
  ex : ∃ (C f : Addr) (fd : FuncData) (ps nm : List Str) (dvs : List V) (ds : List Value), k.cl ci = some (C, nm) ∧ Mk K C f ∧ FnOk P w K mg base (L2N.CX P w) lv f fd ps (SpN k ci (n + dd.length + 1) den) ∧ mg x = some (.ref C) ∧ Binds K fd ps ds ∧ Vals dvs ds ∧ ∀ G, RDs k G dd dvs
section
variable {X : Cx} {c : Cf} {kd k1 k2 k3 : Kd} {a b e o : Expr} {f g h : FE} {pos apos : Pos} {fr : Bool} {x : Str} {den : List D → R D} {ci : Nat}
end
end M
set_option Elab.async false
set_option linter.all false
set_option maxRecDepth 100000
set_option maxHeartbeats 4000000
namespace M
open PySem L2 PyProof.Rows
def keyT : D → Option (List Key)
  | .tup ds => if 1 < ds.length ∧ ds.length < 4 ∧ ds.all isStrD = false then keysD ds else none
  | _ => none
section
variable {k : Kn} {G H : Hp}
theorem strs_back : ∀ {ds : List D} {vs : List V}, RDs k G ds vs → (vs.all fun x => match x with | .str _ => true | _ => false) = true → ds.all isStrD = true
  | _, _, .nil, _ => rfl
  | d :: ds, v :: vs, .cons a b, h => by
    rw [List.all_cons, Bool.and_eq_true] at h
    rw [List.all_cons, strs_back b h.2, Bool.and_true]
    have h1 := h.1
    split at h1
    · cases a; rfl
    · cases h1
theorem keyT_now (e : Ex G H) {d : D} {v : V} {q : List Key} (h : keyT d = some q) (n : Now k G H d v) : ∃ b, v = .ref b ∧ H b = some (.tup (q.map kV)) := by
  unfold keyT at h
  split at h
  · rename_i ds
    split at h
    · rename_i hc
      obtain ⟨a, vs, rfl, ha, r⟩ := n.tup
      obtain rfl := keysD_rd h r
      refine ⟨a, rfl, ?_⟩
      rcases ha with ha | ⟨o, its, m, _, _, _, _, _, oc⟩
      · exact e _ _ ha
      · exfalso
        have hl := r.length
        unfold okC at oc
        rw [← hl] at oc
        simp only [Bool.or_eq_true, decide_eq_true_eq] at oc
        rcases oc with z | z | z
        · omega
        · omega
        · rw [strs_back r z] at hc; exact absurd hc.2.2 (by simp)
    · cases h
  · cases h
def dlook (d y : D) : Option (Option D) := match d with
  | .dic ks ds => (keyD y).map fun q => getL ks ds q
  | .dit ks ds => (keyT y).map fun q => getL ks ds q
  | .dkf ks ds => (keyD y).map fun q => getL ks ds q
  | _ => none
theorem dlook_go (e : Ex G H) {d y : D} {u v : V} {o : Option D} (nx : Now k G H d u) (ny : Now k G H y v) (h : dlook d y = some o) :
    ∃ a ov, u = .ref a ∧ DGet H a v ov ∧ (∀ r, o = some r → ∃ w, ov = some w ∧ RD k G r w) ∧ (o = none → ov = none) := by
  cases d with
  | dic ks ds =>
    obtain ⟨q, hq, rfl⟩ := Option.map_eq_some_iff.mp h
    obtain ⟨a, vs, rfl, ha, hl, r⟩ := nx.dic e
    obtain rfl := keyD_now hq ny
    exact ⟨a, _, rfl, DGet.k ha, (getL_val hl r).1, (getL_val hl r).2⟩
  | dit ks ds =>
    obtain ⟨q, hq, rfl⟩ := Option.map_eq_some_iff.mp h
    obtain ⟨a, vs, rfl, ha, hl, r⟩ := nx.dit e
    obtain ⟨b, rfl, hb⟩ := keyT_now e hq ny
    exact ⟨a, _, rfl, DGet.t ha hb, (getL_val hl r).1, (getL_val hl r).2⟩
  | dkf ks ds =>
    obtain ⟨q, hq, rfl⟩ := Option.map_eq_some_iff.mp h
    obtain ⟨a, o, vs, rfl, ha, hl, r⟩ := nx.dkf e
    obtain rfl := keyD_now hq ny
    exact ⟨a, _, rfl, .inl ⟨_, q, .inr ⟨o, ha⟩, rfl, rfl⟩, (getL_val hl r).1, (getL_val hl r).2⟩
  | _ => cases h
end
section
variable {X : Cx} {c : Cf} {kd k1 k2 k3 : Kd} {a b e o : Expr} {f g h : FE} {pos apos cpos : Pos} {fr : Bool} {x : Str} {k : Kn}
theorem ix_dct (hu : X.A.units + 1 < cLine) : IxR X (fun x y H Q => ∃ a v, x = .ref a ∧ DGet H a y (some v) ∧ Q v H) := by
  intro value slice pins s σ H x y v u Q I rx ry h hs
  obtain ⟨a, z, rfl, g, q⟩ := h
  cases (show v = Value.ref a from rx)
  exact tail_any (dict_typeIs I g) PySem.F.slot_dict_getitem.lookup (d_getItem hu I g ry fun w' s3 I3 rw' => ⟨z, H, I3, rw', q⟩) hs
theorem op_dctIn (hu : X.A.units + 1 < cLine) : OpR X (compareOp .In) (fun y x H Q => ∃ a o, x = .ref a ∧ DGet H a y o ∧ Q (.bl o.isSome) H) := by
  intro pins s σ H y x u v Q I ry rx h
  obtain ⟨a, z, rfl, g, q⟩ := h
  cases (show v = Value.ref a from rx)
  exact d_in hu I g ry fun s3 I3 => ⟨.bl z.isSome, H, I3, rfl, q⟩
theorem op_dctNotIn (hu : X.A.units + 1 < cLine) : OpR X (compareOp .NotIn) (fun y x H Q => ∃ a o, x = .ref a ∧ DGet H a y o ∧ Q (.bl (!o.isSome)) H) := by
  intro pins s σ H y x u v Q I ry rx h
  obtain ⟨a, z, rfl, g, q⟩ := h
  cases (show v = Value.ref a from rx)
  exact d_notIn hu I g ry fun s3 I3 => ⟨.bl (!z.isSome), H, I3, rfl, q⟩
def ixA (d y : D) : R D := match dlook d y with
  | some (some r) => .ok r
  | some none => .fail
  | none => ixD d y
theorem o_ixA (hk : k.K = X.K) (hu : X.A.units + 65 < cLine) : Ix2 X k ixA := by
  obtain ⟨r0, h0, z0⟩ := o_ix (k := k) hk
  refine ⟨_, (ix_dct (by omega)).or h0, ?_⟩
  intro G H x y u v d e nx ny hg Q q
  unfold ixA at hg
  split at hg
  · rename_i r hl
    cases hg
    obtain ⟨a, ov, rfl, g, h1, _⟩ := dlook_go e nx ny hl
    obtain ⟨w, rfl, rw_⟩ := h1 _ rfl
    exact .inl ⟨a, w, rfl, g, q _ G H (Step.refl e) rw_⟩
  · cases hg
  · exact .inr (z0 G H x y u v d e nx ny hg Q q)
def inA (y d : D) : R D := match dlook d y with
  | some r => .ok (.bl r.isSome)
  | none => inD y d
def notInA (y d : D) : R D := match dlook d y with
  | some r => .ok (.bl (!r.isSome))
  | none => notInD y d
theorem o_inA (hk : k.K = X.K) (hu : X.A.units + 65 < cLine) : Op2 X k (compareOp .In) .st inA := by
  obtain ⟨r0, h0, z0⟩ := o_in (k := k) hk hu
  refine ⟨_, (op_dctIn (by omega)).or h0, ?_⟩
  intro G H y x v u d e ny nx hg Q q
  unfold inA at hg
  split at hg
  · rename_i r hl
    cases hg
    obtain ⟨a, ov, rfl, g, h1, h2⟩ := dlook_go e nx ny hl
    refine .inl ⟨a, ov, rfl, g, ?_⟩
    have : ov.isSome = r.isSome := by
      cases r with
      | none => rw [h2 rfl]; rfl
      | some r => obtain ⟨w, rfl, _⟩ := h1 _ rfl; rfl
    rw [this]
    exact q _ G H (Step.refl e) (.bl _)
  · exact .inr (z0 G H y x v u d e ny nx hg Q q)
theorem o_notinA (hk : k.K = X.K) (hu : X.A.units + 65 < cLine) : Op2 X k (compareOp .NotIn) .st notInA := by
  obtain ⟨r0, h0, z0⟩ := o_notin (k := k) hk hu
  refine ⟨_, (op_dctNotIn (by omega)).or h0, ?_⟩
  intro G H y x v u d e ny nx hg Q q
  unfold notInA at hg
  split at hg
  · rename_i r hl
    cases hg
    obtain ⟨a, ov, rfl, g, h1, h2⟩ := dlook_go e nx ny hl
    refine .inl ⟨a, ov, rfl, g, ?_⟩
    have : ov.isSome = r.isSome := by
      cases r with
      | none => rw [h2 rfl]; rfl
      | some r => obtain ⟨w, rfl, _⟩ := h1 _ rfl; rfl
    rw [this]
    exact q _ G H (Step.refl e) (.bl _)
  · exact .inr (z0 G H y x v u d e ny nx hg Q q)
def eGet2 (f g h : FE) : FE := fun S => f S >>= fun d => if isDct d then (g S >>= fun y => h S >>= fun z => match dlook d y with
  | some (some r) => .ok r
  | some none => .ok z
  | none => .fail) else .fail
theorem isDct_at {H : Hp} {G : Hp} (e : Ex G H) {d : D} {u : V} (hd : isDct d = true) (nx : Now k G H d u) : ∃ a, u = .ref a ∧ IsD H a := by
  cases d with
  | dic ks ds =>
    obtain ⟨a, vs, rfl, ha, hl, r⟩ := nx.dic e
    exact ⟨a, rfl, .inl ⟨_, .inl ha⟩⟩
  | dit ks ds =>
    obtain ⟨a, vs, rfl, ha, hl, r⟩ := nx.dit e
    exact ⟨a, rfl, .inr ⟨_, .inl ha⟩⟩
  | _ => cases hd
theorem d_get2A {dx : Expr} (hu : X.A.units + 64 < cLine) (ho : PE' X c k1 o f) (hi : PE' X c k2 e g) (hz : PE' X c .st dx h) (m : M2 X o "get" apos e dx cpos := by first | exact ⟨rfl, rfl, rfl, rfl⟩ | exact ⟨rfl, rfl, rfl⟩) :
    PE' X c .st (.Call (.Attribute o "get" apos) [e, dx] [] cpos) (eGet2 f g h) :=
  peI (pe_dget2 (by omega) ho hi hz m) fun σ H Q ⟨G, S, rel, p⟩ => by
    refine rdE_go (g := fun d => if isDct d then (g S >>= fun y => h S >>= fun z => match dlook d y with
      | some (some r) => R.ok r
      | some none => .ok z
      | none => .fail) else .fail) (Post := PostE c .st G S σ H Q) rel p (fun _ z => z) (fun z => z) fun d v G1 H1 s1 q1 p1 => ?_
    by_cases hd : isDct d = true
    · rw [if_pos hd] at p1
      obtain ⟨ad, rfl, isd⟩ := isDct_at s1.gh hd q1.now
      refine ⟨ad, rfl, isd, ?_⟩
      refine rdE_go (g := fun y => h S >>= fun z => match dlook d y with
        | some (some r) => R.ok r
        | some none => .ok z
        | none => .fail) (Post := PostE c .st G S σ H Q) (rel.grow s1) p1 (fun _ z => z) (fun z => z) fun y vy G2 H2 s2 q2 p2 => ?_
      have sA := s1.trans s2
      refine rdE_go (g := fun z => match dlook d y with
        | some (some r) => R.ok r
        | some none => .ok z
        | none => .fail) (Post := PostE c .st G S σ H Q) (rel.grow sA) p2 (fun _ z => z) (fun z => z) fun z vz G3 H3 s3 q3 p3 => ?_
      have sB := sA.trans s3
      cases hl : dlook d y with
      | none => rw [hl] at p3; exact p3.elim
      | some r =>
        obtain ⟨a', ov, e', dg, h1, h2⟩ := dlook_go s3.gh ((q1.now.grow s2).grow s3) (q2.now.grow s3) hl
        cases e'
        rw [hl] at p3
        cases r with
        | none =>
          obtain rfl := h2 rfl
          exact ⟨none, dg, p3 vz G3 H3 sB q3⟩
        | some r =>
          obtain ⟨w, rfl, rw_⟩ := h1 _ rfl
          exact ⟨some w, dg, p3 w G3 H3 sB rw_⟩
    · rw [if_neg hd] at p1; exact p1.elim
def putA (i : Nat) (S : Env) (m d y : D) : R (Fl × Env) := match m with
  | .dic ks ds => (match keyD y with
    | some q => if ks.Nodup ∧ ks.length < sizeLine then .ok (.nx, S.set i (some ⟨true, .dic (putL ks ds q d).1 (putL ks ds q d).2⟩)) else .fail
    | none => .fail)
  | .dit ks ds => (match keyT y with
    | some q => if ks.Nodup ∧ ks.length < sizeLine then .ok (.nx, S.set i (some ⟨true, .dit (putL ks ds q d).1 (putL ks ds q d).2⟩)) else .fail
    | none => .fail)
  | _ => .fail
def ownD (i : Nat) (S : Env) : R D := match S[i]? with
  | some (some ⟨true, d⟩) => .ok d
  | _ => .fail
theorem ownD_of {i : Nat} {S : Env} {z : D} (h : ownD i S = .ok z) : S[i]? = some (some ⟨true, z⟩) := by
  unfold ownD at h
  split at h
  · cases h; assumption
  · cases h
theorem ownD_exc {i : Nat} {S : Env} {x : Exc} : ownD i S ≠ .exc x := by unfold ownD; split <;> intro h <;> cases h
def sPutA (i : Nat) (fy f : FE) : FS := fun S => ownD i S >>= fun m => f S >>= fun d => fy S >>= fun y => putA i S m d y
theorem s_putA (i : Nat) {ix : Expr} {fy : FE} {px ps : Pos} (hu : X.A.units + 64 < cLine) (he : PE' X c .st e f) (hj : PE' X c k1 ix fy) (hN : X.N[i]? = some x := by rfl) (hv : Vis X.env.scope x := by first | exact Or.inl rfl | exact Or.inr (Or.inl rfl) | exact Or.inr (Or.inr rfl)) (hd : (x == ("__debug__" : Str)) = false := by decide)
    (hcd : (x == ("__classdict__" : Str)) = false := by decide) (hs : swapsWith e (some (.Subscript (.Name x px) ix ps)) pos.line X.env = pure false := by rfl) :
    PS' X c fr [i + 1000] (.Assign [.Subscript (.Name x px) ix ps] e pos) (sPutA i fy f) :=
  psI (ps_dput (by omega) (pe_var hN hv hd hcd) hj he hs) fun Dn σ H ⟨G, S, rel, p⟩ => by
    have p : PostS c fr [i + 1000] G S σ H Dn (ownD i S >>= fun m => f S >>= fun d => fy S >>= fun y => putA i S m d y) := p
    cases e0 : ownD i S with
    | exc x => exact absurd e0 ownD_exc
    | fail => rw [e0] at p; exact p.elim
    | ok m =>
      rw [e0, R.ok_bind] at p
      have hS := ownD_of e0
      obtain ⟨l, ob, es, hg, h0, ho, ct⟩ := rel.ow i _ hS
      have ow : OwnAt S σ i l := ⟨⟨_, hS⟩, es⟩
      refine rdE_go (Post := PostS c fr [i + 1000] G S σ H Dn) rel p (fun _ z => z _) (fun z => z) fun d v G1 H1 s1 q1 p1 => ?_
      refine ⟨_, es, ?_⟩
      refine rdE_go (Post := PostS c fr [i + 1000] G S σ H Dn) (rel.grow s1) p1 (fun _ z => z _) (fun z => z) fun y u G2 H2 s2 q2 p2 => ?_
      have sp := s1.trans s2
      have rel' := rel.grow sp
      cases ct with
      | @dic ks ds vs hl r =>
        simp only [putA] at p2
        cases hk : keyD y with
        | none => rw [hk] at p2; exact p2.elim
        | some q =>
          rw [hk] at p2
          dsimp only at p2
          by_cases hc : ks.Nodup ∧ ks.length < sizeLine
          · rw [if_pos hc] at p2
            obtain rfl := keyD_now hk q2.now
            obtain ⟨vs', e1, r', l'⟩ := putL_zip (q := q) hc.1 hl (r.mono sp.g) (RD.mono s2.g q1)
            have hz : (ks.zip vs).length < sizeLine := by rw [List.length_zip]; exact Nat.lt_of_le_of_lt (Nat.min_le_left _ _) hc.2
            refine ⟨l, _, rfl, DPut.k (sp.h _ _ ho) hz, ?_⟩
            rw [e1]
            exact p2 G2 σ _ sp.g (rel'.mut ow (.dic l' r')) ((Frm.step (as := []) rel sp).trans (Frm.mut rel' ow))
          · rw [if_neg hc] at p2; exact p2.elim
      | @dit ks ds vs hl r =>
        simp only [putA] at p2
        cases hk : keyT y with
        | none => rw [hk] at p2; exact p2.elim
        | some q =>
          rw [hk] at p2
          dsimp only at p2
          by_cases hc : ks.Nodup ∧ ks.length < sizeLine
          · rw [if_pos hc] at p2
            obtain ⟨b, rfl, hb⟩ := keyT_now s2.gh hk q2.now
            obtain ⟨vs', e1, r', l'⟩ := putL_zip (q := q) hc.1 hl (r.mono sp.g) (RD.mono s2.g q1)
            have hz : (ks.zip vs).length < sizeLine := by rw [List.length_zip]; exact Nat.lt_of_le_of_lt (Nat.min_le_left _ _) hc.2
            refine ⟨l, _, rfl, DPut.t (sp.h _ _ ho) hb hz, ?_⟩
            rw [e1]
            exact p2 G2 σ _ sp.g (rel'.mut ow (.dit l' r')) ((Frm.step (as := []) rel sp).trans (Frm.mut rel' ow))
          · rw [if_neg hc] at p2; exact p2.elim
      | _ => simp only [putA] at p2; exact p2.elim
end
end M
set_option Elab.async false
set_option linter.all false
set_option maxRecDepth 100000
set_option maxHeartbeats 4000000
namespace M
open PySem L2
variable {X : Cx} {c : Cf} {kd : Kd} {a : Expr} {t t1 : FT} {fr : Bool} {pos : Pos} {tg tg1 : Expr}
def unown (S : Env) (vs : List Nat) : Bool := vs.all fun i => match S[i]? with | some (some ⟨true, _⟩) => false | _ => true
def lc2F (ga : FG) (t : FT) (fi1 : FI) (ga1 : FG) (t1 : FT) (fe : FE) (vs vs1 : List Nat) (S : Env) : List D → R (List D)
  | [] => .ok []
  | d :: ds => (ga d S).nox >>= fun S1 => if unown S1 vs then (t S1).nox >>= fun b => if b then (fi1 S1).nox >>= fun es => lcF ga1 t1 fe (wipeS S1 vs1) es >>= fun ys => lc2F ga t fi1 ga1 t1 fe vs vs1 S ds >>= fun zs => .ok (ys ++ zs) else lc2F ga t fi1 ga1 t1 fe vs vs1 S ds else .fail
def lc2E (fi : FI) (ga : FG) (t : FT) (fi1 : FI) (ga1 : FG) (t1 : FT) (fe : FE) (vs vs1 : List Nat) : FE := fun S => fi S >>= fun ds => lc2F ga t fi1 ga1 t1 fe vs vs1 (wipeS S vs) ds >>= fun ys => if ys.length ≤ sizeLine then .ok (.lst ys) else .fail
theorem nox_exc {α β : Type} {r : R α} {f : α → R β} {x : Exc} (h : (r.nox >>= f) = .exc x) : ∃ a, r = .ok a ∧ f a = .exc x := by
  cases r with
  | ok a => exact ⟨a, rfl, h⟩
  | exc y => cases h
  | fail => cases h
theorem lc2F_exc {ga : FG} {t : FT} {fi1 : FI} {ga1 : FG} {t1 : FT} {fe : FE} {vs vs1 : List Nat} {S : Env} {x : Exc} : ∀ ds, lc2F ga t fi1 ga1 t1 fe vs vs1 S ds ≠ .exc x
  | [] => by intro h; cases h
  | d :: ds => by
    intro h
    unfold lc2F at h
    obtain ⟨S1, _, h⟩ := nox_exc h
    split at h
    case isFalse => cases h
    obtain ⟨b, _, h⟩ := nox_exc h
    cases b with
    | false => exact lc2F_exc ds h
    | true =>
      rw [if_pos rfl] at h
      obtain ⟨es, _, h⟩ := nox_exc h
      cases e3 : lcF ga1 t1 fe (wipeS S1 vs1) es with
      | exc y => exact lcF_exc _ e3
      | fail => rw [e3] at h; cases h
      | ok ys =>
        rw [e3, R.ok_bind] at h
        cases e4 : lc2F ga t fi1 ga1 t1 fe vs vs1 S ds with
        | ok ys => rw [e4] at h; cases h
        | exc y => exact lc2F_exc ds e4
        | fail => rw [e4] at h; cases h
def lcEnd (ys : List D) : R D := if ys.length ≤ sizeLine then .ok (.lst ys) else .fail
theorem short_of {G H : Hp} {S : Env} {σ : L2.St} {Q : VK} {r : R (List D)} {ac : List D} {y : D} (p : PostE c .fr G S σ H Q (r >>= fun ys => lcEnd (ac ++ y :: ys))) (hx : ∀ x, r ≠ .exc x) : ac.length < sizeLine := by
  cases r with
  | exc x => exact absurd rfl (hx x)
  | fail => exact p.elim
  | ok ys =>
    have p : PostE c .fr G S σ H Q (lcEnd (ac ++ y :: ys)) := p
    unfold lcEnd at p
    by_cases h : (ac ++ y :: ys).length ≤ sizeLine
    · simp at h; omega
    · rw [if_neg h] at p; exact p.elim
theorem own_wipe {S : Env} {σ : L2.St} {i : Nat} {a : Addr} : ∀ vs : List Nat, OwnAt (wipeS S vs) (L2.wipe σ vs) i a → OwnAt S σ i a
  | [], h => h
  | v :: vs, ⟨⟨d, h1⟩, h2⟩ => by
    unfold wipeS at h1
    unfold L2.wipe at h2
    by_cases e : v = i
    · subst e
      have hi := (List.getElem?_eq_some_iff.mp h1).1
      rw [List.getElem?_set_self (by simpa using hi)] at h1; cases h1
    · rw [List.getElem?_set_ne e] at h1 h2
      exact own_wipe vs ⟨⟨d, h1⟩, h2⟩
theorem lc2_go {ki ki1 gs gs1 vs vs1 : List Nat} {fi fi1 : FI} {ga ga1 : FG} {fe : FE} {σ : L2.St} {H : Hp} {Q : VK} {gi gi1 : TG} {tt tt1 : TT} {te : TE} {wi1 : TI} (hg : ∀ v σ H Q, RdG c.nx gs ga v σ H Q → gi v σ H Q) (ht : ∀ σ H Q, RdT c.nx t σ H Q → tt σ H Q)
    (hi1 : ∀ σ H Q, RdI c.nx ki1 fi1 σ H Q → wi1 σ H Q) (hg1 : ∀ v σ H Q, RdG c.nx gs1 ga1 v σ H Q → gi1 v σ H Q) (ht1 : ∀ σ H Q, RdT c.nx t1 σ H Q → tt1 σ H Q) (he : ∀ σ H Q, RdE c.nx .st fe σ H Q → te σ H Q)
    (h1000 : ∀ i ∈ vs, i < 1000) (hgs : ∀ i, i ∈ gs → i ∈ vs) (hgs1 : ∀ i, i ∈ gs1 → i ∈ vs1) (q : RdE c .fr (lc2E fi ga t fi1 ga1 t1 fe vs vs1) σ H Q) : tLc2 (RdI c ki fi) gi tt wi1 gi1 tt1 te vs vs1 σ H Q := by
  obtain ⟨G, S, rel, p⟩ := q
  refine ⟨G, S, rel, ?_⟩
  have p : PostE c .fr G S σ H Q (fi S >>= fun ds => lc2F ga t fi1 ga1 t1 fe vs vs1 (wipeS S vs) ds >>= fun ys => lcEnd ys) := p
  cases e0 : fi S with
  | exc x => rw [e0] at p; exact p
  | fail => rw [e0] at p; exact p
  | ok ds =>
    rw [e0, R.ok_bind] at p
    intro J G1 H1 sp it Dl hD
    have relb := ((rel.grow sp).wipe vs).cw (W := liftX E0)
    have hD0 : H Dl = none := sp.h.free hD
    have keep : ∀ {G2 H2 G6 H6 : Hp} {av : List V}, G2 Dl = none → H2 Dl = some (.lst av) → Step G2 H2 G6 H6 → G6 Dl = none ∧ H6 Dl = some (.lst av) := fun {G2 H2 G6 H6 av} hGD hHD z => by
      refine ⟨?_, z.h _ _ hHD⟩
      cases q : G6 Dl with
      | none => rfl
      | some o =>
        rcases z.gr _ _ q with w | w
        · rw [hGD] at w; cases w
        · rw [hHD] at w; cases w
    refine ⟨fun i m H2 => m = ds.length - i ∧ i ≤ ds.length ∧ ∃ G2 ac av, Step G1 H1 G2 H2 ∧ G2 Dl = none ∧ H2 Dl = some (.lst av) ∧ RDs c.k G2 ac av ∧
        PostE c .fr G S σ H Q (lc2F ga t fi1 ga1 t1 fe vs vs1 (wipeS S vs) (ds.drop i) >>= fun ys => lcEnd (ac ++ ys)),
      ⟨_, rfl, Nat.zero_le _, G1, [], [], Step.new' sp.gh hD, sp.gh.free hD, upd_same, .nil, by simpa using p⟩, ?_⟩
    rintro i m H2 ⟨rfl, hle, G2, ac, av, sp2, hGD, hHD, hr, p2⟩
    have rel2 : Rel c.nx G2 (wipeS S vs) (L2.wipe σ vs) H2 := relb.grow sp2
    have itm := it G2 H2 sp2.g sp2.gh fun j hj x ow => by
      obtain ⟨_, _, o, _, ho, _⟩ := (rel.grow sp).own ow
      rw [ho, sp2.h _ _ ho]
    by_cases hlt : i < ds.length
    · obtain ⟨d, hd⟩ : ∃ d, ds[i]? = some d := ⟨ds[i], List.getElem?_eq_getElem hlt⟩
      have hdrop : ds.drop i = d :: ds.drop (i + 1) := by
        rw [List.drop_eq_getElem_cons hlt]; congr 1; rw [List.getElem?_eq_getElem hlt] at hd; exact Option.some.inj hd
      rw [hdrop] at p2
      obtain ⟨hgo, hy⟩ := itm.2 i d hd
      refine .inr ⟨hgo, fun H' => ∃ G3 ac av, Step G1 H1 G3 H' ∧ G3 Dl = none ∧ H' Dl = some (.lst av) ∧ RDs c.k G3 ac av ∧
        PostE c .fr G S σ H Q (lc2F ga t fi1 ga1 t1 fe vs vs1 (wipeS S vs) (ds.drop (i + 1)) >>= fun ys => lcEnd (ac ++ ys)), fun H' ⟨G3, r3⟩ => ⟨_, by omega, rfl, hlt, G3, r3⟩, fun x H3 hx => ?_⟩
      obtain ⟨G3, sp3, hd3⟩ := hy x H3 hx
      refine hg x _ H3 _ ⟨G3, wipeS S vs, d, rel2.grow sp3, hd3, ?_⟩
      unfold lc2F at p2
      cases e1 : ga d (wipeS S vs) with
      | exc x => rw [e1] at p2; exact p2.elim
      | fail => rw [e1] at p2; exact p2.elim
      | ok S1 =>
        rw [e1, R.nox_ok, R.ok_bind] at p2
        split at p2
        case isFalse => exact p2.elim
        rename_i hun
        intro G4 σ4 H4 sp4 rel4 f4
        refine ⟨wipe_eq (by rw [f4.len, wipe_length]) fun j hj => f4.sg j fun z => hj (hgs j z), ht σ4 H4 _ ⟨G4, S1, rel4, ?_⟩⟩
        cases e2 : t S1 with
        | exc x => rw [e2] at p2; exact p2.elim
        | fail => rw [e2] at p2; exact p2.elim
        | ok b =>
          rw [e2, R.nox_ok, R.ok_bind] at p2
          intro G5 H5 sp5
          have spA : Step G2 H2 G5 H5 := (sp3.trans sp4).trans sp5
          have nA := keep hGD hHD spA
          cases b with
          | false =>
            rw [if_neg Bool.false_ne_true] at p2 ⊢
            exact ⟨G5, ac, av, sp2.trans spA, nA.1, nA.2, hr.mono spA.g, p2⟩
          | true =>
            rw [if_pos rfl] at p2 ⊢
            have rel5 := rel4.grow sp5
            refine hi1 σ4 H5 _ ⟨G5, S1, rel5, ?_⟩
            cases e3 : fi1 S1 with
            | exc x => rw [e3] at p2; exact p2.elim
            | fail => rw [e3] at p2; exact p2.elim
            | ok es =>
              rw [e3, R.nox_ok, R.ok_bind] at p2
              intro J1 G6 H6 sp6 it1
              have spB := spA.trans sp6
              have nB := keep hGD hHD spB
              have rel6 := rel5.grow sp6
              have relc := rel6.wipe vs1
              have noD1 : ∀ (i' : Nat) (a : Addr), OwnAt S1 σ4 i' a → a ≠ Dl := fun i' a ⟨⟨d', z1⟩, z2⟩ e => by
                have hi' : i' ∉ gs := fun hm => by
                  have := List.all_eq_true.mp hun i' (hgs i' hm)
                  rw [z1] at this; cases this
                have hk : i' + 1000 ∉ gs := fun hm => by have := h1000 _ (hgs _ hm); omega
                rw [f4.sl i' hi' hk] at z1
                rw [f4.sg i' hi'] at z2
                obtain ⟨_, _, o, _, ho, _⟩ := relb.own (i := i') (a := a) ⟨⟨d', z1⟩, z2⟩
                rw [e, hD] at ho; cases ho
              have noD : ∀ (i' : Nat) (a : Addr), OwnAt (wipeS S1 vs1) (L2.wipe σ4 vs1) i' a → a ≠ Dl := fun i' a ow => noD1 i' a (own_wipe vs1 ow)
              refine ⟨fun j m H7 => m = es.length - j ∧ j ≤ es.length ∧ ∃ G7 ac1 av1, Step G1 H1 G7 H7 ∧ Ex G6 G7 ∧ (∀ a o, a ≠ Dl → H6 a = some o → H7 a = some o) ∧ (∀ b o, G7 b = some o → G6 b = some o ∨ H6 b = none) ∧ G7 Dl = none ∧ H7 Dl = some (.lst av1) ∧ RDs c.k G7 ac1 av1 ∧
                  PostE c .fr G S σ H Q (lcF ga1 t1 fe (wipeS S1 vs1) (es.drop j) >>= fun ys => lc2F ga t fi1 ga1 t1 fe vs vs1 (wipeS S vs) (ds.drop (i + 1)) >>= fun zs => lcEnd (ac1 ++ (ys ++ zs))),
                ⟨_, rfl, Nat.zero_le _, G6, ac, av, sp2.trans spB, Ex.refl _, fun _ _ _ z => z, fun _ _ z => .inl z, nB.1, nB.2, hr.mono spB.g, ?_⟩, ?_⟩
              · rw [List.drop_zero]
                cases e4 : lcF ga1 t1 fe (wipeS S1 vs1) es with
                | exc x => exact absurd e4 (lcF_exc _)
                | fail => rw [e4] at p2; exact p2.elim
                | ok ys =>
                  rw [e4, R.ok_bind] at p2
                  rw [R.ok_bind]
                  cases e5 : lc2F ga t fi1 ga1 t1 fe vs vs1 (wipeS S vs) (ds.drop (i + 1)) with
                  | exc x => exact absurd e5 (lc2F_exc _)
                  | fail => rw [e5] at p2; exact p2.elim
                  | ok zs => rw [e5] at p2; exact p2
              rintro j m H7 ⟨rfl, hlj, G7, ac1, av1, sp7, xg, xh, xr, nG7, nH7, hr7, p7⟩
              have rel7 : Rel c.nx G7 (wipeS S1 vs1) (L2.wipe σ4 vs1) H7 := by
                refine ⟨relb.st.trans sp7, relc.len, fun i' d' z => ?_, fun i' d' z => ?_, relc.nd⟩
                · obtain ⟨v, z1, z2⟩ := relc.fz i' d' z
                  exact ⟨v, z1, z2.mono xg⟩
                · obtain ⟨a, o, z1, z2, z3, z4, z5⟩ := relc.ow i' d' z
                  refine ⟨a, o, z1, ?_, z3, xh a o (noD i' a ⟨⟨_, z⟩, z1⟩) z4, z5.mono xg⟩
                  cases q : G7 a with
                  | none => rfl
                  | some u =>
                    rcases xr a u q with w | w
                    · rw [z2] at w; cases w
                    · rw [z4] at w; cases w
              have itm1 := it1 G7 H7 xg sp7.gh fun j' hj' x ow => by
                obtain ⟨_, _, o, _, ho, _⟩ := rel6.own ow
                rw [ho, xh x o (noD1 j' x ow) ho]
              by_cases hlt1 : j < es.length
              · obtain ⟨d1, hd1⟩ : ∃ d, es[j]? = some d := ⟨es[j], List.getElem?_eq_getElem hlt1⟩
                have hdrop1 : es.drop j = d1 :: es.drop (j + 1) := by
                  rw [List.drop_eq_getElem_cons hlt1]; congr 1; rw [List.getElem?_eq_getElem hlt1] at hd1; exact Option.some.inj hd1
                rw [hdrop1] at p7
                obtain ⟨hgo1, hy1⟩ := itm1.2 j d1 hd1
                have nxt : ∀ {G9 H9 H10 : Hp}, Step G7 H7 G9 H9 → H10 Dl ≠ none → (∀ a, a ≠ Dl → H10 a = H9 a) → Step G1 H1 G9 H10 ∧ Ex G6 G9 ∧ (∀ a o, a ≠ Dl → H6 a = some o → H10 a = some o) ∧ (∀ b o, G9 b = some o → G6 b = some o ∨ H6 b = none) := fun {G9 H9 H10} s9 hn h10 => by
                  have sA := sp7.trans s9
                  have nD := keep nG7 nH7 s9
                  refine ⟨⟨sA.g, fun b o z => ?_, fun b o z => ?_, sA.gr⟩, xg.trans s9.g, fun a o ha z => by rw [h10 a ha]; exact s9.h a o (xh a o ha z), fun b o z => ?_⟩
                  · rw [h10 b (ne_of_none z hD)]; exact sA.h b o z
                  · rw [h10 b (ne_of_none z nD.1)]; exact sA.gh b o z
                  · rcases s9.gr b o z with w | w
                    · exact xr b o w
                    · right
                      cases q : H6 b with
                      | none => rfl
                      | some u =>
                        by_cases hb : b = Dl
                        · subst hb; rw [nH7] at w; cases w
                        · rw [xh b u hb q] at w; cases w
                refine .inr ⟨hgo1, fun H' => ∃ G8 ac1 av1, Step G1 H1 G8 H' ∧ Ex G6 G8 ∧ (∀ a o, a ≠ Dl → H6 a = some o → H' a = some o) ∧ (∀ b o, G8 b = some o → G6 b = some o ∨ H6 b = none) ∧ G8 Dl = none ∧ H' Dl = some (.lst av1) ∧ RDs c.k G8 ac1 av1 ∧
                  PostE c .fr G S σ H Q (lcF ga1 t1 fe (wipeS S1 vs1) (es.drop (j + 1)) >>= fun ys => lc2F ga t fi1 ga1 t1 fe vs vs1 (wipeS S vs) (ds.drop (i + 1)) >>= fun zs => lcEnd (ac1 ++ (ys ++ zs))),
                  fun H' ⟨G8, r8⟩ => ⟨_, by omega, rfl, hlt1, G8, r8⟩, fun x H8 hx => ?_⟩
                obtain ⟨G8, sp8, hd8⟩ := hy1 x H8 hx
                refine hg1 x _ H8 _ ⟨G8, wipeS S1 vs1, d1, rel7.grow sp8, hd8, ?_⟩
                unfold lcF at p7
                cases f1 : ga1 d1 (wipeS S1 vs1) with
                | exc x => rw [f1] at p7; exact p7.elim
                | fail => rw [f1] at p7; exact p7.elim
                | ok S3 =>
                  rw [f1, R.nox_ok, R.ok_bind] at p7
                  intro G9 σ9 H9 sp9 rel9 fr9
                  refine ⟨wipe_eq (by rw [fr9.len, wipe_length]) fun j hj => fr9.sg j fun z => hj (hgs1 j z), ht1 σ9 H9 _ ⟨G9, S3, rel9, ?_⟩⟩
                  cases f2 : t1 S3 with
                  | exc x => rw [f2] at p7; exact p7.elim
                  | fail => rw [f2] at p7; exact p7.elim
                  | ok b1 =>
                    rw [f2, R.nox_ok, R.ok_bind] at p7
                    intro Ga Ha spa
                    have sC : Step G7 H7 Ga Ha := (sp8.trans sp9).trans spa
                    have nC := keep nG7 nH7 sC
                    cases b1 with
                    | false =>
                      rw [if_neg Bool.false_ne_true] at p7 ⊢
                      obtain ⟨k1, k2, k3, k4⟩ := nxt (H10 := Ha) sC (by rw [nC.2]; exact fun z => nomatch z) fun _ _ => rfl
                      exact ⟨Ga, ac1, av1, k1, k2, k3, k4, nC.1, nC.2, hr7.mono sC.g, p7⟩
                    | true =>
                      rw [if_pos rfl] at p7 ⊢
                      refine he σ9 Ha _ ⟨Ga, S3, rel9.grow spa, ?_⟩
                      cases f3 : fe S3 with
                      | exc x => rw [f3] at p7; exact p7.elim
                      | fail => rw [f3] at p7; exact p7.elim
                      | ok y =>
                        rw [f3, R.nox_ok, R.ok_bind] at p7
                        intro v Gb Hb spb hv
                        have sD := sC.trans spb
                        have nD := keep nG7 nH7 sD
                        have p8 : PostE c .fr G S σ H Q (lcF ga1 t1 fe (wipeS S1 vs1) (es.drop (j + 1)) >>= fun ys => lc2F ga t fi1 ga1 t1 fe vs vs1 (wipeS S vs) (ds.drop (i + 1)) >>= fun zs => lcEnd (ac1 ++ y :: (ys ++ zs))) := by
                          cases e4 : lcF ga1 t1 fe (wipeS S1 vs1) (es.drop (j + 1)) with
                          | exc x => exact absurd e4 (lcF_exc _)
                          | fail => rw [e4] at p7; exact p7.elim
                          | ok ys => rw [e4] at p7; simpa using p7
                        have hsh : ac1.length < sizeLine := by
                          cases e4 : lcF ga1 t1 fe (wipeS S1 vs1) (es.drop (j + 1)) with
                          | exc x => exact absurd e4 (lcF_exc _)
                          | fail => rw [e4] at p8; exact p8.elim
                          | ok ys =>
                            rw [e4, R.ok_bind] at p8
                            cases e5 : lc2F ga t fi1 ga1 t1 fe vs vs1 (wipeS S vs) (ds.drop (i + 1)) with
                            | exc x => exact absurd e5 (lc2F_exc _)
                            | fail => rw [e5] at p8; exact p8.elim
                            | ok zs => rw [e5] at p8; exact short_of (r := .ok (ys ++ zs)) p8 fun _ z => nomatch z
                        refine ⟨av1, nD.2, by rw [← hr7.length]; exact hsh, ?_⟩
                        obtain ⟨k1, k2, k3, k4⟩ := nxt (H10 := upd Hb Dl (.lst (av1 ++ [v]))) sD (by rw [upd_same]; exact fun z => nomatch z) fun _ ha => upd_ne ha
                        refine ⟨Gb, ac1 ++ [y], av1 ++ [v], k1, k2, k3, k4, nD.1, upd_same, (hr7.mono sD.g).append (.cons hv .nil), ?_⟩
                        have e : ∀ zs : List D, ac1 ++ [y] ++ zs = ac1 ++ y :: zs := fun zs => by simp
                        simp only [e]
                        exact p8
              · have hj : j = es.length := by omega
                subst hj
                rw [List.drop_length] at p7
                exact .inl ⟨itm1.1 _ (Nat.le_refl _), G7, ac1, av1, sp7, nG7, nH7, hr7, p7⟩
    · have hi : i = ds.length := by omega
      subst hi
      rw [List.drop_length] at p2
      refine .inl ⟨itm.1 _ (Nat.le_refl _), ?_⟩
      have p2 : PostE c .fr G S σ H Q (lcEnd (ac ++ [])) := p2
      rw [List.append_nil] at p2
      unfold lcEnd at p2
      by_cases hz : ac.length ≤ sizeLine
      · rw [if_pos hz] at p2
        exact p2 _ G2 H2 (sp.trans sp2) ⟨Dl, _, rfl, hGD, hD0, hHD, .lst hr⟩
      · rw [if_neg hz] at p2; exact p2.elim
theorem d_lc2 {elt iter iter1 : Expr} {ifs ifs1 : List Expr} {scope : Scope} (own : List (Str × Nat)) (vs1 : List Nat) {ki gs ki1 gs1 : List Nat} {fi fi1 : FI} {ga ga1 : FG} {fe : FE} (hc : X.calm = true) (hN : X.N.Nodup) (hi : PI' X c ki tg iter fi) (ok : BlkOk X.N X.env.scope scope own)
    (hg : ∀ (s : Shared) (H : Hp) (C : Addr) (cl : List (Str × Addr)) (fp : List Addr), PG' (X.blk s H scope (compEnvC scope cl C X.env) fp) c.nx gs tg ga) (ht : ∀ (s : Shared) (H : Hp) (C : Addr) (cl : List (Str × Addr)) (fp : List Addr), PTs' (X.blk s H scope (compEnvC scope cl C X.env) fp) c.nx ifs t)
    (hi1 : ∀ (s : Shared) (H : Hp) (C : Addr) (cl : List (Str × Addr)) (fp : List Addr), PI' (X.blk s H scope (compEnvC scope cl C X.env) fp) c.nx ki1 tg1 iter1 fi1)
    (hg1 : ∀ (s : Shared) (H : Hp) (C : Addr) (cl : List (Str × Addr)) (fp : List Addr), PG' (X.blk s H scope (compEnvC scope cl C X.env) fp) c.nx gs1 tg1 ga1) (ht1 : ∀ (s : Shared) (H : Hp) (C : Addr) (cl : List (Str × Addr)) (fp : List Addr), PTs' (X.blk s H scope (compEnvC scope cl C X.env) fp) c.nx ifs1 t1)
    (he : ∀ (s : Shared) (H : Hp) (C : Addr) (cl : List (Str × Addr)) (fp : List Addr), PE' (X.blk s H scope (compEnvC scope cl C X.env) fp) c.nx .st elt fe) (hv : ∀ i ∈ vs1, i ∈ own.map (·.2) := by decide) (h1000 : ∀ i ∈ own.map (·.2), i < 1000 := by decide) (hgs : ∀ i, i ∈ gs → i ∈ own.map (·.2) := by decide) (hgs1 : ∀ i, i ∈ gs1 → i ∈ vs1 := by decide) (hs : ∀ x, foldedSetIterable iter X.env x = pure x := by intro _; rfl) (hs1 : ∀ env x, foldedSetIterable iter1 env x = pure x := by intro _ _; rfl) :
    PE' X c .fr (.ListComp elt [⟨tg, iter, ifs, 0⟩, ⟨tg1, iter1, ifs1, 0⟩] scope pos) (lc2E fi ga t fi1 ga1 t1 fe (own.map (·.2)) vs1) :=
  peI (pe_lc2 hc hN hi ok hv hg ht hi1 hg1 ht1 he hs hs1) fun σ H Q q => lc2_go (fun _ _ _ _ z => z) (fun _ _ _ z => z) (fun _ _ _ z => z) (fun _ _ _ _ z => z) (fun _ _ _ z => z) (fun _ _ _ z => z) h1000 hgs hgs1 q
end M
set_option Elab.async false
set_option linter.all false
set_option maxRecDepth 100000
set_option maxHeartbeats 4000000
namespace M
open PySem L2 PySem.Spec PyProof.Rows
section
variable {prog : Program} {w : World} {A : Around} {R : Result → Shared → Prop} {s : Shared} {elt t0 i0 t1 i1 : Expr} {ifs0 ifs1 : List Expr} {scope : Scope} {pos : Pos} {it acc : Value} {env : PySem.Env}
end
section
variable {τ κ : Type}
variable {X : Cx}
end
end M
set_option Elab.async false
set_option linter.all false
set_option maxRecDepth 100000
set_option maxHeartbeats 4000000
namespace M
open PySem L2
theorem rev_ind {α : Type} {P : List α → Prop} (h0 : P []) (h1 : ∀ xs x, P xs → P (xs ++ [x])) (xs : List α) : P xs := by
  rw [← List.reverse_reverse xs]
  induction xs.reverse with
  | nil => exact h0
  | cons x xs ih => rw [List.reverse_cons]; exact h1 _ _ ih
variable {c : Cf} {kd : Kd} {a : Expr} {t t1 : FT} {fr : Bool} {pos : Pos} {tg tg1 : Expr}
end M
set_option Elab.async false
set_option linter.all false
set_option maxRecDepth 100000
set_option maxHeartbeats 4000000
namespace M
open PySem L2 PySem.Spec PyProof.Rows
section
variable {X : Cx} {pins : List (Addr × Obj)} {σ : L2.St} {H H' : Hp} {s : Shared} {a : Addr} {y v : V} {u r : Value} {A : Around} {E : Value → Shared → Prop}
end
section
variable {κ : Type} [DecidableEq κ] {X : Cx}
end
end M
set_option Elab.async false
set_option linter.all false
set_option maxRecDepth 100000
set_option maxHeartbeats 4000000
namespace M
open PySem L2
section
variable {κ : Type} [DecidableEq κ]
theorem putL_nodup {ks : List κ} {ds : List D} {q : κ} {d : D} (h : ks.Nodup) : (putL ks ds q d).1.Nodup := by
  unfold putL
  cases e : ks.idxOf? q with
  | some i => exact h
  | none =>
    rw [List.idxOf?_eq_none_iff] at e
    rw [List.nodup_append]
    exact ⟨h, by simp, fun a ha b hb z => by rw [List.mem_singleton] at hb; subst hb; exact e (z ▸ ha)⟩
theorem putL_len {ks : List κ} {ds : List D} {q : κ} {d : D} (h : ks.length = ds.length) : (putL ks ds q d).1.length = (putL ks ds q d).2.length := by
  unfold putL
  cases e : ks.idxOf? q <;> simp [h]
theorem putL_le {ks : List κ} {ds : List D} {q : κ} {d : D} : (putL ks ds q d).1.length ≤ ks.length + 1 := by
  unfold putL
  cases e : ks.idxOf? q <;> simp
end
section
variable {κ : Type} [DecidableEq κ]
end
end M
set_option Elab.async false
set_option linter.all false
set_option maxRecDepth 100000
set_option maxHeartbeats 4000000
namespace M
open PySem L2
variable {X : Cx} {c : Cf} {kd k1 k2 k3 : Kd} {e o : Expr} {f g h : FE} {pos apos cpos : Pos} {k : Kn}
def idxD (x y : D) : R D := match x with
  | .lst ds => if dok 60 y && doks 59 ds then (match ds.findIdx? fun z => deq z y with | some j => .ok (.int j) | none => .fail) else .fail
  | _ => .fail
def isLst : D → Bool
  | .lst _ => true
  | _ => false
def eIdx (f g : FE) : FE := fun S => f S >>= fun x => if isLst x then g S >>= fun y => (idxD x y).nox else .fail
theorem toPs_get : ∀ {ds : List D} {j : Nat} {d : D}, ds[j]? = some d → (D.toPs ds)[j]? = some d.toP
  | [], _, _, h => by simp at h
  | d :: ds, 0, _, h => by simp at h; subst h; simp [D.toPs]
  | d :: ds, j + 1, _, h => by simp only [D.toPs]; simpa using toPs_get (ds := ds) (by simpa using h)
theorem toPs_back : ∀ {ds : List D} {j : Nat} {z : PyData}, (D.toPs ds)[j]? = some z → ∃ d, ds[j]? = some d ∧ z = d.toP
  | [], _, _, h => by simp [D.toPs] at h
  | d :: ds, 0, _, h => by simp [D.toPs] at h; exact ⟨d, by simp, h.symm⟩
  | d :: ds, j + 1, _, h => by simp only [D.toPs] at h; simpa using toPs_back (ds := ds) (by simpa using h)
theorem idx_go (hk : k.K = X.K) {G H : Hp} {x y : D} {u v : V} {d : D} {Q : VK} (ex : Ex G H) (nx : Now k G H x u) (ny : Now k G H y v) (hg : idxD x y = .ok d) (q : ∀ j : Int, d = .int j → Q (.int j) H) : rIndexD X.K u [v] H Q := by
  cases x with
  | lst ds =>
    simp only [idxD] at hg
    split at hg
    · rename_i hf
      simp only [Bool.and_eq_true] at hf
      split at hg
      · rename_i j hj
        cases hg
        obtain ⟨a, vs, rfl, ha, r⟩ := nx.lst ex
        have hl : dok 60 (.lst ds) = true := by simp only [dok]; exact hf.2
        have ds' : SeqAt.shaped (.list (D.toPs ds)) = true := by
          have := dok_shaped hl
          simpa only [D.toP] using this
        rw [List.findIdx?_eq_some_iff_getElem] at hj
        obtain ⟨h1, h2, h3⟩ := hj
        refine ⟨a, v, y.toP, D.toPs ds, j, (ds[j]).toP, rfl, rfl, hk ▸ .lst (SqL.of ha) ((r.mono ex).dp 59 hf.2), hk ▸ (ny.rd ex).dp 60 hf.1, ds', dok_shaped hf.1, toPs_get (by simp [h1]), ?_, fun m z' hm hz => ?_, q _ rfl⟩
        · rw [deq_eqv 59 60 _ _ (doks_mem hf.2 (List.getElem_mem h1)) hf.1]; exact h2
        · obtain ⟨d', hd', rfl⟩ := toPs_back hz
          have hm2 : d' ∈ ds := List.mem_of_getElem? hd'
          rw [deq_eqv 59 60 _ _ (doks_mem hf.2 hm2) hf.1]
          have := h3 m hm
          obtain ⟨hlt, e⟩ := List.getElem?_eq_some_iff.mp hd'
          subst e
          simpa using this
      · cases hg
    · cases hg
  | _ => simp [idxD] at hg
theorem d_idx (hk : c.k.K = X.K) (hu : X.A.units + 65 < cLine) (ho : PE' X c k1 o f) (he : PE' X c k2 e g)
    (h3 : starEach [e] X.env = [(false, eval e X.env)] := by rfl) (hb : attributeBase o "index" X.env (eval o X.env) = eval o X.env := by rfl) (h2 : (apos.endLine == cpos.line) = true := by rfl) :
    PE' X c .st (.Call (.Attribute o "index" apos) [e] [] cpos) (eIdx f g) :=
  peI (pe_bm PySem.F.plainAttrs_list PySem.F.slot_list_index PySem.F.type_list_index (mt_indexD hu) ho (pa_cons he pa_nil h3) hb (by rw [h3]; rfl) h2 h3 rfl) fun σ H Q ⟨G, S, rel, p⟩ => by
    refine rdE_go (g := fun x => if isLst x then g S >>= fun y => (idxD x y).nox else .fail) (Post := PostE c .st G S σ H Q) rel p (fun _ z => z) (fun z => z) fun d1 v1 G1 H1 s1 q1 p1 => ?_
    by_cases hl : isLst d1 = true
    · rw [if_pos hl] at p1
      have ty : tyV X.K "list" v1 H1 := by
        cases d1 <;> simp only [isLst] at hl <;> first | (cases hl; done) | skip
        obtain ⟨a, vs, rfl, ha, r⟩ := q1.now.lst s1.gh
        exact .inl ⟨rfl, vs, SqL.of ha⟩
      refine ⟨ty, ?_⟩
      refine rdE_go (g := fun y => (idxD d1 y).nox) (Post := PostE c .st G S σ H Q) (rel.grow s1) p1 (fun _ z => z) (fun z => z) fun d2 v2 G2 H2 s2 q2 p2 => ?_
      cases e : idxD d1 d2 with
      | exc x => rw [e] at p2; exact p2.elim
      | fail => rw [e] at p2; exact p2.elim
      | ok d =>
        rw [e] at p2
        refine idx_go hk s2.gh (q1.now.grow s2) q2.now e fun j hj => ?_
        subst hj
        exact p2 _ G2 H2 (s1.trans s2) (.int _)
    · rw [if_neg hl] at p1; exact p1.elim
end M
set_option Elab.async false
set_option linter.all false
set_option maxRecDepth 100000
set_option maxHeartbeats 4000000
namespace M
open PySem L2 PySem.W
section
variable {prog : Program} {w : World} {A : Around} {E : Value → Shared → Prop} {s : Shared} {K : PySem.W.Frag} {a C f : Addr} {ox : Obj} {od : Option Obj} {x : Value}
end
section
variable {X : Cx} {k : Kn} {lv m' ci : Nat} {den : List D → R D}
end
section
variable {X : Cx} {c : Cf} {a b : Expr} {f g : FE} {pos : Pos} {den : List D → R D}
def hasB (neg : Bool) : D → R D
  | .bl b => .ok (.bl (b != neg))
  | _ => .fail
def eHas (ci : Nat) (den : List D → R D) (neg : Bool) (f g : FE) : FE := fun S => f S >>= fun x => g S >>= fun o => if o.isObj ci then (den [o, x]).nox >>= hasB neg else .fail
end
end M
set_option Elab.async false
set_option linter.all false
set_option maxRecDepth 100000
set_option maxHeartbeats 4000000
namespace M
open PySem L2 PyProof.Rows
open PySem.Sem (wp)
def boolD : D → R D
  | .lst ds => .ok (.bl (!ds.isEmpty))
  | .tup ds => .ok (.bl (!ds.isEmpty))
  | .bl b => .ok (.bl b)
  | .int i => .ok (.bl (i != 0))
  | _ => .fail
section
variable {X : Cx} {k : Kn}
end
end M
set_option Elab.async false
set_option linter.all false
set_option maxRecDepth 100000
set_option maxHeartbeats 4000000
namespace M
open PySem L2 RZ
end M
set_option Elab.async false
set_option linter.all false
set_option maxRecDepth 100000
set_option maxHeartbeats 4000000
namespace M
open PySem L2
section
variable {X : Cx} {c : Cf} {kd k1 k2 k3 : Kd} {a b e o : Expr} {f g h : FE} {pos apos : Pos} {fr : Bool} {x : Str} {den : List D → R D} {ci : Nat}
theorem s_lc2Z (i : Nat) {y : Str} {py spos : Pos} {tg tg1 : Expr} {t t1 : FT} {elt iter iter1 : Expr} {ifs ifs1 : List Expr} {scope : Scope} (own : List (Str × Nat)) (vs1 : List Nat) {ki gs ki1 gs1 : List Nat} {fi fi1 : FI} {ga ga1 : FG} {fe : FE} (hc : X.calm = true) (hN : X.N.Nodup) (hi : PI' X c ki tg iter fi) (ok : BlkOk X.N X.env.scope scope own)
    (hg : ∀ (s : Shared) (H : Hp) (C : Addr) (cl : List (Str × Addr)) (fp : List Addr), PG' (X.blk s H scope (compEnvC scope cl C X.env) fp) c.nx gs tg ga) (ht : ∀ (s : Shared) (H : Hp) (C : Addr) (cl : List (Str × Addr)) (fp : List Addr), PTs' (X.blk s H scope (compEnvC scope cl C X.env) fp) c.nx ifs t)
    (hi1 : ∀ (s : Shared) (H : Hp) (C : Addr) (cl : List (Str × Addr)) (fp : List Addr), PI' (X.blk s H scope (compEnvC scope cl C X.env) fp) c.nx ki1 tg1 iter1 fi1)
    (hg1 : ∀ (s : Shared) (H : Hp) (C : Addr) (cl : List (Str × Addr)) (fp : List Addr), PG' (X.blk s H scope (compEnvC scope cl C X.env) fp) c.nx gs1 tg1 ga1) (ht1 : ∀ (s : Shared) (H : Hp) (C : Addr) (cl : List (Str × Addr)) (fp : List Addr), PTs' (X.blk s H scope (compEnvC scope cl C X.env) fp) c.nx ifs1 t1)
    (he : ∀ (s : Shared) (H : Hp) (C : Addr) (cl : List (Str × Addr)) (fp : List Addr), PE' (X.blk s H scope (compEnvC scope cl C X.env) fp) c.nx .st elt fe) (hy : X.N[i]? = some y := by rfl) (hyl : X.env.scope.names.lookup y = some .local := by rfl)
    (hsw : swapsWith (.ListComp elt [⟨tg, iter, ifs, 0⟩, ⟨tg1, iter1, ifs1, 0⟩] scope pos) (some (.Name y py)) spos.line X.env = pure true := by exact sw_true rfl rfl rfl (by decide +kernel)) (hv : ∀ i ∈ vs1, i ∈ own.map (·.2) := by decide) (h1000 : ∀ i ∈ own.map (·.2), i < 1000 := by decide) (hgs : ∀ i, i ∈ gs → i ∈ own.map (·.2) := by decide) (hgs1 : ∀ i, i ∈ gs1 → i ∈ vs1 := by decide) (hs : ∀ x, foldedSetIterable iter X.env x = pure x := by intro _; rfl) (hs1 : ∀ env x, foldedSetIterable iter1 env x = pure x := by intro _ _; rfl) :
    PS' X c fr [i] (.Assign [.Name y py] (.ListComp elt [⟨tg, iter, ifs, 0⟩, ⟨tg1, iter1, ifs1, 0⟩] scope pos) spos) (sSet i (lc2E fi ga t fi1 ga1 t1 fe (own.map (·.2)) vs1)) :=
  psI (ps_setLc2 hc hN hy hyl hsw hi ok hv hg ht hi1 hg1 ht1 he hs hs1) fun Dn σ H q => lc2_go (fun _ _ _ _ z => z) (fun _ _ _ z => z) (fun _ _ _ z => z) (fun _ _ _ _ z => z) (fun _ _ _ z => z) (fun _ _ _ z => z) h1000 hgs hgs1 (setF_go q)
end
end M
set_option Elab.async false
set_option linter.all false
set_option maxRecDepth 100000
set_option maxHeartbeats 4000000
namespace M
open PySem L2
section
variable {X : Cx} {c : Cf} {k : Kn} {kd k1 k2 k3 : Kd} {a b e o : Expr} {f g h : FE} {pos apos cpos p' : Pos} {fr : Bool} {x y : Str} {den : List D → R D}
end
end M
set_option Elab.async false
set_option linter.all false
set_option maxRecDepth 100000
set_option maxHeartbeats 4000000
namespace M
open PySem L2
structure MakerXK (P : Program) (w : World) (K : PySem.W.Frag) (mg : Str → Option Value) (base : Heap) (k : Kn) (lv : Nat) (x : Str) (ci n : Nat) (ks : List Str) (den : List D → R D) : Prop where
  ex : ∃ (C f : Addr) (fd : FuncData) (ps nm : List Str) (g : List Value → List Value → List Value), k.cl ci = some (C, nm) ∧ Mk K C f ∧ FnOk P w K mg base (L2N.CX P w) lv f fd ps (SpN k ci (n + ks.length + 1) den) ∧ mg x = some (.ref C) ∧ KBn K fd ps (n + 1) ks g (fun vs zs => vs ++ zs)
section
variable {X : Cx} {c : Cf} {kd k1 k2 k3 : Kd} {a b e o : Expr} {f g h : FE} {pos apos : Pos} {fr : Bool} {x : Str} {den : List D → R D} {ci : Nat}
theorem run_makeKS {CX : CXT} {k n : Nat} {C f : Addr} {fd : FuncData} {ps ks : List Str} {sp : Sp} {E : XK} {g : List Value → List Value → List Value} {gV : List V → List V → List V} {pins : List (Addr × Obj)} {σ : L2.St} {H : Hp} {s : Shared} {Q : VK} {us ws : List Value} {vs zs : List V} (Mm : Mk X.K C f) (F : FnOk X.prog X.w X.K X.mg X.base CX k f fd ps sp) (hr : Room (k + 1) X.A) (hb : KBn X.K fd ps (n + 1) ks g gV)
    (hx : ∀ (H : Hp) (s : Shared) (e : Value) (s' : Shared), L2.Inv X pins σ H s → CX X.stack H s E e s' → X.xe e s') (I : L2.Inv X pins σ H s) (r : Vals vs us) (rz : Vals zs ws) (l1 : vs.length = n) (l2 : zs.length = ks.length)
    (h : ∀ x dx, H x = none → H dx = none → dx ≠ x → sp (gV (.ref x :: vs) zs) (upd (upd H dx (.own x)) x (.ins C dx [])) (fun v H2 => v = .non ∧ Q (.ref x) H2) E) :
    wpAny (model X.prog X.w) X.A (call (.ref C) us (ks.zip ws)) (EP X pins σ Q) X.xe s := by
  have hq := h (s.heap.objs.size + 1) s.heap.objs.size (I.hok.fresh (Nat.le_succ _)) (I.hok.fresh (Nat.le_refl _)) (Nat.ne_of_lt (Nat.lt_succ_self _))
  have I2 := L2.Inv.made (C := C) I
  have r1 : Vals (V.ref (s.heap.objs.size + 1) :: vs) (Value.ref (s.heap.objs.size + 1) :: us) := .cons rfl r
  have r2 := hb.rel r1 rz
  have n1 : (Value.ref (s.heap.objs.size + 1) :: us).length = n + 1 := by
    rw [List.length_cons, ← r.length, l1]
  refine wpAny_call (make_map (f := f) I.kIn Mm.makes Mm.init (beq_iff_eq.mp Mm.fn) (codeAny_mono (F.run _ X.stack _ _ ⟨Value.ref (s.heap.objs.size + 1) :: us, ks.zip ws⟩ (g (Value.ref (s.heap.objs.size + 1) :: us) ws) _ _ E (hr.make C us (ks.zip ws))
    (I2.env0.make C us (ks.zip ws)) (hb.to _ (Value.ref (s.heap.objs.size + 1) :: us) ws I2.kIn n1 (rz.length.symm.trans l2)) r2 hq) fun r s' hq' => ?_))
  cases r with
  | error e => exact hx _ _ e s' I2 hq'
  | ok fl =>
    cases fl with
    | ret u =>
      obtain ⟨v, H', I3, rv, ev, q3⟩ := I2.after hq'
      subst ev
      exact ⟨rv, ⟨V.ref (s.heap.objs.size + 1), H', I3, rfl, q3⟩⟩
    | next => exact False.elim hq'
    | brk => exact False.elim hq'
    | cont => exact False.elim hq'
def tMakeKS (C : Addr) (n m : Nat) (sp : Sp) (E : L2.St → XK) (t tk : TA) : TE := fun σ H Q => t σ H fun vs H1 => tk σ H1 fun zs H2 => vs.length = n ∧ zs.length = m ∧ ∀ x dx, H2 x = none → H2 dx = none → dx ≠ x →
  sp (.ref x :: vs ++ zs) (upd (upd H2 dx (.own x)) x (.ins C dx [])) (fun v H3 => v = .non ∧ Q (.ref x) H3) (E σ)
theorem pe_makeKS {CX : CXT} {E : L2.St → XK} {k n : Nat} {C f : Addr} {fd : FuncData} {ps ks : List Str} {sp : Sp} {p : Pos} {es : List Expr} {kws : List Keyword} {t tk : TA} {g : List Value → List Value → List Value} (Mm : Mk X.K C f) (F : FnOk X.prog X.w X.K X.mg X.base CX k f fd ps sp) (hr : Room (k + 1) X.A) (hg : Gl X x) (hm : X.mg x = some (.ref C)) (hb : KBn X.K fd ps (n + 1) ks g (fun vs zs => vs ++ zs)) (hx : ∀ σ, PassesAt CX X σ (E σ))
    (ha : PA X (e :: es) t) (hkw : PK X kws tk)
    (hall : (backToKw pos (keywordEach kws X.env)).all (·.1.isSome) = true := by rfl) (hks : (backToKw pos (keywordEach kws X.env)).filterMap (·.1) = ks := by rfl) (hdb : (x == ("__debug__" : Str)) = false := by decide)
    (he : starEach (e :: es) X.env = (false, eval e X.env) :: starEach es X.env := by rfl) (hpl : ((backTo pos (starEach (e :: es) X.env)).any (·.1) || (backToKw pos (keywordEach kws X.env)).any (·.1.isNone)) = false := by rfl) :
    PE X (.Call (.Name x p) (e :: es) kws pos) (tMakeKS C n ks.length sp E t tk) := by
  refine ⟨fun pins s σ H Q I h => ?_⟩
  refine wpAny_Call_Name_kw (ld_glob I hg hm ?_ hdb)
  refine PySem.W.callWith_KW (h₀ := X.base) I.ok.mod.kin Mm.kp hall (thn (ha.run pos pins s σ H _ I h) fun us s1 ⟨vs, H1, I1, r, q⟩ => ?_) hpl he
  refine thn (hkw.run pos pins s1 σ H1 _ I1 q) fun ws s2 ⟨zs, H2, I2, rz, l1, l2, q2⟩ => ⟨I2.kIn, ?_⟩
  rw [hks]
  exact run_makeKS Mm F hr hb (fun H s e s' => hx σ pins H s e s') I2 r rz l1 l2 q2
def eCXK (o : List D → R D) (fa fk : FA) : FE := fun S => fa S >>= fun as => fk S >>= fun bs => o (as ++ bs)
theorem d_makerXK {lv m' : Nat} {n : Nat} {ks : List Str} {p : Pos} {es : List Expr} {kws : List Keyword} {fa fk : FA} (F : MakerXK X.prog X.w X.K X.mg X.base c.k lv x ci n ks den) (hr : Room m' X.A) (hle : lv + 1 ≤ m') (tk : L2N.Takes X c.W) (ha : PA' X c false (e :: es) fa) (hl : Len n fa) (hk : PK' X c kws fk) (hkl : Len ks.length fk) (hg : Gl X x := by rfl)
    (hall : (backToKw pos (keywordEach kws X.env)).all (·.1.isSome) = true := by rfl) (hks : (backToKw pos (keywordEach kws X.env)).filterMap (·.1) = ks := by rfl) (hdb : (x == ("__debug__" : Str)) = false := by decide)
    (he : starEach (e :: es) X.env = (false, eval e X.env) :: starEach es X.env := by rfl) (hpl : ((backTo pos (starEach (e :: es) X.env)).any (·.1) || (backToKw pos (keywordEach kws X.env)).any (·.1.isNone)) = false := by rfl) :
    PE' X c .fr (.Call (.Name x p) (e :: es) kws pos) (eCXK den fa fk) := by
  obtain ⟨C, f, fd, ps, nm, g, hcl, mk, ok, hm, hb⟩ := F.ex
  refine peI (pe_makeKS mk ok (hr.mono hle) hg hm hb (fun σ => L2N.passAt tk σ) ha hk hall hks hdb he hpl) fun σ H Q ⟨G, S, rel, p⟩ => ?_
  have p : PostE c .fr G S σ H Q (fa S >>= fun as => fk S >>= fun bs => den (as ++ bs)) := p
  refine ⟨G, S, rel, ?_⟩
  cases e1 : fa S with
  | exc x => rw [e1] at p; exact p
  | fail => rw [e1] at p; exact p
  | ok as =>
    rw [e1] at p
    intro vs G1 H1 s1 q1
    refine ⟨G1, S, rel.grow s1, ?_⟩
    have p : PostE c .fr G S σ H Q (fk S >>= fun bs => den (as ++ bs)) := p
    cases e2 : fk S with
    | exc x => rw [e2] at p; exact p
    | fail => rw [e2] at p; exact p
    | ok bs =>
      rw [e2] at p
      have p : PostE c .fr G S σ H Q (den (as ++ bs)) := p
      intro zs G2 H2 s2 q2
      have q1 : RDs c.k G1 as vs := q1
      have q2 : RDs c.k G2 bs zs := q2
      have l1 := hl S as e1
      have l2 := hkl S bs e2
      refine ⟨by rw [← q1.length]; exact l1, by rw [← q2.length]; exact l2, fun x dx hx hdx hne => ?_⟩
      have sp := s1.trans s2
      have q3 : RDs c.k G2 (as ++ bs) (vs ++ zs) := (q1.mono s2.g).append q2
      have hgx : G2 x = none := s2.gh.free hx
      have ex1 : Ex H2 (upd (upd H2 dx (.own x)) x (.ins C dx [])) := (Ex.new hdx).upd hx
      refine ⟨by simp [← q1.length, ← q2.length, l1, l2], x, vs ++ zs, G2, as ++ bs, C, dx, nm, rfl, hcl, upd_same, hgx, s2.gh.trans ex1, q3, ?_⟩
      cases e3 : den (as ++ bs) with
      | ok d =>
        rw [e3] at p
        intro G' H' o ex hk gh hgx' gr ho ct
        refine ⟨rfl, p _ G' H' (sp.trans ⟨ex, fun b u q => hk b u (ne_of_none q hx) (ex1 b u q), gh, fun b u q => ?_⟩) ⟨x, o, rfl, hgx', sp.h.free hx, ho, ct⟩⟩
        rcases gr b u q with z | z
        · exact .inl z
        · exact .inr (ex1.free z)
      | exc y =>
        rw [e3] at p
        have p : PX c σ y := p
        intro _ cls da G' H' s3 xr
        have exl : Ex H2 (less (upd (upd H2 dx (.own x)) x (.ins C dx [])) x) := fun b u q => by
          rw [less_ne (ne_of_none q hx)]; exact ex1 b u q
        refine p cls da G' H' ((rel.grow sp).st.trans ⟨s3.g, fun b u q => s3.h b u (exl b u q), s3.gh, fun b u q => ?_⟩) xr
        rcases s3.gr b u q with z | z
        · exact .inl z
        · exact .inr (exl.free z)
      | fail => rw [e3] at p; exact p.elim
end
end M
set_option Elab.async false
set_option linter.all false
set_option maxRecDepth 100000
set_option maxHeartbeats 4000000
namespace M
open PySem L2
section
variable {X : Cx} {c : Cf} {a b : Expr} {f g : FE} {pos : Pos} {fr : Bool} {x y : Str}
def sParO (i j : Nat) (f g : FE) : FS := fun S => f S >>= fun d => g S >>= fun e => .ok (.nx, (S.set i (some ⟨true, d⟩)).set j (some ⟨true, e⟩))
end
end M
set_option Elab.async false
set_option linter.all false
set_option maxRecDepth 100000
set_option maxHeartbeats 4000000
namespace M
open PySem L2
section
variable {c : Cf} {G H : Hp} {S S' : Env} {σ : St}
end
end M
set_option Elab.async false
set_option linter.all false
set_option maxRecDepth 100000
set_option maxHeartbeats 4000000
namespace M
open PySem L2 PyProof.Rows
theorem cxUpN {P : Program} {w : World} : StX.CXUp (L2N.CX P w) := by
  rintro outer s H s2 H2 E e s' un kp ho ⟨a, B, H', cls, d, ea, fl, hok, ub, na, os, ag, he⟩
  refine ⟨a, B, H', cls, d, ea, fl, hok, ⟨fun b o q n hb => ub.keep b o (kp b o q) (un.free b o q n (by simp)) hb, fun b o q hb => ub.slot b o (kp b o q) hb, fun b o q n => ub.free b o (kp b o q) (un.free b o q n (by simp)),
    fun b o q hb => ub.there b o (kp b o q) hb, fun b xs q => ub.tups b xs (un.tups b xs q), fun b o xs q => ub.frzs b o xs (un.frzs b o xs q), fun b ps q => ?_⟩, na, os.trans ho, ag, he⟩
  obtain ⟨m1, e1⟩ := un.tbls b ps q
  obtain ⟨m2, e2⟩ := ub.tbls b _ e1
  exact ⟨m1 ++ m2, by rw [e2, Array.append_assoc]⟩
def KwT {α : Type} (D : Addr) : List (Str × Value) → Sem α → Sem α → Prop
  | [], t, r => t = r
  | q :: l, t, r => ∃ (β γ : Type) (k1 : Option Value → Sem β) (k2 : β → Sem γ) (k3 : γ → Sem α) (a : β), t = ((nsGet D q.1 >>= k1) >>= k2) >>= k3 ∧ k1 (some q.2) = pure a ∧ KwT D l (k2 a >>= k3) r
theorem KwT.run {α : Type} {K : PySem.W.Frag} {M : Model} {A : Around} {D : Addr} {Q : α → Shared → Prop} {E : Value → Shared → Prop} {s : Shared} (X : K.In s.heap) {r : Sem α} (h : wpAny M A r Q E s) : ∀ {l : List (Str × Value)} {t : Sem α}, (∀ q ∈ l, PySem.W.nsIn K D q.1 = some (some q.2)) → KwT D l t r → wpAny M A t Q E s
  | [], t, _, e => by cases (show t = r from e); exact h
  | q :: l, t, hl, ⟨β, γ, k1, k2, k3, a, e1, e2, e3⟩ => by
    have ih := KwT.run X h (fun p hp => hl p (List.mem_cons_of_mem _ hp)) e3
    have l1 : PySem.W.Looks M s.heap (nsGet D q.1 >>= k1) a := (PySem.W.looks_nsIn X (hl q (List.mem_cons_self ..))).andThen (PySem.W.Looks.of_pure e2)
    rw [e1, bind_assoc]
    exact wpAny_bind (l1.here ih)
def StarB (K : PySem.W.Frag) (fd : FuncData) (ps : List Str) (pv : Str) (m : Nat) (ks : List Str) (g : List Value → List Value → List Value) : Prop :=
  ∀ (M : Model) (A : Around) (Ex : Value → Shared → Prop) (Q : List (Str × Value) → Shared → Prop) (s : Shared) (us rest ws : List Value), K.In s.heap → us.length = m → ws.length = ks.length →
    wpAny M A (newTuple rest) (fun t s' => Q (ps.zip (g us ws) ++ [(pv, t)]) s') Ex s → wpAny M A (bindArgs fd ⟨us ++ rest, ks.zip ws⟩) Q Ex s
section
variable {K : PySem.W.Frag} {x qual : Str} {params : Arguments} {body : List Stmt} {scope : Scope} {dvs : List V} {kws : List (Str × V)} {f : Addr} {fd : FuncData} {ps : List Str} {pv : Str}
theorem tail_star {M : Model} {A : Around} {Ex : Value → Shared → Prop} {Q : List (Str × Value) → Shared → Prop} {s : Shared} {rest : List Value} {l : List (Str × Value)} (h : wpAny M A (newTuple rest) (fun t s' => Q (l ++ [(pv, t)]) s') Ex s) :
    wpAny M A (newTuple rest >>= fun t => pure (l ++ [(pv, t)])) Q Ex s := wpAny_bind (wpAny_mono h (fun _ _ q => wpAny_pure q) fun _ _ q => q)
theorem starB1 (F : FunD K x qual params body scope dvs kws f fd) (m : Nat) (hd : dvs ≠ [])
    (h : ∀ (T : Addr) (kV doc pm : Value) (an : Option Addr) (cdv ct : Value) (us its rest : List Value), us.length = m → its.length = dvs.length →
      ∃ k, bindArgs (PySem.W.fnOf x qual params body scope (.ref T) kV doc pm an cdv ct) ⟨us ++ rest, []⟩ = seqItems? (.ref T) >>= k ∧ k (some its.toArray) = (newTuple rest >>= fun t => pure (ps.zip us ++ [(pv, t)]))) : StarB K fd ps pv m [] (fun us _ => us) := by
  obtain ⟨oc, od, dV, kV, doc, pm, an, cdv, ct, osl, rfl, lk, hcd, hD, hK⟩ := F.ex
  rcases hD with ⟨e, _⟩ | ⟨_, T, o, its, n, rfl, lT, oT, rT⟩
  · exact absurd e hd
  · intro M A Ex Q s us rest ws X l1 l2 hq
    have : ws = [] := List.eq_nil_of_length_eq_zero l2
    subst this
    obtain ⟨k, e1, e2⟩ := h T kV doc pm an cdv ct us its rest l1 rT.length.symm
    rw [List.zip_nil_right, e1]
    refine wpAny_bind (wpAny_seqItems (X _ _ lT) oT ?_)
    rw [e2]
    exact tail_star hq
theorem starB2 (F : FunD K x qual params body scope [] kws f fd) (m : Nat) (ks : List Str) (ms : List (Str × V)) (g : List Value → List Value → List Value → List Value) (hk : kws ≠ []) (hms : ∀ q ∈ ms, q ∈ kws)
    (h : ∀ (D : Addr) (doc pm : Value) (an : Option Addr) (cdv ct : Value) (us rest mv ws : List Value), us.length = m → mv.length = ms.length → ws.length = ks.length →
      KwT D ((ms.map (·.1)).zip mv) (bindArgs (PySem.W.fnOf x qual params body scope .none (.ref D) doc pm an cdv ct) ⟨us ++ rest, ks.zip ws⟩) (newTuple rest >>= fun t => pure (ps.zip (g us mv ws) ++ [(pv, t)]))) :
    ∃ mv, Vals (ms.map (·.2)) mv ∧ StarB K fd ps pv m ks (fun us ws => g us mv ws) := by
  obtain ⟨oc, od, dV, kV, doc, pm, an, cdv, ct, osl, rfl, lk, hcd, hD, hK⟩ := F.ex
  rcases hD with ⟨_, rfl⟩ | ⟨e, _⟩
  · rcases hK with e | ⟨D, rfl, hq⟩
    · exact absurd e hk
    · obtain ⟨mv, hl, rk, hks⟩ := kwd_vals (ms := ms) fun q hm => hq q (hms q hm)
      refine ⟨mv, rk, fun M A Ex Q s us rest ws X l1 l2 hq => ?_⟩
      exact KwT.run X (tail_star hq) hks (h D doc pm an cdv ct us rest mv ws l1 hl l2)
  · exact absurd rfl e
end
def FnStar (P : Program) (w : World) (K : PySem.W.Frag) (mg : Str → Option Value) (base : Heap) (CX : CXT) (lv : Nat) (f : Addr) (m : Nat) (ks : List Str) (gV : List V → List V → List V) (sp : Sp) : Prop :=
  ∀ (A : Around) (outer : List PySem.Env) (s : Shared) (H : Hp) (us rs ws : List Value) (vs xs zs : List V) (Q : VK) (E : XK), Room lv A → Env0 P w K mg base A outer s H → Vals vs us → Vals xs rs → Vals zs ws → us.length = m → ws.length = ks.length → xs.length ≤ sizeLine →
    (∀ p, H p = none → sp (gV vs zs ++ [.ref p]) (upd H p (.tup xs)) Q E) → codeAny (model P w) A (.call (.ref f) ⟨us ++ rs, ks.zip ws⟩) (CR CX outer P w H s Q E) s
section
variable {CX : CXT} {P : Program} {w : World} {K : PySem.W.Frag} {mg : Str → Option Value} {base : Heap} {k : Nat} {x qual : Str} {params : Arguments} {body : List Stmt} {scope : Scope} {dvs : List V} {kws : List (Str × V)} {f : Addr} {fd : FuncData} {N ps : List Str} {pv : Str} {sp : Sp}
theorem fn_starX (F : FunD K x qual params body scope dvs kws f fd) (S : FnScope N (ps ++ [pv]) scope) (hCX : StX.CXUp CX) {m : Nat} {ks : List Str} {g : List Value → List Value → List Value} {gV : List V → List V → List V} (hb : StarB K fd ps pv m ks g)
    (hrel : ∀ {vs : List V} {us : List Value} {zs : List V} {ws : List Value}, Vals vs us → Vals zs ws → Vals (gV vs zs) (g us ws)) (hlen : ∀ us ws : List Value, us.length = m → ws.length = ks.length → (g us ws).length = ps.length)
    (hbody : ∀ (cdv : Value) (A : Around) (outer : List PySem.Env) (s : Shared) (H : Hp) (vs : List V) (Q : VK) (E : XK), Room k (A.deeper (envOfC qual scope s.heap.objs.size f cdv)) → sp vs H Q E →
      ∃ t, PSs (cxOf CX P w K mg base N qual scope f cdv A outer s H E) body t ∧ t { nx := fun _ H' => Q .non H', rt := Q } (L2.start N vs) H) : FnStar P w K mg base CX (k + 1) f m ks gV sp := by
  obtain ⟨oc, od, dV, kV, doc, pm, an, cdv, ct, osl, rfl, lk, hcd, _, _⟩ := F.ex
  intro A outer s H us rs ws vs xs zs Q E hr e0 r1 r2 r3 l1 l2 hz hq
  have hn : H s.heap.objs.size = Option.none := e0.hok.fresh (Nat.le_refl _)
  have KX : K.In s.heap := e0.mod.kin.keeps fun b o e => (e0.bs b o e).1
  have rg := hrel r1 r3
  have lg := hlen us ws l1 l2
  have lv : (gV vs zs).length = ps.length := rg.length.trans lg
  refine StX.run_bnd lk hcd S hr e0 (G := fun as H2 => ∃ p, H p = Option.none ∧ as = gV vs zs ++ [V.ref p] ∧ H2 = upd H p (.tup xs)) (fun A' Ex Q' h => ?_) fun s2 H2 as ⟨p, hp, ex, eH⟩ hr' => ?_
  · refine hb _ _ _ _ s us rs ws KX l1 l2 (wpAny_newTuple ?_ (by rw [← r2.length]; exact hz))
    have new : ObjOk P w (upd H s.heap.objs.size (.tup xs)) (s.heap.push ({ cls := .type "tuple", data := .seq rs.toArray } : Obj)) s.heap.objs.size (.tup xs) := ⟨hz, rs, r2, ⟨_, Heap.get?_push_size _ rfl, rfl, _, rfl⟩⟩
    have un := StX.un_laid (fs := frs outer) (s := s) (o := ({ cls := .type "tuple", data := .seq rs.toArray } : Obj)) (u := .tup xs) hn
    have z := h _ _ (gV vs zs ++ [V.ref s.heap.objs.size]) (g us ws ++ [Value.ref s.heap.objs.size]) (StX.env0_laid e0 new) un rfl (fun e s' => hCX outer s H _ _ E e s' un (fun b o q => Heap.get?_push_of_some _ q) rfl) (rg.append (.cons rfl .nil))
      (by rw [List.length_append, List.length_append, lv] <;> rfl) ⟨_, hn, rfl, rfl⟩
    rw [List.zip_append lg.symm] at z
    exact z
  · subst ex eH
    exact hbody cdv A outer s2 _ _ Q E hr' (hq p hp)
theorem init_okS {k : Kn} {as : List Nat} {lv ci : Nat} {s : FS} (F : FunD k.K x qual params body scope dvs kws f fd) (S : FnScope N (ps ++ [pv]) scope) (h0 : 0 ∉ as) {m : Nat} {ks : List Str} {g : List Value → List Value → List Value} {gV : List V → List V → List V} (hb0 : StarB k.K fd ps pv m ks g)
    (hrel : ∀ {vs : List V} {us : List Value} {zs : List V} {ws : List Value}, Vals vs us → Vals zs ws → Vals (gV vs zs) (g us ws)) (hlen : ∀ us ws : List Value, us.length = m → ws.length = ks.length → (g us ws).length = ps.length)
    (hb : ∀ (cdv : Value) (A : Around) (outer : List PySem.Env) (sh : Shared) (H H0 G0 : Hp) (E : XK), Room lv (A.deeper (PyProof.Rows.envOfC qual scope sh.heap.objs.size f cdv)) → L2N.Takes (cxOf (L2N.CX P w) P w k.K mg base N qual scope f cdv A outer sh H E) (liftX E) →
      PB' (cxOf (L2N.CX P w) P w k.K mg base N qual scope f cdv A outer sh H E) ⟨k, H0, G0, liftX E⟩ false as body s) :
    FnStar P w k.K mg base (L2N.CX P w) (lv + 1) f m ks gV (SpN k ci (ps.length + 1) (runN N.length ci s)) := by
  refine fn_starX F S cxUpN hb0 hrel hlen fun cdv A outer sh H vs Q E hr q => ?_
  have q' : SpN k ci (ps ++ [pv]).length (runN N.length ci s) vs H Q E := by rw [List.length_append]; exact q
  exact body_init (X := cxOf (L2N.CX P w) P w k.K mg base N qual scope f cdv A outer sh H E) h0 (fun H0 G0 => hb cdv A outer sh H H0 G0 E hr (L2N.takes_of rfl rfl rfl rfl)) q
end
def mergeK {α : Type} : List Bool → List α → List α → List α
  | true :: bs, _ :: ds, g :: gs => g :: mergeK bs ds gs
  | false :: bs, d :: ds, gs => d :: mergeK bs ds gs
  | _, _, _ => []
theorem mergeK_rds {k : Kn} {G : Hp} : ∀ {bs : List Bool} {ds gs : List D} {vs us : List V}, RDs k G ds vs → RDs k G gs us → RDs k G (mergeK bs ds gs) (mergeK bs vs us)
  | [], _, _, _, _, _, _ => by simp only [mergeK]; exact .nil
  | true :: bs, _, _, _, _, .nil, _ => by simp only [mergeK]; exact .nil
  | false :: bs, _, _, _, _, .nil, _ => by simp only [mergeK]; exact .nil
  | true :: bs, _, _, _, _, .cons _ r, .nil => by simp only [mergeK]; exact .nil
  | true :: bs, _, _, _, _, .cons _ r, .cons a q => by simp only [mergeK]; exact .cons a (mergeK_rds r q)
  | false :: bs, _, _, _, _, .cons a r, q => by simp only [mergeK]; exact .cons a (mergeK_rds r q)
structure MakerXS (P : Program) (w : World) (K : PySem.W.Frag) (mg : Str → Option Value) (base : Heap) (k : Kn) (lv : Nat) (x : Str) (ci n : Nat) (mask : List Bool) (ks : List Str) (dd : List D) (den : List D → R D) : Prop where
  ex : ∃ (C f : Addr) (nm : List Str) (dvs : List V), k.cl ci = some (C, nm) ∧ Mk K C f ∧ mg x = some (.ref C) ∧ (∀ G, RDs k G dd dvs) ∧ dd.length = mask.length ∧ (mask.filter id).length = ks.length ∧
    FnStar P w K mg base (L2N.CX P w) lv f (n + 1) ks (fun vs zs => vs ++ mergeK mask dvs zs) (SpN k ci (n + 1 + mask.length + 1) den)
theorem mergeK_len {α : Type} : ∀ {bs : List Bool} {ds gs : List α}, ds.length = bs.length → (bs.filter id).length = gs.length → (mergeK bs ds gs).length = bs.length
  | [], _, _, _, _ => rfl
  | true :: bs, [], _, h, _ => by simp at h
  | false :: bs, [], _, h, _ => by simp at h
  | true :: bs, _ :: ds, [], _, h => by simp at h
  | true :: bs, _ :: ds, _ :: gs, h1, h2 => by
    simp only [mergeK, List.length_cons]
    rw [mergeK_len (by simpa using h1) (by simpa using h2)]
  | false :: bs, _ :: ds, gs, h1, h2 => by
    simp only [mergeK, List.length_cons]
    rw [mergeK_len (by simpa using h1) (by simpa using h2)]
section
variable {X : Cx} {c : Cf} {kd k1 k2 k3 : Kd} {a b e o : Expr} {f g h : FE} {pos apos : Pos} {fr : Bool} {x : Str} {den : List D → R D} {ci : Nat}
theorem run_makeSt {CX : CXT} {k m : Nat} {C f : Addr} {ks : List Str} {sp : Sp} {E : XK} {gV : List V → List V → List V} {pins : List (Addr × Obj)} {σ : L2.St} {H : Hp} {s : Shared} {Q : VK} {us rs ws : List Value} {vs xs zs : List V} (Mm : Mk X.K C f) (F : FnStar X.prog X.w X.K X.mg X.base CX k f (m + 1) ks gV sp) (hr : Room (k + 1) X.A)
    (hx : ∀ (H : Hp) (s : Shared) (e : Value) (s' : Shared), L2.Inv X pins σ H s → CX X.stack H s E e s' → X.xe e s') (I : L2.Inv X pins σ H s) (r : Vals vs us) (rx : Vals xs rs) (rz : Vals zs ws) (l1 : us.length = m) (l2 : ws.length = ks.length) (hz : xs.length ≤ sizeLine)
    (h : ∀ x dx p, H x = none → H dx = none → dx ≠ x → upd (upd H dx (.own x)) x (.ins C dx []) p = none → sp (gV (.ref x :: vs) zs ++ [.ref p]) (upd (upd (upd H dx (.own x)) x (.ins C dx [])) p (.tup xs)) (fun v H2 => v = .non ∧ Q (.ref x) H2) E) :
    wpAny (model X.prog X.w) X.A (call (.ref C) (us ++ rs) (ks.zip ws)) (EP X pins σ Q) X.xe s := by
  have hq := h (s.heap.objs.size + 1) s.heap.objs.size
  have I2 := L2.Inv.made (C := C) I
  have r1 : Vals (V.ref (s.heap.objs.size + 1) :: vs) (Value.ref (s.heap.objs.size + 1) :: us) := .cons rfl r
  refine wpAny_call (make_map (f := f) I.kIn Mm.makes Mm.init (beq_iff_eq.mp Mm.fn) (codeAny_mono (F _ X.stack _ _ (Value.ref (s.heap.objs.size + 1) :: us) rs ws _ _ _ _ E (hr.make C (us ++ rs) (ks.zip ws))
    (I2.env0.make C (us ++ rs) (ks.zip ws)) r1 rx rz (by rw [List.length_cons, l1]) l2 hz fun p hp => hq p (I.hok.fresh (Nat.le_succ _)) (I.hok.fresh (Nat.le_refl _)) (Nat.ne_of_lt (Nat.lt_succ_self _)) hp) fun r s' hq' => ?_))
  cases r with
  | error e => exact hx _ _ e s' I2 hq'
  | ok fl =>
    cases fl with
    | ret u =>
      obtain ⟨v, H', I3, rv, ev, q3⟩ := I2.after hq'
      subst ev
      exact ⟨rv, ⟨V.ref (s.heap.objs.size + 1), H', I3, rfl, q3⟩⟩
    | next => exact False.elim hq'
    | brk => exact False.elim hq'
    | cont => exact False.elim hq'
def tMakeSt (C : Addr) (m n : Nat) (gV : List V → List V → List V) (sp : Sp) (E : L2.St → XK) (t tk : TA) : TE := fun σ H Q => t σ H fun ys H1 => tk σ H1 fun zs H2 => m ≤ ys.length ∧ zs.length = n ∧ (ys.drop m).length ≤ sizeLine ∧ ∀ x dx p, H2 x = none → H2 dx = none → dx ≠ x → upd (upd H2 dx (.own x)) x (.ins C dx []) p = none →
  sp (gV (.ref x :: ys.take m) zs ++ [.ref p]) (upd (upd (upd H2 dx (.own x)) x (.ins C dx [])) p (.tup (ys.drop m))) (fun v H3 => v = .non ∧ Q (.ref x) H3) (E σ)
theorem vals_take {vs : List V} {us : List Value} (r : Vals vs us) (n : Nat) : Vals (vs.take n) (us.take n) ∧ Vals (vs.drop n) (us.drop n) := by
  induction r generalizing n with
  | nil => simp; exact .nil
  | cons a r ih =>
    cases n with
    | zero => simp; exact ⟨.nil, .cons a r⟩
    | succ n => simp; exact ⟨.cons a (ih n).1, (ih n).2⟩
theorem pe_makeSt {CX : CXT} {E : L2.St → XK} {k m : Nat} {C f : Addr} {ks : List Str} {sp : Sp} {p : Pos} {es : List Expr} {kws : List Keyword} {t tk : TA} {gV : List V → List V → List V} (Mm : Mk X.K C f) (F : FnStar X.prog X.w X.K X.mg X.base CX k f (m + 1) ks gV sp) (hr : Room (k + 1) X.A) (hg : Gl X x) (hm : X.mg x = some (.ref C)) (hx : ∀ σ, PassesAt CX X σ (E σ))
    (ha : PA X (e :: es) t) (hkw : PK X kws tk)
    (hall : (backToKw pos (keywordEach kws X.env)).all (·.1.isSome) = true := by rfl) (hks : (backToKw pos (keywordEach kws X.env)).filterMap (·.1) = ks := by rfl) (hdb : (x == ("__debug__" : Str)) = false := by decide)
    (he : starEach (e :: es) X.env = (false, eval e X.env) :: starEach es X.env := by rfl) (hpl : ((backTo pos (starEach (e :: es) X.env)).any (·.1) || (backToKw pos (keywordEach kws X.env)).any (·.1.isNone)) = false := by rfl) :
    PE X (.Call (.Name x p) (e :: es) kws pos) (tMakeSt C m ks.length gV sp E t tk) := by
  refine ⟨fun pins s σ H Q I h => ?_⟩
  refine wpAny_Call_Name_kw (ld_glob I hg hm ?_ hdb)
  refine PySem.W.callWith_KW (h₀ := X.base) I.ok.mod.kin Mm.kp hall (thn (ha.run pos pins s σ H _ I h) fun us s1 ⟨vs, H1, I1, r, q⟩ => ?_) hpl he
  refine thn (hkw.run pos pins s1 σ H1 _ I1 q) fun ws s2 ⟨zs, H2, I2, rz, l0, l2, hz, q2⟩ => ⟨I2.kIn, ?_⟩
  rw [hks]
  have rt := vals_take r m
  have := run_makeSt Mm F hr (fun H s e s' => hx σ pins H s e s') I2 rt.1 rt.2 rz (by rw [List.length_take, ← r.length]; omega) (rz.length.symm.trans l2) hz q2
  rwa [List.take_append_drop] at this
def eCXS (n : Nat) (mask : List Bool) (dd : List D) (o : List D → R D) (fa fk : FA) : FE := fun S => fa S >>= fun as => fk S >>= fun bs => if n ≤ as.length ∧ as.length ≤ sizeLine then o (as.take n ++ mergeK mask dd bs ++ [.tup (as.drop n)]) else .fail
theorem d_makerXS {lv m' : Nat} {n : Nat} {mask : List Bool} {ks : List Str} {dd : List D} {p : Pos} {es : List Expr} {kws : List Keyword} {fa fk : FA} (F : MakerXS X.prog X.w X.K X.mg X.base c.k lv x ci n mask ks dd den) (hr : Room m' X.A) (hle : lv + 1 ≤ m') (tk : L2N.Takes X c.W) (ha : PA' X c false (e :: es) fa) (hk : PK' X c kws fk) (hkl : Len ks.length fk) (hg : Gl X x := by rfl)
    (hall : (backToKw pos (keywordEach kws X.env)).all (·.1.isSome) = true := by rfl) (hks : (backToKw pos (keywordEach kws X.env)).filterMap (·.1) = ks := by rfl) (hdb : (x == ("__debug__" : Str)) = false := by decide)
    (he : starEach (e :: es) X.env = (false, eval e X.env) :: starEach es X.env := by rfl) (hpl : ((backTo pos (starEach (e :: es) X.env)).any (·.1) || (backToKw pos (keywordEach kws X.env)).any (·.1.isNone)) = false := by rfl) :
    PE' X c .fr (.Call (.Name x p) (e :: es) kws pos) (eCXS n mask dd den fa fk) := by
  obtain ⟨C, f, nm, dvs, hcl, mk, hm, hdd, hdl, hml, ok⟩ := F.ex
  refine peI (pe_makeSt mk ok (hr.mono hle) hg hm (fun σ => L2N.passAt tk σ) ha hk hall hks hdb he hpl) fun σ H Q ⟨G, S, rel, p⟩ => ?_
  have p : PostE c .fr G S σ H Q (fa S >>= fun as => fk S >>= fun bs => if n ≤ as.length ∧ as.length ≤ sizeLine then den (as.take n ++ mergeK mask dd bs ++ [.tup (as.drop n)]) else .fail) := p
  refine ⟨G, S, rel, ?_⟩
  cases e1 : fa S with
  | exc x => rw [e1] at p; exact p
  | fail => rw [e1] at p; exact p
  | ok as =>
    rw [e1] at p
    intro vs G1 H1 s1 q1
    refine ⟨G1, S, rel.grow s1, ?_⟩
    have p : PostE c .fr G S σ H Q (fk S >>= fun bs => if n ≤ as.length ∧ as.length ≤ sizeLine then den (as.take n ++ mergeK mask dd bs ++ [.tup (as.drop n)]) else .fail) := p
    cases e2 : fk S with
    | exc x => rw [e2] at p; exact p
    | fail => rw [e2] at p; exact p
    | ok bs =>
      rw [e2] at p
      have p : PostE c .fr G S σ H Q (if n ≤ as.length ∧ as.length ≤ sizeLine then den (as.take n ++ mergeK mask dd bs ++ [.tup (as.drop n)]) else .fail) := p
      by_cases hc : n ≤ as.length ∧ as.length ≤ sizeLine
      · rw [if_pos hc] at p
        intro zs G2 H2 s2 q2
        have q1 : RDs c.k G1 as vs := q1
        have q2 : RDs c.k G2 bs zs := q2
        have l1 := q1.length
        have l2 := hkl S bs e2
        refine ⟨by rw [← l1]; exact hc.1, by rw [← q2.length]; exact l2, by rw [List.length_drop, ← l1]; omega, fun x dx t hx hdx hne ht => ?_⟩
        have sp := s1.trans s2
        have q1' := q1.mono s2.g
        have hgx : G2 x = none := s2.gh.free hx
        have ex0 : Ex H2 (upd (upd H2 dx (.own x)) x (.ins C dx [])) := (Ex.new hdx).upd hx
        have ht2 : H2 t = none := ex0.free ht
        have hgt : G2 t = none := s2.gh.free ht2
        have htx : x ≠ t := fun z => by rw [z, upd_same] at ht; cases ht
        have hG3 : Ex G2 (upd G2 t (.tup (vs.drop n))) := Ex.new hgt
        have ex1 : Ex H2 (upd (upd (upd H2 dx (.own x)) x (.ins C dx [])) t (.tup (vs.drop n))) := ex0.upd ht2
        have exG : Ex (upd G2 t (.tup (vs.drop n))) (upd (upd (upd H2 dx (.own x)) x (.ins C dx [])) t (.tup (vs.drop n))) := fun b o q => by
          by_cases hb : b = t
          · subst hb; rw [upd_same] at q ⊢; exact q
          · rw [upd_ne hb] at q ⊢; exact ex0 _ _ (s2.gh _ _ q)
        have q3 : RDs c.k (upd G2 t (.tup (vs.drop n))) (as.take n ++ mergeK mask dd bs ++ [.tup (as.drop n)]) (vs.take n ++ mergeK mask dvs zs ++ [.ref t]) :=
          (((q1'.take n).mono hG3).append ((mergeK_rds (hdd _) (q2.mono hG3)))).append (.cons (.tup (SqU.of upd_same) ((q1'.drop n).mono hG3)) .nil)
        have ll : (V.ref x :: (vs.take n ++ mergeK mask dvs zs ++ [V.ref t])).length = n + 1 + mask.length + 1 := by
          rw [List.length_cons, ← q3.length, List.length_append, List.length_append, List.length_take, mergeK_len hdl (hml.trans l2.symm)]
          simp only [List.length_cons, List.length_nil]; omega
        refine ⟨ll, x, vs.take n ++ mergeK mask dvs zs ++ [.ref t], upd G2 t (.tup (vs.drop n)), _, C, dx, nm, rfl, hcl, by rw [upd_ne htx]; exact upd_same, by rw [upd_ne htx]; exact hgx, exG, q3, ?_⟩
        have back : ∀ {b : Addr} {u : HO}, upd G2 t (.tup (vs.drop n)) b = some u → G2 b = some u ∨ H2 b = none := fun {b u} q => by
          by_cases hb : b = t
          · subst hb; exact .inr ht2
          · rw [upd_ne hb] at q; exact .inl q
        cases e3 : den (as.take n ++ mergeK mask dd bs ++ [.tup (as.drop n)]) with
        | ok d =>
          rw [e3] at p
          intro G' H' o ex hk gh hgx' gr ho ct
          refine ⟨rfl, p _ G' H' (sp.trans ⟨hG3.trans ex, fun b u q => hk b u (ne_of_none q hx) (ex1 b u q), gh, fun b u q => ?_⟩) ⟨x, o, rfl, hgx', sp.h.free hx, ho, ct⟩⟩
          rcases gr b u q with z | z
          · exact back z
          · exact .inr (ex1.free z)
        | exc y =>
          rw [e3] at p
          have p : PX c σ y := p
          intro _ cls da G' H' s3 xr
          have exl : Ex H2 (less (upd (upd (upd H2 dx (.own x)) x (.ins C dx [])) t (.tup (vs.drop n))) x) := fun b u q => by
            rw [less_ne (ne_of_none q hx)]; exact ex1 b u q
          refine p cls da G' H' ((rel.grow sp).st.trans ⟨hG3.trans s3.g, fun b u q => s3.h b u (exl b u q), s3.gh, fun b u q => ?_⟩) xr
          rcases s3.gr b u q with z | z
          · exact back z
          · exact .inr (exl.free z)
        | fail => rw [e3] at p; exact p.elim
      · rw [if_neg hc] at p; exact fun zs G2 H2 s2 q2 => p.elim
end
end M
namespace M
open PySem L2
def mixK {α : Type} : List Bool → List α → List α → List α
  | true :: bs, ms, g :: gs => g :: mixK bs ms gs
  | false :: bs, m :: ms, gs => m :: mixK bs ms gs
  | _, _, _ => []
def selF {α : Type} : List Bool → List α → List α
  | true :: bs, _ :: ds => selF bs ds
  | false :: bs, d :: ds => d :: selF bs ds
  | _, _ => []
theorem mergeK_mix {α : Type} : ∀ (bs : List Bool) (ds gs : List α), ds.length = bs.length → mergeK bs ds gs = mixK bs (selF bs ds) gs
  | [], _, _, _ => rfl
  | true :: bs, [], _, h => by simp at h
  | false :: bs, [], _, h => by simp at h
  | true :: bs, _ :: ds, [], _ => rfl
  | true :: bs, _ :: ds, g :: gs, h => by simp only [mergeK, selF, mixK]; rw [mergeK_mix bs ds gs (by simpa using h)]
  | false :: bs, d :: ds, gs, h => by simp only [mergeK, selF, mixK]; rw [mergeK_mix bs ds gs (by simpa using h)]
theorem Vals.mixK : ∀ {bs : List Bool} {a c : List V} {b d : List Value}, Vals a b → Vals c d → Vals (M.mixK bs a c) (M.mixK bs b d)
  | [], _, _, _, _, _, _ => by simp only [M.mixK]; exact .nil
  | true :: bs, _, _, _, _, _, .nil => by simp only [M.mixK]; exact .nil
  | true :: bs, _, _, _, _, r, .cons a q => by simp only [M.mixK]; exact .cons a (Vals.mixK r q)
  | false :: bs, _, _, _, _, .nil, _ => by simp only [M.mixK]; exact .nil
  | false :: bs, _, _, _, _, .cons a r, q => by simp only [M.mixK]; exact .cons a (Vals.mixK r q)
end M
set_option Elab.async false
set_option linter.all false
set_option maxRecDepth 100000
set_option maxHeartbeats 4000000
namespace M
open PySem L2
inductive NK where
  | dic (ks : List Key) | lst
structure Nd where
  k : NK
  es : List (Bool × D)
def Nd.d (n : Nd) : D := match n.k with
  | .dic ks => .dic ks (n.es.map (·.2))
  | .lst => .lst (n.es.map (·.2))
def NK.ho (k : NK) (vs : List V) : HO := match k with
  | .dic ks => .dK (ks.zip vs)
  | .lst => .lst vs
def NK.wf (k : NK) (n : Nat) : Prop := match k with
  | .dic ks => ks.length = n
  | .lst => True
inductive EnR (k : Kn) (G H : Hp) : List (Bool × D) → List V → List Addr → Prop
  | nil : EnR k G H [] [] []
  | st {d : D} {v : V} {es : List (Bool × D)} {vs : List V} {bs : List Addr} : RD k G d v → EnR k G H es vs bs → EnR k G H ((false, d) :: es) (v :: vs) bs
  | ow {d : D} {b : Addr} {o : HO} {es : List (Bool × D)} {vs : List V} {bs : List Addr} : H b = some o → Cont k G d o → EnR k G H es vs bs → EnR k G H ((true, d) :: es) (.ref b :: vs) (b :: bs)
section
variable {k : Kn} {G G' H H' : Hp}
theorem EnR.keep (e : Ex G G') : ∀ {es : List (Bool × D)} {vs : List V} {bs : List Addr}, (∀ b, b ∈ bs → H' b = H b) → EnR k G H es vs bs → EnR k G' H' es vs bs
  | _, _, _, _, .nil => .nil
  | _, _, _, h, .st r t => .st (r.mono e) (EnR.keep e h t)
  | _, _, _, h, .ow q r t => .ow (by rw [h _ (List.mem_cons_self ..)]; exact q) (r.mono e) (EnR.keep e (fun b hb => h b (List.mem_cons_of_mem _ hb)) t)
theorem EnR.len : ∀ {es : List (Bool × D)} {vs : List V} {bs : List Addr}, EnR k G H es vs bs → es.length = vs.length
  | _, _, _, .nil => rfl
  | _, _, _, .st r t => by rw [List.length_cons, List.length_cons, EnR.len t]
  | _, _, _, .ow _ r t => by rw [List.length_cons, List.length_cons, EnR.len t]
theorem EnR.live : ∀ {es : List (Bool × D)} {vs : List V} {bs : List Addr}, EnR k G H es vs bs → ∀ b, b ∈ bs → ∃ o, H b = some o
  | _, _, _, .nil, b, h => by cases h
  | _, _, _, .st r t, b, h => EnR.live t b h
  | _, _, _, .ow q r t, b, h => by
    rcases List.mem_cons.mp h with rfl | h
    · exact ⟨_, q⟩
    · exact EnR.live t b h
theorem EnR.get : ∀ {es : List (Bool × D)} {vs : List V} {bs : List Addr} {m : Nat} {d : D}, EnR k G H es vs bs → es[m]? = some (true, d) → ∃ b o, vs[m]? = some (.ref b) ∧ b ∈ bs ∧ H b = some o ∧ Cont k G d o
  | _, _, _, m, d, .nil, h => by simp at h
  | _, _, _, 0, d, .st r t, h => by simp at h
  | _, _, _, 0, d, .ow q r t, h => by
    simp at h; subst h
    exact ⟨_, _, rfl, by simp, q, r⟩
  | _, _, _, m + 1, d, .st r t, h => by
    obtain ⟨b, o, h1, h2, h3, h4⟩ := EnR.get (m := m) t (by simpa using h)
    exact ⟨b, o, by simpa using h1, h2, h3, h4⟩
  | _, _, _, m + 1, d, .ow q r t, h => by
    obtain ⟨b, o, h1, h2, h3, h4⟩ := EnR.get (m := m) t (by simpa using h)
    exact ⟨b, o, by simpa using h1, List.mem_cons_of_mem _ h2, h3, h4⟩
end
structure NAt (c : Cf) (G : Hp) (S : Env) (σ : St) (H : Hp) (i : Nat) (n : Nd) : Prop where
  ex : ∃ a vs bs, σ[i]? = some (some (.ref a)) ∧ H a = some (n.k.ho vs) ∧ n.k.wf n.es.length ∧ EnR c.k G H n.es vs bs ∧ (a :: bs).Nodup ∧ ∀ x, x ∈ a :: bs → G x = none ∧ c.H0 x = none ∧ ∀ j, ¬ OwnAt S σ j x
section
variable {c : Cf} {G G' H H' : Hp} {S S' : Env} {σ σ' : St} {i : Nat} {n : Nd}
theorem NAt.all (a : NAt c G S σ H i n) : ∃ t vs bs, σ[i]? = some (some (.ref t)) ∧ H t = some (n.k.ho vs) ∧ n.k.wf n.es.length ∧ EnR c.k G H n.es vs bs ∧ (t :: bs).Nodup ∧ (∀ x, x ∈ t :: bs → G x = none ∧ c.H0 x = none ∧ ∀ j, ¬ OwnAt S σ j x) ∧ ∀ x, x ∈ t :: bs → ∃ o, H x = some o := by
  obtain ⟨t, vs, bs, h1, h2, h3, h4, h5, h6⟩ := a.ex
  refine ⟨t, vs, bs, h1, h2, h3, h4, h5, h6, fun x hx => ?_⟩
  rcases List.mem_cons.mp hx with rfl | hx
  · exact ⟨_, h2⟩
  · exact h4.live x hx
theorem NAt.grow (a : NAt c G S σ H i n) (s : Step G H G' H') : NAt c G' S σ H' i n := by
  obtain ⟨t, vs, bs, h1, h2, h3, h4, h5, h6, h7⟩ := a.all
  refine ⟨t, vs, bs, h1, s.h _ _ h2, h3, h4.keep s.g fun b hb => ?_, h5, fun x hx => ⟨?_, (h6 x hx).2⟩⟩
  · obtain ⟨o, e⟩ := h7 b (List.mem_cons_of_mem _ hb)
    rw [e, s.h _ _ e]
  · obtain ⟨o, e⟩ := h7 x hx
    cases q : G' x with
    | none => rfl
    | some u =>
      rcases s.gr x u q with z | z
      · rw [(h6 x hx).1] at z; cases z
      · rw [e] at z; cases z
noncomputable def Cf.at (c : Cf) (S : Env) (σ : St) (G H : Hp) : Cf := ⟨c.k, cut S σ H, G, c.W⟩
end
abbrev FN := Env → Nd → R (Env × Nd)
def PostNs (c : Cf) (as : List Nat) (i : Nat) (G : Hp) (S : Env) (σ : St) (H : Hp) (Dn : Ends) : R (Env × Nd) → Prop
  | .ok z => ∀ G' σ' H', Ex G G' → Rel c G' z.1 σ' H' → z.1[i]? = some none → NAt c G' z.1 σ' H' i z.2 → Frm as S σ H z.1 σ' H' → Dn.nx σ' H'
  | _ => False
abbrev FNR := Env → Nd → R (Fl × Env)
section
variable {X : Cx} {c : Cf} {kd k1 k2 k3 : Kd} {a b e kx : Expr} {f g h : FE} {t u : FT} {pos apos cpos spos p' : Pos} {fr : Bool} {as bs : List Nat} {s r : FS} {F F1 F2 : FN} {Z : FNR} {st : Stmt} {sts : List Stmt} {x : Str} {i : Nat}
theorem PostNs.mv {G G' H H' : Hp} {S S' : Env} {σ σ' : St} {Dn : Ends} {q : R (Env × Nd)} (hg : Ex G G') (fm : Frm as S σ H S' σ' H') (p : PostNs c (as ++ bs) i G S σ H Dn q) : PostNs c bs i G' S' σ' H' Dn q := by
  cases q with
  | ok z => exact fun G2 σ2 H2 e r2 h2 n2 f2 => p G2 σ2 H2 (hg.trans e) r2 h2 n2 (fm.trans f2)
  | exc x => exact p
  | fail => exact p
theorem PostNs.sub {as' : List Nat} {G H : Hp} {S : Env} {σ : St} {Dn : Ends} {q : R (Env × Nd)} (hs : ∀ i, i ∈ as' → i ∈ as) (p : PostNs c as i G S σ H Dn q) : PostNs c as' i G S σ H Dn q := by
  cases q with
  | ok z => exact fun G2 σ2 H2 e r2 h2 n2 f2 => p G2 σ2 H2 e r2 h2 n2 (f2.mono hs)
  | exc x => exact p
  | fail => exact p
end
end M
set_option Elab.async false
set_option linter.all false
set_option maxRecDepth 100000
set_option maxHeartbeats 4000000
namespace M
open PySem L2
section
variable {X : Cx} {c : Cf} {kd k1 k2 k3 : Kd} {a b e kx : Expr} {f g h : FE} {t u : FT} {pos apos cpos spos p' : Pos} {fr : Bool} {as bs : List Nat} {s r : FS} {F F1 F2 : FN} {Z : FNR} {st : Stmt} {sts : List Stmt} {x : Str} {i : Nat}
def posK {κ : Type} [DecidableEq κ] : List κ → κ → Option Nat
  | [], _ => none
  | k :: ks, q => if k = q then some 0 else (posK ks q).map (· + 1)
def NK.at (k : NK) (y : D) : Option Nat := match k with
  | .dic ks => (keyD y).bind fun q => posK ks q
  | .lst => none
end
end M
set_option Elab.async false
set_option linter.all false
set_option maxRecDepth 100000
set_option maxHeartbeats 4000000
namespace M
open PySem L2 PySem.Spec PyProof.Rows
section
variable {k : Kn} {G H : Hp}
theorem EnR.snoc {d : D} {b : Addr} {o : HO} (q : H b = some o) (r : Cont k G d o) : ∀ {es : List (Bool × D)} {vs : List V} {bs : List Addr}, EnR k G H es vs bs → EnR k G H (es ++ [(true, d)]) (vs ++ [.ref b]) (bs ++ [b])
  | _, _, _, .nil => .ow q r .nil
  | _, _, _, .st a t => .st a (EnR.snoc q r t)
  | _, _, _, .ow a b t => .ow a b (EnR.snoc q r t)
end
section
variable {X : Cx} {c : Cf} {kd k1 k2 k3 : Kd} {a b e kx : Expr} {f g h : FE} {t u : FT} {pos apos cpos spos p' : Pos} {fr : Bool} {as bs : List Nat} {s r : FS} {F F1 F2 : FN} {Z : FNR} {st : Stmt} {sts : List Stmt} {x : Str} {i : Nat}
abbrev FAN := Env → R (List (Bool × D))
variable {keys : List (Option Expr)} {values : List Expr} {ks : List Str} {fa : FAN}
end
end M
set_option Elab.async false
set_option linter.all false
set_option maxRecDepth 100000
set_option maxHeartbeats 4000000
namespace MnD
open PySem
open Sem (wp)
theorem nm : (toString "min" ++ toString ".loop" : String) = "min.loop" := by decide
theorem argsD (a d : Value) : argsOk "min" ⟨[a], [(Str.ofString "default", d)]⟩ := by unfold argsOk; kernel_rfl
abbrev kwD (d : Value) : List (Str × Value) := [(Str.ofString "default", d)]
section
variable {p : Program} {w : World} {A : Around} {R : Result → Shared → Prop} {I B : Addr} {fp wr : List Addr} {n : Nat} {P : Nat → Value → Prop} {St : Nat → Heap → Prop} {bt : Nat → Nat → Bool} {dv : Value}
theorem lp (W : Walks p w A.in1 I fp wr n P St) (cm : CmpOf p w A.in1 .Lt P bt) (out : B ∉ fp) : ∀ (m i : Nat) (s : Shared) (v : Value) (c : Nat), n - (i + 1) = m → i + 1 ≤ n → St (i + 1) s.heap → P (argBest bt i) v →
    s.heap.get? B = some { cls := .type "list", dict := none, data := .seq #[v, v] c, slots := #[] } →
    (∀ u h tk, P (argBest bt (n - 1)) u → (∀ b o, b ∉ wr → b ≠ B → s.heap.get? b = some o → h.get? b = some o) → R (.ok (.ret u)) { s with heap := h, toks := tk }) →
    codeAny (model p w) A (.builtin "min.loop" ⟨[.ref I, .none, .ref B], kwD dv⟩) R s := by
  have ow : B ∉ wr := fun z => out (W.sub _ z)
  intro m
  induction m with
  | zero =>
    intro i s v c em le st pb hb q
    have en : i + 1 = n := by omega
    refine codeAny_builtin F.entry_min_loop ?_
    rw [Around.under_plainId F.plain_min_loop _]
    show wpAny _ A.in1 (seqItems? (.ref B) >>= _) _ _ s
    refine wpAny_bind (wpAny_seqItems hb rfl ?_)
    show wpAny _ A.in1 (tryCatch (pyNext (.ref I)) _ >>= _) _ _ s
    refine wpAny_bind (wpAny_tryCatch (W.done s _ _ (en ▸ st) fun h1 tk k1 => ?_))
    have hb1 := k1 B _ ow hb
    show wpAny _ A.in1 (updateSeq B (fun _ => #[]) >>= _) _ _ _
    refine wpAny_bind (wpAny_updateSeq hb1 rfl (wpAny_bind (wpAny_letGo (wpAny_pure ?_))))
    exact q v _ tk (by rw [← en]; exact pb) fun b o nw nb e => (Heap.get?_update_other _ _ (Ne.symm nb)).trans (k1 b o nw e)
  | succ m ih =>
    intro i s v c em le st pb hb q
    have lt : i + 1 < n := by omega
    refine codeAny_builtin F.entry_min_loop ?_
    rw [Around.under_plainId F.plain_min_loop _]
    show wpAny _ A.in1 (seqItems? (.ref B) >>= _) _ _ s
    refine wpAny_bind (wpAny_seqItems hb rfl ?_)
    show wpAny _ A.in1 (tryCatch (pyNext (.ref I)) _ >>= _) _ _ s
    refine wpAny_bind (wpAny_tryCatch (W.item (i + 1) s _ _ lt st fun u h1 tk pu st1 k1 => ?_))
    have hb1 := k1 B _ ow hb
    show wpAny _ A.in1 (tryCatch (holding [u, u] (richCompare .Lt u v >>= _)) _ >>= _) _ _ _
    refine wpAny_bind (wpAny_tryCatch (wpAny_holding (wpAny_bind (cm (i + 1) (argBest bt i) u v _ _ _ pu pb (wpAny_bind (wpAny_holding (wpAny_truthy_bool (wpAny_bind (wpAny_letGo (wpAny_pure ?_)))))))))) 
    cases hc : bt (i + 1) (argBest bt i) with
    | true =>
      simp only [if_true]
      refine wpAny_bind (wpAny_updateSeq hb1 rfl (wpAny_bind (wpAny_letGo ?_)))
      rw [nm]
      refine wpAny_pure ⟨plainId_quiet F.plain_min_loop _, ih (i + 1) _ u _ (by omega) lt (W.frame _ _ _ st1 fun b bf o e => ?_) (by simp only [argBest, hc, if_true]; exact pu) (Heap.get?_update_self _ hb1 rfl) fun u' h2 tk2 p2 k2 => ?_⟩
      · exact (Heap.get?_update_other _ _ (fun z : B = b => out (by rw [z]; exact bf))).trans e
      · exact q u' h2 tk2 p2 fun b o nw nb e => k2 b o nw nb ((Heap.get?_update_other _ _ (Ne.symm nb)).trans (k1 b o nw e))
    | false =>
      simp only [Bool.false_eq_true, if_false]
      refine wpAny_bind (wpAny_letGo ?_)
      rw [nm]
      exact wpAny_pure ⟨plainId_quiet F.plain_min_loop _, ih (i + 1) _ v c (by omega) lt st1 (by simp only [argBest, hc, Bool.false_eq_true, if_false]; exact pb) hb1 fun u' h2 tk2 p2 k2 => q u' h2 tk2 p2 fun b o nw nb e => k2 b o nw nb (k1 b o nw e)⟩
theorem lp0 (W : Walks p w A.in1 I fp wr n P St) (cm : CmpOf p w A.in1 .Lt P bt) (out : B ∉ fp) {s : Shared} {c : Nat} (st : St 0 s.heap)
    (hb : s.heap.get? B = some { cls := .type "list", dict := none, data := .seq #[] c, slots := #[] })
    (q0 : n = 0 → ∀ h tk, (∀ b o, b ∉ wr → b ≠ B → s.heap.get? b = some o → h.get? b = some o) → R (.ok (.ret dv)) { s with heap := h, toks := tk })
    (q : 0 < n → ∀ u h tk, P (argBest bt (n - 1)) u → (∀ b o, b ∉ wr → b ≠ B → s.heap.get? b = some o → h.get? b = some o) → R (.ok (.ret u)) { s with heap := h, toks := tk }) :
    codeAny (model p w) A (.builtin "min.loop" ⟨[.ref I, .none, .ref B], kwD dv⟩) R s := by
  have ow : B ∉ wr := fun z => out (W.sub _ z)
  refine codeAny_builtin F.entry_min_loop ?_
  rw [Around.under_plainId F.plain_min_loop _]
  show wpAny _ A.in1 (seqItems? (.ref B) >>= _) _ _ s
  refine wpAny_bind (wpAny_seqItems hb rfl ?_)
  show wpAny _ A.in1 (tryCatch (pyNext (.ref I)) _ >>= _) _ _ s
  rcases Nat.eq_zero_or_pos n with hn | hn
  · refine wpAny_bind (wpAny_tryCatch (W.done s _ _ (hn ▸ st) fun h1 tk k1 => ?_))
    show wpAny _ A.in1 (rule _ >>= _) _ _ _
    refine wpAny_bind (wpAny_rule ?_)
    exact wpAny_pure (q0 hn _ tk fun b o nw nb e => k1 b o nw e)
  · refine wpAny_bind (wpAny_tryCatch (W.item 0 s _ _ hn st fun u h1 tk pu st1 k1 => ?_))
    have hb1 := k1 B _ ow hb
    show wpAny _ A.in1 (updateSeq B (fun _ => #[u, u]) >>= _) _ _ _
    refine wpAny_bind (wpAny_updateSeq hb1 rfl ?_)
    rw [nm]
    refine wpAny_pure ⟨plainId_quiet F.plain_min_loop _, lp W cm out _ 0 _ u _ rfl hn (W.frame _ _ _ st1 fun b bf o e => ?_) pu (Heap.get?_update_self _ hb1 rfl) fun u' h2 tk2 p2 k2 => ?_⟩
    · exact (Heap.get?_update_other _ _ (fun z : B = b => out (by rw [z]; exact bf))).trans e
    · exact q hn u' h2 tk2 p2 fun b o nw nb e => k2 b o nw nb ((Heap.get?_update_other _ _ (Ne.symm nb)).trans (k1 b o nw e))
end
section
variable {p : Program} {w : World} {A : Around} {E : Value → Shared → Prop} {s : Shared} {l : Addr} {xs : Array (Int × Tok)} {dv : Value}
theorem mx {Q : Value → Shared → Prop} (hh : A.handled = none) (hl : s.heap.IsList l (intItems xs))
    (q0 : xs.size = 0 → ∀ h tk, (∀ b o, s.heap.get? b = some o → h.get? b = some o) → Q dv { s with heap := h, toks := tk })
    (q : 0 < xs.size → ∀ v h tk, (intItems xs)[argBest (fun i j => decide (numAt xs i < numAt xs j)) (xs.size - 1)]? = some v → (∀ b o, s.heap.get? b = some o → h.get? b = some o) → Q v { s with heap := h, toks := tk }) :
    wpAny (model p w) A (call (.builtin "min") [.ref l] (kwD dv)) Q E s := by
  refine PyProof.Rows.kmk_tree F.kind_min F.plain_min F.entry_min (argsD _ _) ?_
  show wpAny _ A.in1 (Builtin.Builtins.bindParams "min" ["key", "default"] 0 ⟨[], kwD dv⟩ >>= _) _ _ s
  refine wpAny_bind (wpAny_of_eq (show Builtin.Builtins.bindParams "min" ["key", "default"] 0 ⟨[], kwD dv⟩ = pure [none, some dv] from rfl) ?_)
  refine wpAny_bind (wpAny_pure ?_)
  refine wpAny_bind (iter_intList hl fun s2 e st hfp ne => ?_)
  subst e
  refine wpAny_bind (wpAny_newObj_type ?_)
  have W := Walks.list (prog := p) (w := w) (A := A.in1) hh s.heap.objs.size l ne (intItems xs)
  have sz : (intItems xs).size = xs.size := by simp [intItems]
  have old : ∀ {h2 : Heap} (hk : ∀ b o, b ∉ [s.heap.objs.size] → (s.heap.push { cls := .type "list_iterator", data := .fields #[.ref l, .int 0 0] }).get? b = some o → h2.get? b = some o), ∀ b o, s.heap.get? b = some o → h2.get? b = some o := fun hk => old_kept hk
  rw [nm]
  refine wpAny_pure ⟨plainId_quiet F.plain_min_loop _, lp0 W (CmpOf.ints_lt (numAt xs) (fun _ _ => intItems_at)) (fun z => Nat.lt_irrefl _ (hfp _ z)) (W.frame _ _ _ st fun b _ o e => Heap.get?_push_of_some _ e) (Heap.get?_push_size _ rfl) (fun hn h tk hk => ?_) (fun hn v h tk hP hk => ?_)⟩
  · exact q0 (by omega) h tk (old fun b o nw e => hk b o nw (Nat.ne_of_lt (Heap.lt_size e)) (Heap.get?_push_of_some _ e))
  · exact q (by omega) v h tk (by rw [← sz]; exact hP) (old fun b o nw e => hk b o nw (Nat.ne_of_lt (Heap.lt_size e)) (Heap.get?_push_of_some _ e))
end
end MnD
namespace M
open PySem L2
section
variable {X : Cx} {c : Cf} {k : Kn} {e : Expr} {pos : Pos}
def rMinD (K : PySem.W.Frag) : List V → List V → Hp → VK → Prop := fun vs zs H Q => ∃ (a : Addr) (ns : List Int) (d : Int), vs = [V.ref a] ∧ zs = [V.int d] ∧ SqL K H a (ns.map V.int) ∧ (ns = [] → Q (.int d) H) ∧ (ns ≠ [] → ∀ m, m ∈ ns → (∀ y, y ∈ ns → m ≤ y) → Q (.int m) H)
theorem cr_minD (hc : X.calm = true) : CallRK X (.builtin "min") [Str.ofString "default"] (rMinD X.K) := by
  intro pins s σ H vs zs us ws Q I r r2 h
  obtain ⟨a, ns, d, rfl, rfl, hs, q0, q⟩ := h
  obtain ⟨its, rv, hl, _⟩ := I.list hs
  rw [Vals.ref1 r]
  obtain ⟨td, rfl⟩ : ∃ t, ws = [.int d t] := by
    cases r2 with
    | cons x y => cases y; obtain ⟨t, rfl⟩ := x; exact ⟨t, rfl⟩
  have hi := rv.ints
  obtain ⟨xs, e⟩ := hi.allInts.items
  have hn : numsOf (intItems xs).toList = ns := by rw [← e]; exact hi.numsOf
  rw [nums_intItems] at hn
  subst hn
  have hl' := hl.isList
  rw [e] at hl'
  refine MnD.mx (I.ok.hd hc) hl' (fun hz h' tk hk => ?_) (fun hz v h' tk hv hk => ?_)
  · exact ⟨.int _, H, I.kept hk, ⟨_, rfl⟩, q0 (by
      have : xs.toList.length = 0 := by simpa using hz
      rw [List.length_eq_zero_iff] at this; rw [this]; rfl)⟩
  · obtain ⟨t, rfl⟩ := intItems_at hv
    obtain ⟨h1, h2⟩ := argBest_lt (numAt xs) (xs.size - 1)
    have hlen : (xs.toList.map (·.1)).length = xs.size := by simp
    refine ⟨.int _, H, I.kept hk, ⟨_, rfl⟩, q (fun hn => ?_) _ ?_ fun y hy => ?_⟩
    · rw [hn] at hlen; simp at hlen; omega
    · rw [numAt_eq]; exact PySem.getD_mem (by rw [hlen]; omega)
    · obtain ⟨j, hj, rfl⟩ := mem_getD hy
      rw [hlen] at hj
      rw [← numAt_eq]; exact h2 j (by omega)
def mindD : D → D → R D
  | .lst ds, .int d => match asI ds with | some [] => .ok (.int d) | some (n :: ns) => .ok (.int (minL (n :: ns))) | none => .fail
  | _, _ => .fail
theorem d_mind {x : Str} {p : Pos} {kws : List Keyword} {fa fk : FA} (hc : X.calm = true) (hm : X.mg x = none) (ha : PA' X c false [e] fa) (hl : Len 1 fa) (hk : PK' X c kws fk) (hkl : Len 1 fk) (hv : bootBuiltins x = some (.builtin "min") := by decide +kernel) (hg : Gl X x := by rfl) (hn : x ≠ "__name__" := by decide) (hdb : (x == ("__debug__" : Str)) = false := by decide)
    (he : backTo pos (starEach [e] X.env) = (false, eval e X.env) :: backTo pos (starEach [] X.env) := by rfl) (hpl : (backTo pos (starEach [e] X.env)).any (·.1) = false := by rfl)
    (hall : (backToKw pos (keywordEach kws X.env)).all (·.1.isSome) = true := by rfl) (hnone : (backToKw pos (keywordEach kws X.env)).any (·.1.isNone) = false := by rfl) (hks : (backToKw pos (keywordEach kws X.env)).filterMap (·.1) = [Str.ofString "default"] := by rfl) :
    PE' X c .st (.Call (.Name x p) [e] kws pos) (eC (f2 mindD) (fApp fa fk)) := by
  refine peI (pe_callBK (cr_minD hc) hg hm hv ha hk hn hdb he hpl hall hnone hks) fun σ H Q ⟨G, S, rel, p⟩ => ?_
  have p : PostE c .st G S σ H Q ((fa S >>= fun as => fk S >>= fun bs => R.ok (as ++ bs)) >>= fun ds => (f2 mindD ds).nox) := p
  refine ⟨G, S, rel, ?_⟩
  cases e1 : fa S with
  | exc x => rw [e1] at p; exact p
  | fail => rw [e1] at p; exact p
  | ok as =>
    rw [e1] at p
    intro vs G1 H1 s1 q1
    refine ⟨G1, S, rel.grow s1, ?_⟩
    cases e2 : fk S with
    | exc x => simp only [R.ok_bind] at p; rw [e2] at p; exact p
    | fail => simp only [R.ok_bind] at p; rw [e2] at p; exact p
    | ok bs =>
      simp only [R.ok_bind] at p
      rw [e2] at p
      simp only [R.ok_bind] at p
      intro zs G2 H2 s2 q2
      have q1 : RDs c.k G1 as vs := q1
      have q2 : RDs c.k G2 bs zs := q2
      have l1 := hl S as e1
      have l2 := hkl S bs e2
      have sp := s1.trans s2
      obtain ⟨a0, rfl⟩ : ∃ a0, as = [a0] := by
        match as, l1 with
        | [a0], _ => exact ⟨a0, rfl⟩
      obtain ⟨b0, rfl⟩ : ∃ b0, bs = [b0] := by
        match bs, l2 with
        | [b0], _ => exact ⟨b0, rfl⟩
      have p : PostE c .st G S σ H Q (mindD a0 b0).nox := p
      cases q1 with
      | cons qa qz =>
        cases qz
        cases q2 with
        | cons qb qz =>
          cases qz
          have qa := RD.mono s2.g qa
          cases b0 <;> cases a0 <;> simp only [mindD] at p <;> first | (exact p.elim; done) | skip
          cases qb
          obtain ⟨a, us, rfl, ga, r⟩ := Now.lst s2.gh (Or.inl qa)
          split at p
          · rename_i hn
            have := asI_of r hn; subst this
            exact ⟨a, [], _, rfl, rfl, SqL.of ga, fun _ => p _ G2 H2 sp (.int _), fun z => absurd rfl z⟩
          · rename_i n0 ns hn
            have := asI_of r hn; subst this
            refine ⟨a, n0 :: ns, _, rfl, rfl, SqL.of ga, (fun z => nomatch z), fun _ m hm hle => ?_⟩
            have q := minL_fold ns n0
            have : m = minL (n0 :: ns) := Int.le_antisymm (hle _ q.2) (q.1 m hm)
            rw [this]; exact p _ G2 H2 sp (.int _)
          · exact p.elim
end
end M
set_option Elab.async false
set_option linter.all false
set_option maxRecDepth 100000
set_option maxHeartbeats 4000000
namespace M
open PySem
section
variable {prog : Program} {w : World} {A : Around} {R : GenEnd} {Y : Protocol} {n : Nat} {s₀ : Shared} {c : Code} {fs : List Frame} {s : Shared} {env : PySem.Env} {K : Flow → Sem Fin} {J : Value → Sem Fin} {gd : Bool → Bool} {lv : List Value → List Value}
end
end M
set_option Elab.async false
set_option linter.all false
set_option maxRecDepth 100000
set_option maxHeartbeats 4000000
namespace M
open PySem L2 PySem.Spec PyProof.Rows
section
variable {X : Cx}
end
end M
set_option Elab.async false
set_option linter.all false
set_option maxRecDepth 100000
set_option maxHeartbeats 4000000
namespace M
open PySem L2
abbrev FY := Env → R (Fl × Env × List D)
section
variable {X : Cx} {c : Cf} {k1 : Kd} {e : Expr} {f : FE} {pos : Pos} {as bs : List Nat} {s : FS} {y z : FY} {st : Stmt} {sts : List Stmt}
end
end M
set_option Elab.async false
set_option linter.all false
set_option maxRecDepth 100000
set_option maxHeartbeats 4000000
namespace M
open PySem L2
section
variable {P : Program} {w : World} {K : PySem.W.Frag} {mg : Str → Option Value} {base : Heap}
end
end M
set_option Elab.async false
set_option linter.all false
set_option maxRecDepth 100000
set_option maxHeartbeats 4000000
namespace M
open PySem L2
section
variable {X : Cx} {c : Cf} {e o : Expr} {f : FE} {pos apos pos' : Pos} {den : List D → R (List D)}
def lstE (out : List D) : R D := if out.length ≤ sizeLine then .ok (.lst out) else .fail
def eLM (ci : Nat) (den : List D → R (List D)) (f : FE) (fa : FA) : FE := fun S => f S >>= fun o => if o.isObj ci then fa S >>= fun ds => (den (o :: ds)).nox >>= fun out => lstE out else .fail
end
end M
set_option Elab.async false
set_option linter.all false
set_option maxRecDepth 100000
set_option maxHeartbeats 4000000
namespace M
open PySem L2
section
variable {X : Cx} {c : Cf} {k1 : Kd} {e : Expr} {pos spos p' : Pos} {f : FE} {fr : Bool} {x : Str} {i : Nat}
def eFmt (f : FE) : FE := fun S => f S >>= fun d => match d with
  | .str y => if y.length ≤ sizeLine then .ok (.str y) else .fail
  | .int i => if i.natAbs.log2 < 1920 then .ok (.str (toString i)) else .fail
  | _ => .fail
theorem d_fmt (he : PE' X c .st e f) : PE' X c .st (.FormattedValue e (-1) none pos) (eFmt f) :=
  peI (pe_fmt he) fun σ H Q ⟨G, S, rel, p⟩ => by
    refine rdE_go (g := fun d => match d with
      | .str y => if y.length ≤ sizeLine then .ok (D.str y) else .fail
      | .int i => if i.natAbs.log2 < 1920 then .ok (D.str (toString i)) else .fail
      | _ => .fail) (Post := PostE c .st G S σ H Q) rel p (fun _ z => z) (fun z => z) fun d v G' H' sp q p1 => ?_
    have q : RD c.k G' d v := q
    cases d with
    | str y =>
      by_cases h : y.length ≤ sizeLine
      · dsimp only at p1
        rw [if_pos h] at p1
        cases q
        exact .inl ⟨y, rfl, h, p1 _ G' H' sp (.str _)⟩
      · dsimp only at p1
        rw [if_neg h] at p1; exact p1.elim
    | int i =>
      by_cases h : i.natAbs.log2 < 1920
      · dsimp only at p1
        rw [if_pos h] at p1
        cases q
        exact .inr ⟨i, rfl, h, p1 _ G' H' sp (.str _)⟩
      · dsimp only at p1
        rw [if_neg h] at p1; exact p1.elim
    | _ => exact p1.elim
abbrev FFs := Str → Env → R Str
def fsN : FFs := fun acc _ => .ok acc
def fsC (f : FE) (r : FFs) : FFs := fun acc S => (f S).nox >>= fun d => match d with
  | .str y => if (acc ++ y).length ≤ sizeLine then r (acc ++ y) S else .fail
  | _ => .fail
def PostFs (G H : Hp) (Q : Str → Hp → Prop) : R Str → Prop
  | .ok out => ∀ G' H', Step G H G' H' → Q out H'
  | _ => False
def PFs (X : Cx) (c : Cf) (es : List Expr) (r : FFs) : Prop := ∃ ts, PJ X es ts ∧ ∀ acc σ H Q, (∃ G S, Rel c G S σ H ∧ PostFs G H Q (r acc S)) → tJs ts acc σ H Q
theorem fs_n : PFs X c [] fsN := ⟨[], .nil, fun acc σ H Q ⟨G, S, rel, p⟩ => p G H (Step.refl rel.st.gh)⟩
theorem fs_c {v : Expr} {es : List Expr} {r : FFs} (hv : PE' X c .st v f) (hr : PFs X c es r) : PFs X c (v :: es) (fsC f r) := by
  obtain ⟨ts, h1, h2⟩ := hr
  refine ⟨_, .cons hv h1, fun acc σ H Q ⟨G, S, rel, p⟩ => ?_⟩
  refine ⟨G, S, rel, ?_⟩
  have p : PostFs G H Q ((f S).nox >>= fun d => match d with
    | .str y => if (acc ++ y).length ≤ sizeLine then r (acc ++ y) S else .fail
    | _ => .fail) := p
  cases e1 : f S with
  | exc x => rw [e1] at p; exact p.elim
  | fail => rw [e1] at p; exact p.elim
  | ok d =>
    rw [e1, R.nox_ok, R.ok_bind] at p
    intro v G' H' sp q
    have q : RD c.k G' d v := q
    cases d with
    | str y =>
      by_cases h : (acc ++ y).length ≤ sizeLine
      · dsimp only at p
        rw [if_pos h] at p
        cases q
        refine ⟨y, rfl, h, h2 _ σ H' Q ⟨G', S, rel.grow sp, ?_⟩⟩
        cases e2 : r (acc ++ y) S with
        | exc x => rw [e2] at p; exact p.elim
        | fail => rw [e2] at p; exact p.elim
        | ok out => rw [e2] at p; exact fun G1 H1 s1 => p G1 H1 (sp.trans s1)
      · dsimp only at p
        rw [if_neg h] at p; exact p.elim
    | _ => exact p.elim
def eFs (r : FFs) : FE := fun S => (r Str.empty S).nox >>= fun y => .ok (.str y)
theorem d_fs {v1 v2 : Expr} {rest : List Expr} {r : FFs} (h : PFs X c (v1 :: v2 :: rest) r) : PE' X c .st (.JoinedStr (v1 :: v2 :: rest) pos) (eFs r) := by
  obtain ⟨ts, h1, h2⟩ := h
  refine peI (pe_joined h1) fun σ H Q ⟨G, S, rel, p⟩ => h2 _ σ H _ ⟨G, S, rel, ?_⟩
  have p : PostE c .st G S σ H Q ((r Str.empty S).nox >>= fun y => .ok (.str y)) := p
  cases e1 : r Str.empty S with
  | exc x => rw [e1] at p; exact p.elim
  | fail => rw [e1] at p; exact p.elim
  | ok out => rw [e1] at p; exact fun G1 H1 s1 => p _ G1 H1 s1 (.str _)
def eNo : FE := fun _ => .fail
theorem d_no {kd : Kd} : PE' X c kd e eNo := ⟨fun pins s σ H Q I h => by obtain ⟨G, S, rel, p⟩ := h; exact p.elim⟩
def mulM : D → D → R D
  | .int i, .int j => if CMul i j then .ok (.int (i * j)) else .fail
  | _, _ => .fail
def sAugM (i : Nat) (f : FE) : FS := fun S => eV i S >>= fun x => f S >>= fun y => (mulM x y).nox >>= fun z => .ok (.nx, S.set i (some ⟨false, z⟩))
theorem s_augM (i : Nat) (hN : X.N.Nodup) (he : PE' X c k1 e f) (hi : X.N[i]? = some x := by rfl) (hx : Loc X.env.scope x := by first | exact Or.inl rfl | exact Or.inr rfl) (hf : X.fn x = true ∨ X.env.scope.names.lookup x = some .local := by first | exact .inl rfl | exact .inr rfl) :
    PS' X c fr [i] (.AugAssign (.Name x p') .Mult e pos) (sAugM i f) := by
  refine psI (ps_aug hN hi hx he iop_mul hf) fun Dn σ H ⟨G, S, rel, p⟩ => ?_
  have p : PostS c fr [i] G S σ H Dn (eV i S >>= fun x => f S >>= fun y => (mulM x y).nox >>= fun z => .ok (.nx, S.set i (some ⟨false, z⟩))) := p
  cases e0 : eV i S with
  | exc x => exact absurd e0 eV_exc
  | fail => rw [e0] at p; exact p.elim
  | ok d =>
    rw [e0, R.ok_bind] at p
    obtain ⟨v, es, rv⟩ := rel.fz i d (eV_of e0)
    refine ⟨v, es, ?_⟩
    refine rdE_go (Post := PostS c fr [i] G S σ H Dn) rel p (fun _ z => z _) (fun z => z) fun d2 v2 G' H' sp q p1 => ?_
    cases e1 : mulM d d2 with
    | exc x => rw [e1] at p1; exact p1.elim
    | fail => rw [e1] at p1; exact p1.elim
    | ok z =>
      rw [e1] at p1
      unfold mulM at e1
      split at e1
      · rename_i a1 a2
        split at e1
        · rename_i hc
          cases e1
          cases rv
          obtain rfl := q.now.int
          exact ⟨a1, a2, rfl, rfl, hc, p1 G' _ H' sp.g ((rel.grow sp).setS i (.int _)) ((Frm.step (as := []) rel sp).trans (Frm.set i _ _))⟩
        · cases e1
      · cases e1
end
end M
set_option Elab.async false
set_option linter.all false
set_option maxRecDepth 100000
set_option maxHeartbeats 4000000
namespace M
open PySem L2
section
variable {P : Program} {w : World} {K : PySem.W.Frag} {mg : Str → Option Value} {base : Heap}
end
section
variable {X : Cx} {c : Cf} {o : Expr} {f : FE} {pos apos spos : Pos} {fr : Bool} {den : List D → R (D × D)}
end
end M
set_option Elab.async false
set_option linter.all false
set_option maxRecDepth 100000
set_option maxHeartbeats 4000000
namespace M
open PySem L2
section
variable {P : Program} {w : World} {K : PySem.W.Frag} {mg : Str → Option Value} {base : Heap}
end
section
variable {X : Cx} {c : Cf} {pos spos : Pos} {den : List D → R D}
end
end M
set_option Elab.async false
set_option linter.all false
set_option maxRecDepth 100000
set_option maxHeartbeats 4000000
namespace M
open PySem L2
section
variable {X : Cx} {c : Cf} {e : Expr} {pos px py : Pos} {f : FE} {fr : Bool} {x y : Str}
end
end M
set_option Elab.async false
set_option linter.all false
set_option maxRecDepth 100000
set_option maxHeartbeats 4000000
namespace RZ3
open PySem
open PySem.Sem (wp)
abbrev IsTrip (h : Heap) (T : Addr) (a b c : Value) : Prop := h.get? T = some { cls := .type "tuple", data := .seq #[a, b, c] }
theorem typeCall_zip_3 (a b c : Value) : checkTypeCall "zip" ⟨[a, b, c], []⟩ = pure () := by kernel_rfl
theorem newCall_zip_3 (a b c : Value) : checkBuiltinCall "zip.__new__" ⟨[.type "zip", a, b, c], []⟩ = pure () := by kernel_rfl
theorem args_object_init_4 (a b c d : Value) : argsOk "object.__init__" ⟨[a, b, c, d], []⟩ := by
  unfold argsOk; rw [signature?_of (id := "object.__init__") (n := ['_', '_', 't', 'i', 'n', 'i', '_', '_']) (o := ['t', 'c', 'e', 'j', 'b', 'o']) (by kernel_rfl) F.owner_object]; kernel_rfl
section
variable {prog : Program} {w : World} {A : Around} {E : Value → Shared → Prop} {s : Shared}
theorem updateSeq_trip {T : Addr} {a b c x : Value} {k : Nat} {Q : Unit → Shared → Prop} (hT : IsTrip s.heap T a b c)
    (h : ∀ h', h'.get? T = some { cls := .type "tuple", data := .seq ((#[a, b, c] : Array Value).setIfInBounds k x) } → Heap.SameBut T s.heap h' → Q () { s with heap := h' }) :
    wpAny (model prog w) A (updateSeq T (·.setIfInBounds k x)) Q E s := by
  refine wpAny_updateSeq hT rfl (h _ ?_ (Heap.SameBut.update ..))
  rw [Heap.get?_update_self _ hT rfl]
  simp [Obj.mapSeq]
structure Apart (z TI TO i1 i2 i3 l1 l2 l3 : Addr) : Prop where
  TIz : TI ≠ z
  TOz : TO ≠ z
  i1z : i1 ≠ z
  i2z : i2 ≠ z
  i3z : i3 ≠ z
  TITO : TI ≠ TO
  TIi1 : TI ≠ i1
  TIi2 : TI ≠ i2
  TIi3 : TI ≠ i3
  TOi1 : TO ≠ i1
  TOi2 : TO ≠ i2
  TOi3 : TO ≠ i3
  i12 : i1 ≠ i2
  i13 : i1 ≠ i3
  i23 : i2 ≠ i3
  l1z : l1 ≠ z
  l2z : l2 ≠ z
  l2TO : l2 ≠ TO
  l2i1 : l2 ≠ i1
  l3z : l3 ≠ z
  l3TO : l3 ≠ TO
  l3i1 : l3 ≠ i1
  l3i2 : l3 ≠ i2
theorem next_item {z TI TO i1 i2 i3 l1 l2 l3 : Addr} {k1 k2 k3 : Nat} {xs ys zs : Array Value} {x y v a b c : Value} {Q : Value → Shared → Prop} (D : Apart z TI TO i1 i2 i3 l1 l2 l3)
    (hz : IsZip s.heap z TI TO .none) (hTI : IsTrip s.heap TI (.ref i1) (.ref i2) (.ref i3)) (hTO : IsTrip s.heap TO a b c)
    (h1 : s.heap.IsTupleIter i1 l1 k1) (h2 : s.heap.IsTupleIter i2 l2 k2) (h3 : s.heap.IsTupleIter i3 l3 k3) (hl1 : s.heap.IsTuple l1 xs) (hl2 : s.heap.IsTuple l2 ys) (hl3 : s.heap.IsTuple l3 zs) (hx : xs[k1]? = some x) (hy : ys[k2]? = some y) (hv : zs[k3]? = some v)
    (hQ : ∀ h', IsZip h' z TI TO (rawInt s.heap.objs.size) → IsTrip h' TO x y v → h'.IsTupleIter i1 l1 (k1 + 1) → h'.IsTupleIter i2 l2 (k2 + 1) → h'.IsTupleIter i3 l3 (k3 + 1) → IsTrip h' s.heap.objs.size x y v → h'.objs.size = s.heap.objs.size + 1 →
      (∀ c o, c ≠ z → c ≠ TO → c ≠ i1 → c ≠ i2 → c ≠ i3 → s.heap.get? c = some o → h'.get? c = some o) → Q (.ref s.heap.objs.size) { s with heap := h' }) :
    wpAny (model prog w) A (Builtin.«zip.__next__» ⟨[.ref z], []⟩) (fun fin s' => ∃ v, fin = .done (.ret v) ∧ Q v s') E s := by
  show wpAny _ _ (field (.ref z) 2 >>= _) _ _ _
  refine wpAny_bind (wpAny_field hz rfl (x := .bool false) rfl ?_)
  show wpAny _ _ (field (.ref z) 3 >>= _) _ _ _
  refine wpAny_bind (wpAny_field hz rfl (x := .ref TI) rfl ?_)
  refine wpAny_bind (wpAny_seqItems hTI rfl ?_)
  show wpAny _ _ (Builtin.SmallTypes.ownedTupleIsFree (.ref z) >>= _) _ _ _
  refine wpAny_bind ?_
  unfold Builtin.SmallTypes.ownedTupleIsFree
  refine wpAny_bind (wpAny_field hz rfl (x := .none) rfl (wpAny_pure ?_))
  simp only [if_true]
  refine wpAny_bind (wpAny_rule ?_)
  refine wpAny_bind (wpAny_field hz rfl (x := .ref TO) rfl ?_)
  refine wpAny_bind (wpAny_setField_rec hz (by simp) fun h₁ hz₁ hs₁ => ?_)
  replace hz₁ : IsZip h₁ z TI TO .ellipsis := hz₁
  refine wpAny_bind ?_
  simp only [List.zipIdx_cons, List.zipIdx_nil, List.forIn_cons, List.forIn_nil]
  refine wpAny_bind (wpAny_bind (wpAny_onRaise ?_))
  show wpAny _ _ (Builtin.SmallTypes.nextOf (.ref i1) >>= _) _ _ _
  refine wpAny_bind (RZ.nextOf_tuple_item (h1.extBut hs₁.extBut D.i1z) (hl1.extBut hs₁.extBut D.l1z) hx fun h₂ h1₂ hs₂ => wpAny_pure ?_)
  have hTO₂ : IsTrip h₂ TO a b c := hs₂.extBut _ _ D.TOi1 (hs₁.extBut _ _ D.TOz hTO)
  refine wpAny_bind (wpAny_seqItems hTO₂ rfl ?_)
  refine wpAny_bind (updateSeq_trip hTO₂ fun h₃ hTO₃ hs₃ => ?_)
  replace hTO₃ : IsTrip h₃ TO x b c := hTO₃
  refine wpAny_bind (wpAny_letGo (wpAny_pure ?_))
  refine wpAny_bind (wpAny_bind (wpAny_onRaise ?_))
  show wpAny _ _ (Builtin.SmallTypes.nextOf (.ref i2) >>= _) _ _ _
  refine wpAny_bind (RZ.nextOf_tuple_item (((h2.extBut hs₁.extBut D.i2z).extBut hs₂.extBut D.i12.symm).extBut hs₃.extBut D.TOi2.symm)
    (((hl2.extBut hs₁.extBut D.l2z).extBut hs₂.extBut D.l2i1).extBut hs₃.extBut D.l2TO) hy fun h₄ h2₄ hs₄ => wpAny_pure ?_)
  have hTO₄ : IsTrip h₄ TO x b c := hs₄.extBut _ _ D.TOi2 hTO₃
  refine wpAny_bind (wpAny_seqItems hTO₄ rfl ?_)
  refine wpAny_bind (updateSeq_trip hTO₄ fun h₅ hTO₅ hs₅ => ?_)
  replace hTO₅ : IsTrip h₅ TO x y c := hTO₅
  refine wpAny_bind (wpAny_letGo (wpAny_pure ?_))
  refine wpAny_bind (wpAny_bind (wpAny_onRaise ?_))
  show wpAny _ _ (Builtin.SmallTypes.nextOf (.ref i3) >>= _) _ _ _
  refine wpAny_bind (RZ.nextOf_tuple_item (((((h3.extBut hs₁.extBut D.i3z).extBut hs₂.extBut D.i13.symm).extBut hs₃.extBut D.TOi3.symm).extBut hs₄.extBut D.i23.symm).extBut hs₅.extBut D.TOi3.symm)
    (((((hl3.extBut hs₁.extBut D.l3z).extBut hs₂.extBut D.l3i1).extBut hs₃.extBut D.l3TO).extBut hs₄.extBut D.l3i2).extBut hs₅.extBut D.l3TO) hv fun h₆ h3₆ hs₆ => wpAny_pure ?_)
  have hTO₆ : IsTrip h₆ TO x y c := hs₆.extBut _ _ D.TOi3 hTO₅
  refine wpAny_bind (wpAny_seqItems hTO₆ rfl ?_)
  refine wpAny_bind (updateSeq_trip hTO₆ fun h₇ hTO₇ hs₇ => ?_)
  replace hTO₇ : IsTrip h₇ TO x y v := hTO₇
  refine wpAny_bind (wpAny_letGo (wpAny_pure (wpAny_pure ?_)))
  refine wpAny_bind (wpAny_seqItems hTO₇ rfl ?_)
  refine wpAny_bind (wpAny_newTuple ?_)
  have hsz : h₇.objs.size = s.heap.objs.size := by rw [hs₇.1, hs₆.1, hs₅.1, hs₄.1, hs₃.1, hs₂.1, hs₁.1]
  have hz₇ : IsZip h₇ z TI TO .ellipsis := hs₇.extBut _ _ D.TOz.symm (hs₆.extBut _ _ D.i3z.symm (hs₅.extBut _ _ D.TOz.symm (hs₄.extBut _ _ D.i2z.symm (hs₃.extBut _ _ D.TOz.symm (hs₂.extBut _ _ D.i1z.symm hz₁)))))
  have hk₇ : ∀ c o, c ≠ z → c ≠ TO → c ≠ i1 → c ≠ i2 → c ≠ i3 → s.heap.get? c = some o → h₇.get? c = some o := fun c o c1 c2 c3 c4 c5 e =>
    hs₇.extBut _ _ c2 (hs₆.extBut _ _ c5 (hs₅.extBut _ _ c2 (hs₄.extBut _ _ c4 (hs₃.extBut _ _ c2 (hs₂.extBut _ _ c3 (hs₁.extBut _ _ c1 e))))))
  have h1₇ : h₇.IsTupleIter i1 l1 (k1 + 1) := ((((h1₂.extBut hs₃.extBut D.TOi1.symm).extBut hs₄.extBut D.i12).extBut hs₅.extBut D.TOi1.symm).extBut hs₆.extBut D.i13).extBut hs₇.extBut D.TOi1.symm
  have h2₇ : h₇.IsTupleIter i2 l2 (k2 + 1) := ((h2₄.extBut hs₅.extBut D.TOi2.symm).extBut hs₆.extBut D.i23).extBut hs₇.extBut D.TOi2.symm
  have h3₇ : h₇.IsTupleIter i3 l3 (k3 + 1) := h3₆.extBut hs₇.extBut D.TOi3.symm
  have hzlt : z < h₇.objs.size := Heap.lt_size hz₇
  show wpAny _ _ (Builtin.SmallTypes.ownedTupleHandOut (.ref z) (.ref h₇.objs.size) >>= _) _ _ _
  refine wpAny_bind ?_
  unfold Builtin.SmallTypes.ownedTupleHandOut
  have hz₈ : IsZip (h₇.push { cls := .type "tuple", data := .seq #[x, y, v] }) z TI TO .ellipsis := Heap.get?_push_of_some _ hz₇
  refine wpAny_bind (wpAny_setField_rec hz₈ (by simp) fun h₉ hz₉ hs₉ => ?_)
  replace hz₉ : IsZip h₉ z TI TO (rawInt h₇.objs.size) := hz₉
  refine wpAny_setField_rec hz₉ (by simp) fun hA hzA hsA => ?_
  replace hzA : IsZip hA z TI TO (rawInt h₇.objs.size) := hzA
  have up : ∀ c o, c ≠ z → h₇.get? c = some o → hA.get? c = some o := fun c o c1 e => hsA.extBut _ _ c1 (hs₉.extBut _ _ c1 (Heap.get?_push_of_some _ e))
  have hTA : IsTrip hA h₇.objs.size x y v := hsA.extBut _ _ (Nat.ne_of_gt hzlt) (hs₉.extBut _ _ (Nat.ne_of_gt hzlt) (Heap.get?_push_size _ rfl))
  have hzA8 : hA.objs.size = h₇.objs.size + 1 := by rw [hsA.1, hs₉.1, Heap.size_push]
  rw [hsz] at hzA hTA hzA8
  refine wpAny_pure ⟨_, rfl, ?_⟩
  show Q (.ref h₇.objs.size) _
  rw [hsz]
  exact hQ hA hzA (up _ _ D.TOz hTO₇) (h1₇.at fun o e => up _ o D.i1z e) (h2₇.at fun o e => up _ o D.i2z e) (h3₇.at fun o e => up _ o D.i3z e) hTA hzA8 fun c o c1 c2 c3 c4 c5 e => up c o c1 (hk₇ c o c1 c2 c3 c4 c5 e)
theorem next_end {z TI TO i1 i2 i3 l1 l2 l3 : Addr} {k1 : Nat} {xs : Array Value} {a b c : Value} {Q : Fin → Shared → Prop} (hh : A.handled = none) (D : Apart z TI TO i1 i2 i3 l1 l2 l3)
    (hz : IsZip s.heap z TI TO .none) (hTI : IsTrip s.heap TI (.ref i1) (.ref i2) (.ref i3)) (hTO : IsTrip s.heap TO a b c)
    (h1 : s.heap.IsTupleIter i1 l1 k1) (hl1 : s.heap.IsTuple l1 xs) (hx : xs[k1]? = none)
    (hE : ∀ h' e, (∀ c o, c ≠ z → c ≠ i1 → s.heap.get? c = some o → h'.get? c = some o) → (∃ o, h'.get? e = some o ∧ o.cls = .type "StopIteration") → E (.ref e) { s with heap := h' }) :
    wpAny (model prog w) A (Builtin.«zip.__next__» ⟨[.ref z], []⟩) Q E s := by
  show wpAny _ _ (field (.ref z) 2 >>= _) _ _ _
  refine wpAny_bind (wpAny_field hz rfl (x := .bool false) rfl ?_)
  show wpAny _ _ (field (.ref z) 3 >>= _) _ _ _
  refine wpAny_bind (wpAny_field hz rfl (x := .ref TI) rfl ?_)
  refine wpAny_bind (wpAny_seqItems hTI rfl ?_)
  show wpAny _ _ (Builtin.SmallTypes.ownedTupleIsFree (.ref z) >>= _) _ _ _
  refine wpAny_bind ?_
  unfold Builtin.SmallTypes.ownedTupleIsFree
  refine wpAny_bind (wpAny_field hz rfl (x := .none) rfl (wpAny_pure ?_))
  simp only [if_true]
  refine wpAny_bind (wpAny_rule ?_)
  refine wpAny_bind (wpAny_field hz rfl (x := .ref TO) rfl ?_)
  refine wpAny_bind (wpAny_setField_rec hz (by simp) fun h₁ hz₁ hs₁ => ?_)
  replace hz₁ : IsZip h₁ z TI TO .ellipsis := hz₁
  refine wpAny_bind ?_
  simp only [List.zipIdx_cons, List.zipIdx_nil, List.forIn_cons, List.forIn_nil]
  refine wpAny_bind (wpAny_bind (wpAny_onRaise ?_))
  show wpAny _ _ (Builtin.SmallTypes.nextOf (.ref i1) >>= _) _ _ _
  refine wpAny_bind (RZ.nextOf_tuple_end hh (h1.extBut hs₁.extBut D.i1z) (hl1.extBut hs₁.extBut D.l1z) hx fun h₂ e hs₂ he => ?_)
  obtain ⟨oe, hoe, hce⟩ := he
  have hz₂ : IsZip h₂ z TI TO .ellipsis := hs₂ _ _ D.i1z.symm hz₁
  have hez : e ≠ z := fun x => by subst x; rw [hz₂] at hoe; cases hoe; simp at hce
  refine wpAny_setField_rec hz₂ (by simp) fun h₃ _ hs₃ => hE h₃ e (fun c o c1 c3 x => hs₃.extBut _ _ c1 (hs₂ _ _ c3 (hs₁.extBut _ _ c1 x))) ⟨oe, hs₃.extBut _ _ hez hoe, hce⟩
theorem pyNext_item {z TI TO i1 i2 i3 l1 l2 l3 : Addr} {k1 k2 k3 : Nat} {xs ys zs : Array Value} {x y v a b c : Value} {Q : Option Value → Shared → Prop} (D : Apart z TI TO i1 i2 i3 l1 l2 l3)
    (hz : IsZip s.heap z TI TO .none) (hTI : IsTrip s.heap TI (.ref i1) (.ref i2) (.ref i3)) (hTO : IsTrip s.heap TO a b c)
    (h1 : s.heap.IsTupleIter i1 l1 k1) (h2 : s.heap.IsTupleIter i2 l2 k2) (h3 : s.heap.IsTupleIter i3 l3 k3) (hl1 : s.heap.IsTuple l1 xs) (hl2 : s.heap.IsTuple l2 ys) (hl3 : s.heap.IsTuple l3 zs) (hx : xs[k1]? = some x) (hy : ys[k2]? = some y) (hv : zs[k3]? = some v)
    (hQ : ∀ h', IsZip h' z TI TO (rawInt s.heap.objs.size) → IsTrip h' TO x y v → h'.IsTupleIter i1 l1 (k1 + 1) → h'.IsTupleIter i2 l2 (k2 + 1) → h'.IsTupleIter i3 l3 (k3 + 1) → IsTrip h' s.heap.objs.size x y v → h'.objs.size = s.heap.objs.size + 1 →
      (∀ c o, c ≠ z → c ≠ TO → c ≠ i1 → c ≠ i2 → c ≠ i3 → s.heap.get? c = some o → h'.get? c = some o) → Q (some (.ref s.heap.objs.size)) { s with heap := h' }) :
    wpAny (model prog w) A (pyNext (.ref z)) Q E s := by
  have hT : s.TypeIs (.ref z) "zip" := ⟨_, hz, rfl⟩
  unfold pyNext
  exact wpAny_bind (wpAny_attempt (wpAny_callSpecial?_slot (name := Str.ofString "__next__") hT F.slot_zip_next
    (wpAny_call_entry F.slot_zip_next hT F.entry_zip_next
      (next_item D hz hTI hTO h1 h2 h3 hl1 hl2 hl3 hx hy hv fun h' a1 a2 a3 a4 a5 a6 a7 a8 => wpAny_pure (hQ h' a1 a2 a3 a4 a5 a6 a7 a8)) (F.args_zip_next_1 _))))
theorem pyNext_end {z TI TO i1 i2 i3 l1 l2 l3 : Addr} {k1 : Nat} {xs : Array Value} {a b c : Value} {Q : Option Value → Shared → Prop} (hh : A.handled = none) (D : Apart z TI TO i1 i2 i3 l1 l2 l3)
    (hz : IsZip s.heap z TI TO .none) (hTI : IsTrip s.heap TI (.ref i1) (.ref i2) (.ref i3)) (hTO : IsTrip s.heap TO a b c)
    (h1 : s.heap.IsTupleIter i1 l1 k1) (hl1 : s.heap.IsTuple l1 xs) (hx : xs[k1]? = none)
    (hQ : ∀ h', (∀ c o, c ≠ z → c ≠ i1 → s.heap.get? c = some o → h'.get? c = some o) → Q none { s with heap := h' }) : wpAny (model prog w) A (pyNext (.ref z)) Q E s := by
  have hT : s.TypeIs (.ref z) "zip" := ⟨_, hz, rfl⟩
  unfold pyNext
  refine wpAny_bind (wpAny_attempt (wpAny_callSpecial?_slot (name := Str.ofString "__next__") hT F.slot_zip_next
    (wpAny_call_entry F.slot_zip_next hT F.entry_zip_next (next_end hh D hz hTI hTO h1 hl1 hx fun h' e hk he => ?_) (F.args_zip_next_1 _))))
  obtain ⟨o, ho, hc⟩ := he
  refine wpAny_bind (wpAny_isInstance (T := "StopIteration") (b := true) ⟨o, ho, hc⟩ isSubtype_stop ?_)
  exact wpAny_pure (hQ _ hk)
end
abbrev hp1 (h : Heap) (l1 : Addr) : Heap := h.push { cls := .type "tuple_iterator", data := .fields #[.ref l1, .int 0 0] }
abbrev hp2 (h : Heap) (l1 l2 : Addr) : Heap := (hp1 h l1).push { cls := .type "tuple_iterator", data := .fields #[.ref l2, .int 0 0] }
abbrev hp3 (h : Heap) (l1 l2 l3 : Addr) : Heap := (hp2 h l1 l2).push { cls := .type "tuple_iterator", data := .fields #[.ref l3, .int 0 0] }
abbrev hp4 (h : Heap) (l1 l2 l3 : Addr) : Heap := (hp3 h l1 l2 l3).push { cls := .type "tuple", data := .seq #[.ref h.objs.size, .ref (hp1 h l1).objs.size, .ref (hp2 h l1 l2).objs.size] }
abbrev hp5 (h : Heap) (l1 l2 l3 : Addr) : Heap := (hp4 h l1 l2 l3).push { cls := .type "tuple", data := .seq #[.none, .none, .none] }
abbrev hp6 (h : Heap) (l1 l2 l3 : Addr) : Heap := (hp5 h l1 l2 l3).push { cls := .type "zip", data := .fields #[.none, .bool false, .bool false, .ref (hp3 h l1 l2 l3).objs.size, .ref (hp4 h l1 l2 l3).objs.size] }
theorem meets_new (l1 l2 l3 : Addr) (xs ys zs : Array Value) :
    Meets (Builtin.«zip.__new__» ⟨[.type "zip", .ref l1, .ref l2, .ref l3], []⟩) (fun _ R s => s.heap.IsTuple l1 xs ∧ s.heap.IsTuple l2 ys ∧ s.heap.IsTuple l3 zs ∧
      R (.ok (.ret (.ref (hp5 s.heap l1 l2 l3).objs.size))) { s with heap := hp6 s.heap l1 l2 l3 }) :=
  .of_wp fun prog w A R s h => by
    obtain ⟨hp, g, d, tk, os⟩ := s; obtain ⟨hl1, hl2, hl3, h⟩ := h
    have hsub := sub_zip
    have hL1 : Heap.IsTuple (Shared.heap ⟨hp, g, d, tk, os⟩) l1 xs := hl1
    have hL2 : Heap.IsTuple (Shared.heap ⟨hp.push { cls := .type "tuple_iterator", data := .fields #[.ref l1, .int 0 0] }, g, d, tk, os⟩) l2 ys := Heap.IsTuple.push hl2 _
    have hL3 : Heap.IsTuple (Shared.heap ⟨(hp.push { cls := .type "tuple_iterator", data := .fields #[.ref l1, .int 0 0] }).push { cls := .type "tuple_iterator", data := .fields #[.ref l2, .int 0 0] }, g, d, tk, os⟩) l3 zs := Heap.IsTuple.push (Heap.IsTuple.push hl3 _) _
    wp_walk using wpAny_pyIter_tuple hL1, wpAny_pyIter_tuple hL2, wpAny_pyIter_tuple hL3
    exact ⟨_, rfl, h⟩
section
variable {prog : Program} {w : World} {A : Around} {E : Value → Shared → Prop} {s : Shared}
theorem call_zip3 {l1 l2 l3 : Addr} {xs ys zs : Array Value} {Q : Value → Shared → Prop} (hl1 : s.heap.IsTuple l1 xs) (hl2 : s.heap.IsTuple l2 ys) (hl3 : s.heap.IsTuple l3 zs)
    (h : ∀ h', IsZip h' (s.heap.objs.size + 5) (s.heap.objs.size + 3) (s.heap.objs.size + 4) .none → IsTrip h' (s.heap.objs.size + 3) (.ref s.heap.objs.size) (.ref (s.heap.objs.size + 1)) (.ref (s.heap.objs.size + 2)) →
      IsTrip h' (s.heap.objs.size + 4) .none .none .none → h'.IsTupleIter s.heap.objs.size l1 0 → h'.IsTupleIter (s.heap.objs.size + 1) l2 0 → h'.IsTupleIter (s.heap.objs.size + 2) l3 0 → h'.objs.size = s.heap.objs.size + 6 →
      (∀ c o, s.heap.get? c = some o → h'.get? c = some o) → Q (.ref (s.heap.objs.size + 5)) { s with heap := h' }) :
    wpAny (model prog w) A (call (.type "zip") [.ref l1, .ref l2, .ref l3]) Q E s := by
  refine callType_new F.called_zip (by decide) (typeCall_zip_3 _ _ _) (newCall_zip_3 _ _ _) (fun obj => args_object_init_4 obj _ _ _) F.entry_zip_new
    (meets_new l1 l2 l3 xs ys zs) ⟨hl1, hl2, hl3, ?_⟩
  have z1 : (hp1 s.heap l1).objs.size = s.heap.objs.size + 1 := Heap.size_push ..
  have z2 : (hp2 s.heap l1 l2).objs.size = s.heap.objs.size + 2 := by rw [Heap.size_push, z1]
  have z3 : (hp3 s.heap l1 l2 l3).objs.size = s.heap.objs.size + 3 := by rw [Heap.size_push, z2]
  have z4 : (hp4 s.heap l1 l2 l3).objs.size = s.heap.objs.size + 4 := by rw [Heap.size_push, z3]
  have z5 : (hp5 s.heap l1 l2 l3).objs.size = s.heap.objs.size + 5 := by rw [Heap.size_push, z4]
  have z6 : (hp6 s.heap l1 l2 l3).objs.size = s.heap.objs.size + 6 := by rw [Heap.size_push, z5]
  have g6 : (hp6 s.heap l1 l2 l3).get? (hp5 s.heap l1 l2 l3).objs.size = some _ := Heap.get?_push_size _ rfl
  have g5 : (hp6 s.heap l1 l2 l3).get? (hp4 s.heap l1 l2 l3).objs.size = some _ := Heap.get?_push_of_some _ (Heap.get?_push_size _ rfl)
  have g4 : (hp6 s.heap l1 l2 l3).get? (hp3 s.heap l1 l2 l3).objs.size = some _ := Heap.get?_push_of_some _ (Heap.get?_push_of_some _ (Heap.get?_push_size _ rfl))
  have g3 : (hp6 s.heap l1 l2 l3).get? (hp2 s.heap l1 l2).objs.size = some _ := Heap.get?_push_of_some _ (Heap.get?_push_of_some _ (Heap.get?_push_of_some _ (Heap.get?_push_size _ rfl)))
  have g2 : (hp6 s.heap l1 l2 l3).get? (hp1 s.heap l1).objs.size = some _ := Heap.get?_push_of_some _ (Heap.get?_push_of_some _ (Heap.get?_push_of_some _ (Heap.get?_push_of_some _ (Heap.get?_push_size _ rfl))))
  have g1 : (hp6 s.heap l1 l2 l3).get? s.heap.objs.size = some _ := Heap.get?_push_of_some _ (Heap.get?_push_of_some _ (Heap.get?_push_of_some _ (Heap.get?_push_of_some _ (Heap.get?_push_of_some _ (Heap.get?_push_size _ rfl)))))
  show _ ∧ _
  rw [z3, z4, z5] at g6
  rw [z1, z2, z3] at g4
  rw [z4] at g5
  rw [z2] at g3
  rw [z1] at g2
  rw [z5]
  exact ⟨⟨_, g6, rfl⟩, h _ g6 g4 g5 ⟨_, g1, rfl, rfl⟩ ⟨_, g2, rfl, rfl⟩ ⟨_, g3, rfl, rfl⟩ z6 fun c o x =>
    Heap.get?_push_of_some _ (Heap.get?_push_of_some _ (Heap.get?_push_of_some _ (Heap.get?_push_of_some _ (Heap.get?_push_of_some _ (Heap.get?_push_of_some _ x)))))⟩
end
open L2 PyProof.Rows in
def Itz3 (K : PySem.W.Frag) (a b c : Addr) : It :=
  ⟨fun i H => ∃ (xs ys zs : List V) (x y v : V), SqT K H a xs ∧ SqT K H b ys ∧ SqT K H c zs ∧ xs[i]? = some x ∧ ys[i]? = some y ∧ zs[i]? = some v,
    fun i H u H' => ∃ T x y v, u = .ref T ∧ H T = none ∧ H' = upd H T (.tup [x, y, v]) ∧ (∀ xs, SqT K H a xs → xs[i]? = some x) ∧ (∀ ys, SqT K H b ys → ys[i]? = some y) ∧ ∀ zs, SqT K H c zs → zs[i]? = some v,
    fun i H => ∃ xs : List V, SqT K H a xs ∧ xs.length ≤ i⟩
section
open PySem PySem.Spec PyProof.Rows L2
theorem turn_zip3 {P : Program} {w : World} {K : PySem.W.Frag} {elts : List Expr} {kk : Nat} {tpos : Pos} {a b c z TI TO i1 i2 i3 : Addr} (D : Apart z TI TO i1 i2 i3 a b c) :
    Turn P w K (.Tuple elts kk tpos) (Itz3 K a b c) [z, TI, TO, i1, i2, i3] z (fun i h => IsZip h z TI TO .none ∧ IsTrip h TI (.ref i1) (.ref i2) (.ref i3) ∧ (∃ x y v, IsTrip h TO x y v) ∧ h.IsTupleIter i1 a i ∧ h.IsTupleIter i2 b i ∧ h.IsTupleIter i3 c i) where
  mem := by simp
  obj := fun i h st q hq => by
    obtain ⟨hz, hTI, ⟨x, y, v, hTO⟩, ⟨o1, e1, _, d1⟩, ⟨o2, e2, _, d2⟩, ⟨o3, e3, _, d3⟩⟩ := st
    have e' : q = z ∨ q = TI ∨ q = TO ∨ q = i1 ∨ q = i2 ∨ q = i3 := by simpa using hq
    rcases e' with q | q | q | q | q | q
    · rw [q]; exact ⟨_, hz, fun v q => nomatch q⟩
    · rw [q]; exact ⟨_, hTI, fun v q => nomatch q⟩
    · rw [q]; exact ⟨_, hTO, fun v q => nomatch q⟩
    · rw [q]; exact ⟨o1, e1, fun v q => by rw [d1] at q; cases q⟩
    · rw [q]; exact ⟨o2, e2, fun v q => by rw [d2] at q; cases q⟩
    · rw [q]; exact ⟨o3, e3, fun v q => by rw [d3] at q; cases q⟩
  keep := fun i h h' st k => by
    obtain ⟨hz, hTI, ⟨x, y, v, hTO⟩, h1, h2, h3⟩ := st
    exact ⟨k z (by simp) _ hz, k TI (by simp) _ hTI, ⟨x, y, v, k TO (by simp) _ hTO⟩, h1.at fun o q => k i1 (by simp) o q, h2.at fun o q => k i2 (by simp) o q, h3.at fun o q => k i3 (by simp) o q⟩
  item := by
    intro X hP hw hK hc i pins s σ H E I hf st hg
    subst hP hw hK
    obtain ⟨hz, hTI, ⟨x0, y0, v0, hTO⟩, h1, h2, h3⟩ := st
    obtain ⟨xs, ys, zs, x, y, v, hqx, hqy, hqz, hx, hy, hv⟩ := hg
    obtain ⟨its, rv, p, _⟩ := I.tuple hqx
    obtain ⟨its2, rv2, p2, _⟩ := I.tuple hqy
    obtain ⟨its3, rv3, p3, _⟩ := I.tuple hqz
    obtain ⟨u, hu, ru⟩ := rv.get hx
    obtain ⟨u2, hu2, ru2⟩ := rv2.get hy
    obtain ⟨u3, hu3, ru3⟩ := rv3.get hv
    have hzl : z < s.heap.objs.size := Heap.lt_size hz
    refine pyNext_item D hz hTI hTO h1 h2 h3 p p2 p3 (x := u) (y := u2) (v := u3) (by simpa using hu) (by simpa using hu2) (by simpa using hu3) fun h' z' TO' h1' h2' h3' hT hsz hk => ?_
    refine ⟨_, rfl, wpAny_letOwnedTupleGo_zip (s := { s with heap := h' }) z' fun h'' z'' sb => ?_⟩
    have hT2 : h''.get? s.heap.objs.size = some { cls := .type "tuple", data := .seq #[u, u2, u3] } := (sb.2 _ (Nat.ne_of_gt hzl)).trans hT
    have new : ObjOk X.prog X.w (upd H s.heap.objs.size (.tup [x, y, v])) h'' s.heap.objs.size (.tup [x, y, v]) :=
      ⟨by show 3 ≤ sizeLine; decide, [u, u2, u3], .cons ru (.cons ru2 (.cons ru3 .nil)), ⟨_, hT2, rfl, _, rfl⟩⟩
    have I1 : Inv X pins σ (upd H s.heap.objs.size (.tup [x, y, v])) { s with heap := h'' } :=
      I.turnedNew (t' := s.toks) (ch := [z, TI, TO, i1, i2, i3]) (fun c o hb q => (sb.2 c (fun q' => hb (by simp [q']))).trans (hk c o (fun q' => hb (by simp [q'])) (fun q' => hb (by simp [q'])) (fun q' => hb (by simp [q'])) (fun q' => hb (by simp [q'])) (fun q' => hb (by simp [q'])) q)) hf (Nat.le_refl _) new
    refine ⟨.ref s.heap.objs.size, _, I1, rfl, ⟨_, x, y, v, rfl, I.hok.fresh (Nat.le_refl _), rfl, fun l hl => by rw [I.tuple_inj hl hqx]; exact hx, fun l hl => by rw [I.tuple_inj hl hqy]; exact hy, fun l hl => by rw [I.tuple_inj hl hqz]; exact hv⟩, ⟨z'', ?_, ⟨u, u2, u3, ?_⟩, ?_, ?_, ?_⟩, fun c hcm => ?_⟩
    · exact (sb.2 _ D.TIz).trans (hk _ _ D.TIz D.TITO D.TIi1 D.TIi2 D.TIi3 hTI)
    · exact (sb.2 _ D.TOz).trans TO'
    · exact h1'.at fun o q => (sb.2 _ D.i1z).trans q
    · exact h2'.at fun o q => (sb.2 _ D.i2z).trans q
    · exact h3'.at fun o q => (sb.2 _ D.i3z).trans q
    · have hlt : c < s.heap.objs.size := by
        have e' : c = z ∨ c = TI ∨ c = TO ∨ c = i1 ∨ c = i2 ∨ c = i3 := by simpa using hcm
        rcases e' with q | q | q | q | q | q
        · rw [q]; exact hzl
        · rw [q]; exact Heap.lt_size hTI
        · rw [q]; exact Heap.lt_size hTO
        · rw [q]; obtain ⟨_, e1, _⟩ := h1; exact Heap.lt_size e1
        · rw [q]; obtain ⟨_, e2, _⟩ := h2; exact Heap.lt_size e2
        · rw [q]; obtain ⟨_, e3, _⟩ := h3; exact Heap.lt_size e3
      rw [upd_ne (Nat.ne_of_lt hlt)]
      exact (hf c hcm).1
  done := by
    intro X hP hw hK hc i pins s σ H E I hf st hg
    subst hP hw hK
    obtain ⟨hz, hTI, ⟨x0, y0, v0, hTO⟩, h1, h2, h3⟩ := st
    obtain ⟨xs, hqx, hend⟩ := hg
    obtain ⟨its, rv, p, _⟩ := I.tuple hqx
    have l1 := rv.length
    have he : its.toArray[i]? = none := by simp; omega
    exact pyNext_end (I.ok.hd hc) D hz hTI hTO h1 p he fun h' hk => ⟨rfl, I.turnedL (t' := s.toks) (ch := [z, TI, TO, i1, i2, i3]) (fun c o hb q =>
      hk c o (fun q' => hb (by simp [q'])) (fun q' => hb (by simp [q'])) q) hf⟩
  self := fun A i s Q E st h => wpAny_pyIter_zip st.1 h
theorem nN3 {a b : Nat} (h : ¬ @Eq Nat a b) : @Ne Addr a b := h
theorem apart_new (I l1 l2 l3 : Nat) (h1 : l1 < I) (h2 : l2 < I) (h3 : l3 < I) : Apart (I + 5) (I + 3) (I + 4) I (I + 1) (I + 2) l1 l2 l3 := by
  constructor <;> (refine nN3 ?_; omega)
def iZip3 (K : PySem.W.Frag) (ta : TA) : TI := fun σ H R => ta σ H fun vs H1 => ∃ a b c xs ys zs, vs = [.ref a, .ref b, .ref c] ∧ SqT K H1 a xs ∧ SqT K H1 b ys ∧ SqT K H1 c zs ∧ R (Itz3 K a b c) H1
theorem pi_zip3 {X : Cx} {e e2 e3 : Expr} {ta : TA} {p pos tpos : Pos} {elts : List Expr} {kk : Nat} (hg : Gl X "zip") (hm : X.mg "zip" = none) (ha : PA X [e, e2, e3] ta)
    (hs : starEach [e, e2, e3] X.env = (false, eval e X.env) :: starEach [e2, e3] X.env := by rfl) (hpl : (backTo pos (starEach [e2, e3] X.env)).any (·.1) = false := by rfl) :
    PI X (.Tuple elts kk tpos) (.Call (.Name "zip" p) [e, e2, e3] [] pos) (iZip3 X.K ta) := by
  refine ⟨fun pins s σ H R I h => ?_⟩
  refine Call_ (ld_blt I hg hm PyProof.Rows.boot_zip (PyProof.Rows.callWith_type1 (thn (ha.run pos pins s σ H _ I h) fun us s1 ⟨vs, H1, I1, r1, q1⟩ => ?_) hs hpl))
  obtain ⟨a, b, c, xs, ys, zs, ex, hqx, hqy, hqz, q⟩ := q1
  subst ex
  cases r1 with
  | cons r rr =>
    cases rr with
    | cons r' rr =>
      cases rr with
      | cons r'' rr =>
        cases rr
        cases r
        cases r'
        cases r''
        have fresh6 : ∀ d, d ∈ [s1.heap.objs.size + 5, s1.heap.objs.size + 3, s1.heap.objs.size + 4, s1.heap.objs.size, s1.heap.objs.size + 1, s1.heap.objs.size + 2] → FpOk X pins H1 d := fun d hdm => by
          have hle : s1.heap.objs.size ≤ d := by
            simp only [List.mem_cons, List.not_mem_nil, or_false] at hdm
            rcases hdm with z | z | z | z | z | z
            · rw [z]; exact Nat.le_add_right _ _
            · rw [z]; exact Nat.le_add_right _ _
            · rw [z]; exact Nat.le_add_right _ _
            · rw [z]; exact Nat.le_refl _
            · rw [z]; exact Nat.le_add_right _ _
            · rw [z]; exact Nat.le_add_right _ _
          exact I1.fpOk hle (I1.hok.fresh hle)
        obtain ⟨its, rv, p1, _⟩ := I1.tuple hqx
        obtain ⟨its2, rv2, p2, _⟩ := I1.tuple hqy
        obtain ⟨its3, rv3, p3, _⟩ := I1.tuple hqz
        obtain ⟨o1, ho1, _⟩ := id p1
        obtain ⟨o2, ho2, _⟩ := id p2
        obtain ⟨o3, ho3, _⟩ := id p3
        refine call_zip3 (show s1.heap.IsTuple a its.toArray from p1) (show s1.heap.IsTuple b its2.toArray from p2) (show s1.heap.IsTuple c its3.toArray from p3) fun h' hz hTI hTO h1 h2 h3 hsz hk => wpAny_pyIter_zip hz ?_
        have I2 : Inv X pins σ H1 { s1 with heap := h' } := I1.kept (t' := s1.toks) hk
        exact ⟨s1.heap.objs.size + 5, [s1.heap.objs.size + 5, s1.heap.objs.size + 3, s1.heap.objs.size + 4, s1.heap.objs.size, s1.heap.objs.size + 1, s1.heap.objs.size + 2], _, _, H1, rfl, I2, turn_zip3 (apart_new s1.heap.objs.size a b c (Heap.lt_size ho1) (Heap.lt_size ho2) (Heap.lt_size ho3)), ⟨hz, hTI, ⟨_, _, _, hTO⟩, h1, h2, h3⟩, fresh6, q⟩
end
end RZ3
namespace M
open PySem L2 RZ3
def zipD3 (xs ys zs : List D) : List D := (xs.zip (ys.zip zs)).map fun p => .tup [p.1, p.2.1, p.2.2]
def zip3F : List D → R (List D)
  | [.tup xs, .tup ys, .tup zs] => if xs.length = ys.length ∧ ys.length = zs.length then .ok (zipD3 xs ys zs) else .fail
  | _ => .fail
theorem zipD3_get {xs ys zs : List D} {i : Nat} {d : D} (h : (zipD3 xs ys zs)[i]? = some d) : ∃ x y z, xs[i]? = some x ∧ ys[i]? = some y ∧ zs[i]? = some z ∧ d = .tup [x, y, z] := by
  unfold zipD3 at h
  rw [List.getElem?_map] at h
  cases e : (xs.zip (ys.zip zs))[i]? with
  | none => rw [e] at h; cases h
  | some p =>
    rw [e] at h
    have h : D.tup [p.1, p.2.1, p.2.2] = d := Option.some.inj h
    rw [List.getElem?_zip_eq_some] at e
    obtain ⟨e1, e2⟩ := e
    rw [List.getElem?_zip_eq_some] at e2
    exact ⟨p.1, p.2.1, p.2.2, e1, e2.1, e2.2, h.symm⟩
theorem zipD3_length {xs ys zs : List D} (h : xs.length = ys.length) (h2 : ys.length = zs.length) : (zipD3 xs ys zs).length = xs.length := by
  unfold zipD3; rw [List.length_map, List.length_zip, List.length_zip]; omega
theorem itm_zip3 {k : Kn} {ki : List Nat} {G1 H1 : Hp} {S : Env} {σ : L2.St} {K : PySem.W.Frag} {ds es fs : List D} {vs us ws : List V} {p q r : Addr} (hl : ds.length = es.length) (hl2 : es.length = fs.length) (r1 : RDs k G1 ds vs) (r2 : RDs k G1 es us) (r3 : RDs k G1 fs ws) (h1 : SqT K G1 p vs) (h2 : SqT K G1 q us) (h3 : SqT K G1 r ws) : Itm k ki G1 S σ H1 (Itz3 K p q r) (zipD3 ds es fs) := fun G H e1 e2 kp => by
  have q1 : SqT K H p vs := e2.sqT (e1.sqT h1)
  have q2 : SqT K H q us := e2.sqT (e1.sqT h2)
  have q3 : SqT K H r ws := e2.sqT (e1.sqT h3)
  refine ⟨fun i hi => ⟨vs, q1, by rw [zipD3_length hl hl2] at hi; rw [← r1.length]; exact hi⟩, fun i d hd => ?_⟩
  obtain ⟨x, y, z, hx, hy, hz, rfl⟩ := zipD3_get hd
  obtain ⟨v, hv, rv⟩ := (r1.mono e1).get hx
  obtain ⟨u, hu, ru⟩ := (r2.mono e1).get hy
  obtain ⟨w, hw, rw'⟩ := (r3.mono e1).get hz
  refine ⟨⟨vs, us, ws, v, u, w, q1, q2, q3, hv, hu, hw⟩, fun x' H' hx' => ?_⟩
  obtain ⟨T, a, b, c, rfl, hT, rfl, z1, z2, z3⟩ := hx'
  have := z1 vs q1; rw [hv] at this; cases this
  have := z2 us q2; rw [hu] at this; cases this
  have := z3 ws q3; rw [hw] at this; cases this
  exact ⟨_, Step.new e2 hT, .tup (SqU.of upd_same) (.cons (rv.mono (Ex.new (e2.free hT))) (.cons (ru.mono (Ex.new (e2.free hT))) (.cons (rw'.mono (Ex.new (e2.free hT))) .nil)))⟩
theorem i_zip3 {X : Cx} {c : Cf} {e e2 e3 : Expr} {fa : FA} {p pos tpos : Pos} {elts : List Expr} {kk : Nat} (hk : c.k.K = X.K) (hm : X.mg "zip" = none) (ha : PA' X c false [e, e2, e3] fa) (hg : Gl X "zip" := by rfl)
    (hs : starEach [e, e2, e3] X.env = (false, eval e X.env) :: starEach [e2, e3] X.env := by rfl) (hpl : (backTo pos (starEach [e2, e3] X.env)).any (·.1) = false := by rfl) :
    PI' X c [] (.Tuple elts kk tpos) (.Call (.Name "zip" p) [e, e2, e3] [] pos) (fun S => fa S >>= zip3F) := by
  constructor
  intro pins st σ H Rq I q
  refine (pi_zip3 hg hm ha hs hpl).run pins st σ H Rq I ?_
  obtain ⟨G, S, rel, p⟩ := q
  have p : PostI c [] G S σ H Rq (fa S >>= zip3F) := p
  refine ⟨G, S, rel, ?_⟩
  cases e1 : fa S with
  | exc x => rw [e1] at p; exact p
  | fail => rw [e1] at p; exact p
  | ok ds =>
    rw [e1, R.ok_bind] at p
    intro vs G' H' sp q
    have q : RDs c.k G' ds vs := q
    unfold zip3F at p
    split at p
    · split at p
      · rename_i xs ys zs hl
        cases q with
        | cons qa qb =>
          cases qb with
          | cons qb qc =>
            cases qc with
            | cons qc qd =>
              cases qd
              cases qa with
              | tup h r =>
                cases qb with
                | tup h' r' =>
                  cases qc with
                  | tup h'' r'' => exact ⟨_, _, _, _, _, _, rfl, hk ▸ sp.gh.sqT h.t, hk ▸ sp.gh.sqT h'.t, hk ▸ sp.gh.sqT h''.t, p _ G' H' sp (itm_zip3 hl.1 hl.2 r r' r'' (hk ▸ h.t) (hk ▸ h'.t) (hk ▸ h''.t))⟩
      · exact p.elim
    · exact p.elim
end M
set_option Elab.async false
set_option linter.all false
set_option maxRecDepth 100000
set_option maxHeartbeats 4000000
namespace M
open PySem L2 PySem.W PySem.Calls PyProof.Rows
section
variable {Mo : Model} {A : Around} {E : Value → Shared → Prop} {s : Shared} {env : PySem.Env} {pos : Pos} {a C : Addr} {first : List Value} {Q : Value → Shared → Prop}
def InstNow (h : Heap) (a : Addr) : Prop := ∃ C ox od, InstAt h a ox C od ∧ ox.data = .plain
theorem co_of {args : List (Bool × Sem Value)} {keywords : List (Option Str × Sem Value)} (hplain : (args.any (·.1) || keywords.any (·.1.isNone)) = false)
    (h : wpAny Mo A (evalArgs (.ref a) true args keywords) (fun z s₁ => InstNow s₁.heap a ∧ wpAny Mo A (call (.ref a) (first ++ z.pos) z.kw) Q E s₁) E s) : wpAny Mo A (callWith pos (.ref a) first args keywords) Q E s := by
  unfold callWith
  refine wpAny_bind (wpAny_holding (wpAny_mono h (fun z s₁ h₁ => wpAny_bind (wpAny_standAt ?_)) fun _ _ y => y))
  obtain ⟨⟨C, ox, od, I, hd⟩, h₁⟩ := h₁
  have L := kco_keeper (M := Mo) I hd
  simp only [hplain]
  refine wpAny_bind (L.here ?_)
  have tail : ∀ {t : Sem Value}, wpAny Mo A t Q E s₁ → wpAny Mo A (t >>= fun r => holding [r] point >>= fun _ => pure r) Q E s₁ :=
    fun ht => wpAny_bind (wpAny_mono ht (fun r s₂ hr => wpAny_bind (wpAny_holding (wpAny_point (wpAny_pure hr)))) fun _ _ y => y)
  exact tail (wpAny_operateT h₁)
theorem co_callWith {e : Expr} {rest : List Expr} (h : wpAny Mo A (spliced (backTo pos (starEach (e :: rest) env))) (fun vs s₁ => InstNow s₁.heap a ∧ wpAny Mo A (call (.ref a) (first ++ vs)) Q E s₁) E s)
    (he : starEach (e :: rest) env = (false, eval e env) :: starEach rest env := by rfl) (hplain : (backTo pos (starEach rest env)).any (·.1) = false := by rfl) :
    wpAny Mo A (callWith pos (.ref a) first (backTo pos (starEach (e :: rest) env)) []) Q E s := by
  rw [he] at h ⊢
  exact co_of (by show ((false || (backTo pos (starEach rest env)).any (·.1)) || false) = false; rw [hplain]; rfl) (evalArgs_plain h)
end
section
variable {X : Cx} {k : Nat} {C f : Addr} {fd : FuncData} {ps : List Str} {sp : Sp} {E : XK} {CX : CXT}
theorem run_callO {pins : List (Addr × Obj)} {σ : L2.St} {H : Hp} {s : Shared} {Q : VK} {us : List Value} {vs : List V} {a dx : Addr} {fs : List (Str × V)} (F : FnOk X.prog X.w X.K X.mg X.base CX k f fd ps sp) (hr : Room k X.A) (hm : Meth X.K C "__call__" f) (hf : fnIn X.K f = true) (hb : Binds X.K fd ps []) (hx : Passes CX X E)
    (I : Inv X pins σ H s) (ha : H a = some (.ins C dx fs)) (r : Vals vs us) (h : sp (.ref a :: vs) H Q E) : wpAny (model X.prog X.w) X.A (call (.ref a) us) (EP X pins σ Q) X.xe s := by
  obtain ⟨mA, J, _⟩ := ins_get I.hok ha
  obtain ⟨od, J, _⟩ := J.look
  have r2 : Vals (.ref a :: vs) (.ref a :: us) := .cons rfl r
  have hl : (Value.ref a :: us).length = ps.length := by rw [← r2.length]; exact F.len _ _ _ _ h
  refine wpAny_call (kco_code I.kIn J rfl hm.at_ hm.fn hf (codeAny_mono (F.run X.A X.stack s H ⟨.ref a :: us, []⟩ (.ref a :: us) (.ref a :: vs) Q E hr I.env0 (by simpa using hb s (.ref a :: us) I.kIn (by simpa using hl)) r2 h) fun r s' hq => ?_))
  cases r with
  | error e => exact hx pins σ H s e s' I hq
  | ok fl =>
    cases fl with
    | ret u => exact I.after hq
    | next => exact False.elim hq
    | brk => exact False.elim hq
    | cont => exact False.elim hq
def tCallO (C : Addr) (sp : Sp) (E : XK) (ta : TE) (t : TA) : TE := fun σ H Q => ta σ H fun x H1 => ∃ a, x = .ref a ∧ t σ H1 fun vs H2 => (∃ dx fs, H2 a = some (.ins C dx fs)) ∧ sp (.ref a :: vs) H2 Q E
theorem inst_now {pins : List (Addr × Obj)} {σ : L2.St} {H : Hp} {s : Shared} {a dx : Addr} {fs : List (Str × V)} (I : Inv X pins σ H s) (ha : H a = some (.ins C dx fs)) : InstNow s.heap a := by
  obtain ⟨mA, J, _⟩ := ins_get I.hok ha
  obtain ⟨od, J, _⟩ := J.look
  exact ⟨C, _, _, J, rfl⟩
theorem pe_callO {x : Str} {p pos : Pos} {e : Expr} {es : List Expr} {ta : TE} {t : TA} (he : PE X (.Name x p) ta) (F : FnOk X.prog X.w X.K X.mg X.base CX k f fd ps sp) (hr : Room k X.A) (hm : Meth X.K C "__call__" f) (hf : fnIn X.K f = true) (hb : Binds X.K fd ps []) (hx : Passes CX X E) (ha : PA X (e :: es) t)
    (hst : starEach (e :: es) X.env = (false, eval e X.env) :: starEach es X.env := by rfl) (hpl : (backTo pos (starEach es X.env)).any (·.1) = false := by rfl) : PE X (.Call (.Name x p) (e :: es) [] pos) (tCallO C sp E ta t) := by
  refine ⟨fun pins s σ H Q I h => ?_⟩
  refine wpAny_Call_Name_kw (thn (he.run pins s σ H _ I h) fun u s1 ⟨v, H1, I1, r1, a, ea, q1⟩ => ?_)
  subst ea
  obtain rfl : u = Value.ref a := r1
  refine co_callWith (thn (ha.run pos pins s1 σ H1 _ I1 q1) fun us s2 ⟨vs, H2, I2, r, ⟨dx, fs, hi⟩, q⟩ => ⟨inst_now I2 hi, ?_⟩) hst hpl
  exact run_callO F hr hm hf hb hx I2 hi r q
theorem pe_callOF {o : Expr} {m : Str} {apos pos : Pos} {e : Expr} {es : List Expr} {ta : TE} {t : TA} {pl : Sem Bool} (he : PE X o ta) (F : FnOk X.prog X.w X.K X.mg X.base CX k f fd ps sp) (hr : Room k X.A) (hm : Meth X.K C "__call__" f) (hf : fnIn X.K f = true) (hb : Binds X.K fd ps []) (hx : Passes CX X E) (ha : PA X (e :: es) t)
    (hst : starEach (e :: es) X.env = (false, eval e X.env) :: starEach es X.env := by rfl) (hpl : (backTo pos (starEach es X.env)).any (·.1) = false := by rfl)
    (ht : eval (.Call (.Attribute o m apos) (e :: es) [] pos) X.env = (do
      let ov ← eval o X.env
      standAt apos.atName
      let (f, first) ← holding [ov] (getMethod ov m pl)
      callWith pos f first (backTo pos (starEach (e :: es) X.env)) (backToKw pos (keywordEach [] X.env))) := by rfl) :
    PE X (.Call (.Attribute o m apos) (e :: es) [] pos) (tCallO C sp E (tFld X.K ta m) t) := by
  refine ⟨fun pins s σ H Q I h => ?_⟩
  refine PySem.W.methodCall_KW (pl := pl) (thn (he.run pins s σ H _ I h) fun u s1 ⟨x, H1, I1, rx, b, CB, dx, fs, v, ex, eb, c, n, l, q⟩ => ?_) ht
  subst ex
  obtain rfl : u = Value.ref b := rx
  obtain ⟨mA, J, _⟩ := ins_get I1.hok eb
  obtain ⟨od, J, _⟩ := J.look
  refine method_usual (r := none) I1.kIn J (plainGet_of (c.get m)).1 (plainGet_of (c.get m)).2 n rfl ?_
  refine getattr_ok I1 eb c n l fun u' s2 I2 ru => ?_
  obtain ⟨a, ea, q1⟩ := q
  subst ea
  obtain rfl : u' = Value.ref a := ru
  refine co_callWith (first := []) (thn (ha.run pos pins s2 σ H1 _ I2 q1) fun us s3 ⟨vs, H2, I3, r, ⟨dx', fs', hi⟩, q⟩ => ⟨inst_now I3 hi, ?_⟩) hst hpl
  exact run_callO F hr hm hf hb hx I3 hi r q
end
theorem FunD.fnIn {K : PySem.W.Frag} {x qual : Str} {params : Arguments} {body : List Stmt} {scope : Scope} {dvs : List V} {kws : List (Str × V)} {f : Addr} {fd : FuncData} (F : FunD K x qual params body scope dvs kws f fd) : fnIn K f = true := by
  obtain ⟨oc, od, dV, kV, doc, pm, an, cdv, ct, osl, rfl, lk, _⟩ := F.ex
  unfold PySem.W.fnIn
  rw [lk]
structure CallO (P : Program) (w : World) (K : PySem.W.Frag) (mg : Str → Option Value) (base : Heap) (k : Kn) (lv : Nat) (ci : Nat) (n : Nat) (den : List D → R D) : Prop where
  ex : ∃ (C f : Addr) (fd : FuncData) (ps nm : List Str), ps.length = n ∧ k.cl ci = some (C, nm) ∧ Meth K C "__call__" f ∧ fnIn K f = true ∧ FnOk P w K mg base CX0 lv f fd ps (SpF k false n den) ∧ Binds K fd ps []
section
variable {X : Cx} {c : Cf} {e : Expr} {f : FE} {pos apos : Pos} {den : List D → R D}
theorem callO_go {ci n : Nat} {C : Addr} {nm : List Str} {fa : FA} {σ : L2.St} {H : Hp} {Q : VK} (hcl : c.k.cl ci = some (C, nm)) (hl : Len n fa) (q : RdE c .st (eM ci den f fa) σ H Q) :
    RdE c .st f σ H fun x H1 => ∃ a, x = .ref a ∧ RdA c false fa σ H1 fun vs H2 => (∃ dx fs, H2 a = some (.ins C dx fs)) ∧ SpF c.k false (n + 1) den (.ref a :: vs) H2 Q E0 := by
  obtain ⟨G, S, rel, p⟩ := q
  refine rdE_go (g := fun o => if o.isObj ci then fa S >>= fun ds => (den (o :: ds)).nox else .fail) (Post := PostE c .st G S σ H Q) rel p (fun _ z => z) (fun z => z) fun d v G1 H1 s1 q1 p1 => ?_
  by_cases ho : d.isObj ci = true
  · rw [if_pos ho] at p1
    cases d with
    | obj c' ds =>
      have hc : c' = ci := by simpa [D.isObj] using ho
      subst hc
      have q1 : RD c.k G1 (.obj c' ds) v := q1
      cases q1 with
      | @obj _ _ ad CA dx nm' vs' hcl' hG hr =>
        rw [hcl] at hcl'; cases hcl'
        refine ⟨ad, rfl, G1, S, rel.grow s1, ?_⟩
        cases e0 : fa S with
        | exc x => rw [e0] at p1; exact p1
        | fail => rw [e0] at p1; exact p1
        | ok as =>
          rw [e0] at p1
          intro vs G2 H2 s2 q2
          have q2 : RDs c.k G2 as vs := q2
          refine ⟨⟨dx, _, s2.gh _ _ (s2.g _ _ hG)⟩, by simp [← q2.length, hl S as e0], G2, .obj c' ds :: as, s2.gh, .cons (.obj hcl (s2.g _ _ hG) (hr.mono s2.g)) q2, ?_⟩
          have p1 : PostE c .st G S σ H Q (den (.obj c' ds :: as)).nox := p1
          cases e1 : den (.obj c' ds :: as) with
          | ok d => rw [e1] at p1; exact fun v G' H' s3 r3 => p1 v G' H' ((s1.trans s2).trans s3) (r3.mono (s1.h.trans s2.h))
          | exc x => rw [e1] at p1; exact p1.elim
          | fail => rw [e1] at p1; exact p1.elim
    | _ => simp [D.isObj] at ho
  · rw [if_neg ho] at p1; exact p1.elim
theorem d_callO {lv m' : Nat} (ci : Nat) {x : Str} {p : Pos} {n : Nat} {es : List Expr} {fa : FA} (F : CallO X.prog X.w X.K X.mg X.base c.k lv ci (n + 1) den) (hr : Room m' X.A) (hle : lv ≤ m') (ho : PE' X c .st (.Name x p) f) (ha : PA' X c false (e :: es) fa) (hl : Len n fa)
    (hst : starEach (e :: es) X.env = (false, eval e X.env) :: starEach es X.env := by rfl) (hpl : (backTo pos (starEach es X.env)).any (·.1) = false := by rfl) : PE' X c .st (.Call (.Name x p) (e :: es) [] pos) (eM ci den f fa) := by
  obtain ⟨C, fa', fd, ps, nm, hn, hcl, mt, hf, ok, bd⟩ := F.ex
  exact peI (pe_callO ho ok (hr.mono hle) mt hf bd pass0 ha hst hpl) fun σ H Q q => callO_go hcl hl q
theorem fld_goT {ci j : Nat} {fn : Str} {nm : List Str} {k1 : Kd} {σ : L2.St} {H : Hp} {Q : VK} (C : ClsI X.K c.k ci nm) (hj : nm[j]? = some fn) (q : RdE c .st (e1 (fldD ci j) f) σ H Q) : tFld X.K (RdE c k1 f) fn σ H Q :=
  e1_go (r := fun x H1 Q => ∃ a C dx fs v, x = .ref a ∧ H1 a = some (.ins C dx fs) ∧ Cls X.K C ∧ NoAttr X.K C fn ∧ fs.lookup fn = some v ∧ Q v H1) (fun G H d u r ex n hg Q p => by
    cases d with
    | obj c' ds =>
      simp only [fldD] at hg
      split at hg
      · rename_i hc
        subst hc
        split at hg
        · rename_i d' hd
          cases hg
          obtain ⟨ad, CA, dx, nm', vs, rfl, hcl, ha, hr⟩ := n.obj ex
          obtain ⟨CA', hcl', cl, na⟩ := C.ex
          rw [hcl] at hcl'; cases hcl'
          obtain ⟨v, hv, rv⟩ := hr.get hd
          exact ⟨ad, CA, dx, _, v, rfl, ha, cl, na _ (List.mem_of_getElem? hj), zip_lookup C.nd hj hv, p v G H (Step.refl ex) rv⟩
        · cases hg
      · cases hg
    | _ => simp [fldD] at hg) q
theorem d_callOF {lv m' : Nat} (ci cj j : Nat) {fn : Str} {nm : List Str} {o : Expr} {k1 : Kd} {n : Nat} {es : List Expr} {fa : FA} {pl : Sem Bool} (F : CallO X.prog X.w X.K X.mg X.base c.k lv ci (n + 1) den) (hr : Room m' X.A) (hle : lv ≤ m') (CC : ClsI X.K c.k cj nm) (hj : nm[j]? = some fn) (ho : PE' X c k1 o f) (ha : PA' X c false (e :: es) fa) (hl : Len n fa)
    (hst : starEach (e :: es) X.env = (false, eval e X.env) :: starEach es X.env := by rfl) (hpl : (backTo pos (starEach es X.env)).any (·.1) = false := by rfl)
    (ht : eval (.Call (.Attribute o fn apos) (e :: es) [] pos) X.env = (do
      let ov ← eval o X.env
      standAt apos.atName
      let (f, first) ← holding [ov] (getMethod ov fn pl)
      callWith pos f first (backTo pos (starEach (e :: es) X.env)) (backToKw pos (keywordEach [] X.env))) := by rfl) :
    PE' X c .st (.Call (.Attribute o fn apos) (e :: es) [] pos) (eM ci den (e1 (fldD cj j) f) fa) := by
  obtain ⟨C, fa', fd, ps, nm', hn, hcl, mt, hf, ok, bd⟩ := F.ex
  exact peI (pe_callOF ho ok (hr.mono hle) mt hf bd pass0 ha hst hpl ht) fun σ H Q q => fld_goT CC hj (callO_go hcl hl q)
end
end M
set_option Elab.async false
set_option linter.all false
set_option maxRecDepth 100000
set_option maxHeartbeats 4000000
namespace M
open PySem L2 PySem.W PySem.Calls PyProof.Rows
section
variable {X : Cx} {k : Kn}
def bestAt (ds : List PyData) (n : Nat) : Nat := argBest (fun i j => PySem.W.dataLt (ds.getD i .none) (ds.getD j .none)) n
def rMinT (X : Cx) : List V → Hp → VK → Prop := fun vs H Q => ∃ a xs ds, vs = [V.ref a] ∧ SqL X.K H a xs ∧ DpAll X.K H xs ds ∧ 0 < xs.length ∧ AlikeAll ds ∧ PyData.depthAll ds ≤ 60 ∧ ∀ v, xs[bestAt ds (xs.length - 1)]? = some v → Q v H
theorem vals_atT {vs : List V} {us : List Value} (r : Vals vs us) : ∀ {i : Nat} {u : Value}, us[i]? = some u → ∃ v, vs[i]? = some v ∧ RelV v u := by
  induction r with
  | nil => intro i u h; simp at h
  | cons a r ih =>
    intro i u h
    cases i with
    | zero => simp at h; subst h; exact ⟨_, rfl, a⟩
    | succ i => simp at h; obtain ⟨v, h1, h2⟩ := ih h; exact ⟨v, by simpa using h1, h2⟩
theorem cr_minT (hc : X.calm = true) (hu : X.A.units + 64 < cLine) : CallR X (.builtin "min") (rMinT X) := by
  intro pins s σ H vs us Q I r h
  obtain ⟨a, xs, ds, rfl, hs, hd, hn, hal, hdp, q⟩ := h
  obtain ⟨u, rfl, ru⟩ := vals1 r
  cases ru
  obtain ⟨its, rv, pl, hz⟩ := I.list hs
  obtain ⟨as, hr⟩ := Dp.readsAll I ds xs its hd rv
  have hlen : xs.length = its.length := rv.length
  have hl := pl.isList
  refine call_min_walkH (iter_listW (A := X.A.in1) (I.ok.hd hc) hl fun s₂ e W st hfp hw hk => ?_)
  refine ⟨_, _, _, _, _, _, _, s.heap, _, rfl, W, st, hfp, by rw [List.size_toArray]; omega, hw, hk, cmpIn_lt (A := X.A.in1) (by simpa using hr) hal (by show X.A.units + 1 + _ < _; omega), fun v s' hP m => ?_⟩
  obtain ⟨h', tk, rfl, hk'⟩ := moved_old e rfl m
  have hP : its.toArray[bestAt ds (its.toArray.size - 1)]? = some v := hP
  rw [List.size_toArray, ← hlen] at hP
  obtain ⟨w, h1, h2⟩ := vals_atT rv (by simpa using hP)
  exact ⟨w, H, I.kept hk', h2, q w h1⟩
theorem depthAll_le {b : Nat} : ∀ {ds : List PyData}, (∀ d ∈ ds, d.depth ≤ b) → PyData.depthAll ds ≤ b
  | [], _ => Nat.zero_le _
  | d :: ds, h => Nat.max_le.mpr ⟨h d (by simp), depthAll_le fun x hx => h x (by simp [hx])⟩
def minTD : D → R D
  | .lst ds => if srtOk ds = true then (match ds[bestAt (D.toPs ds) (ds.length - 1)]? with
    | some d => .ok d
    | none => .fail) else .fail
  | _ => .fail
theorem c_minT (hc : X.calm = true) (hk : k.K = X.K) (hu : X.A.units + 64 < cLine) : ClR X k (.builtin "min") .st (f1 minTD) := cl1 (cr_minT hc hu) fun G H x v d e n hg Q p => by
  cases x <;> simp only [minTD] at hg <;> first | (cases hg; done) | skip
  split at hg
  · rename_i ho
    split at hg
    · rename_i d' hd'
      cases hg
      obtain ⟨a, vs, rfl, ha, r⟩ := n.lst e
      have hd : doks 59 _ = true := (by unfold srtOk at ho; simp only [Bool.and_eq_true] at ho; exact ho.1.1)
      have hl := r.length
      have hlt := (List.getElem?_eq_some_iff.mp hd').1
      refine ⟨a, vs, _, rfl, SqL.of ha, hk ▸ (r.mono e).dp 59 hd, by omega, ⟨fun p hp q hq => ?_, fun q hq => ?_⟩, depthAll_le fun q hq => ?_, fun v hv => ?_⟩
      · obtain ⟨d1, h1, rfl⟩ := toPs_mem hp
        obtain ⟨d2, h2, rfl⟩ := toPs_mem hq
        unfold srtOk at ho
        simp only [Bool.and_eq_true, List.all_eq_true] at ho
        exact alikeD_of _ _ (ho.1.2 d1 h1 d2 h2)
      · obtain ⟨d1, h1, rfl⟩ := toPs_mem hq
        unfold srtOk at ho
        simp only [Bool.and_eq_true, List.all_eq_true] at ho
        have h3 := ho.2 d1 h1
        intro z
        have h4 := doks_mem hd h1
        cases d1 <;> first | (simp [D.toP] at z; done) | (simp [srtItem] at h3; done) | (simp [dok] at h4; done)
      · obtain ⟨d1, h1, rfl⟩ := toPs_mem hq
        have := (dok_lay 59 d1 (doks_mem hd h1)).2
        omega
      · rw [← hl] at hv
        obtain ⟨v', h1, h2⟩ := r.get hd'
        rw [h1] at hv; cases hv
        exact p _ G H (Step.refl e) h2
    · cases hg
  · cases hg
end
end M
set_option Elab.async false
set_option linter.all false
set_option maxRecDepth 100000
set_option maxHeartbeats 4000000
namespace Pf
open PySem L2 M
structure Bt (mg : Str → Option Value) : Prop where
  abs : mg "abs" = none
  any : mg "any" = none
  bool : mg "bool" = none
  enumerate : mg "enumerate" = none
  int : mg "int" = none
  isinstance : mg "isinstance" = none
  len : mg "len" = none
  list : mg "list" = none
  max : mg "max" = none
  min : mg "min" = none
  range : mg "range" = none
  set : mg "set" = none
  sorted : mg "sorted" = none
  sum : mg "sum" = none
  tuple : mg "tuple" = none
  zip : mg "zip" = none
section
variable {P : Program} {w : World} {K : PySem.W.Frag} {mg : Str → Option Value} {base : Heap} {cl : Nat → Option (Addr × List Str)}
def m_check_nodes : FS :=
    (sSeq (sIf (tNo (tB' (e3 leD leD (eI (1)) (eC (f1 lenD) (aC (eW 0) aN)) (eG gv_MOST_NODES)))) sNo sNil)
    (sFor (fun S => (eV 0) S >>= itemsD) (gT 2 (gsC (gN 1) (gsC (gN 2) gsN))) (sSeq (sIf (tNo (tB' (e3 leD leD (eI (1)) (eC (f1 lenD) (aC (eW 1) aN)) (eG gv_LONGEST_PLAN)))) sNo sNil)
    (sSeq (sIf (tT' (eC (f1 anyD) (aC (lcE (fun S => (eV 1) S >>= itemsD) (gN 3) tY (e2 notInA (eW 3) (eG gv_ENTRIES)) [3]) aN))) sNo sNil)
    (sIf (tNo (tB' (e3 leD leD (eC (f1 lenD) (aC (eW 1) aN)) (eW 2) (eG gv_LONGEST_TIME)))) sNo sNil)))))
def d_check_nodes : List D → R D := fun ds => (runF false 4 m_check_nodes ds).nox
theorem sc_check_nodes : FnScope ["nodes", "plan", "due", "entry"] ["nodes"] (defScope st_check_nodes) := ⟨rfl, rfl, rfl, by decide +kernel, rfl, by decide +kernel, by decide +kernel⟩
theorem ok_check_nodes {f : Addr} {fd : FuncData} (F : FunD K "check_nodes" "check_nodes" (defArgs st_check_nodes) (defBody st_check_nodes) (defScope st_check_nodes) [] [] f fd) (mgf : mg "check_nodes" = some (.ref f)) (B : Bt mg) (g_MOST_NODES : Gc mg ⟨K, cl⟩ "MOST_NODES" gv_MOST_NODES) (g_LONGEST_PLAN : Gc mg ⟨K, cl⟩ "LONGEST_PLAN" gv_LONGEST_PLAN) (g_ENTRIES : Gc mg ⟨K, cl⟩ "ENTRIES" gv_ENTRIES) (g_LONGEST_TIME : Gc mg ⟨K, cl⟩ "LONGEST_TIME" gv_LONGEST_TIME) : Callee P w K mg base ⟨K, cl⟩ 1 "check_nodes" 1 false d_check_nodes := by
  have nd : (["nodes", "plan", "due", "entry"] : List Str).Nodup := sc_check_nodes.nd
  have z := fn_ok (P := P) (w := w) (mg := mg) (base := base) (k := ⟨K, cl⟩) (fr := false) (lv := 0) (as := [1, 2]) (s := m_check_nodes) F sc_check_nodes fun cdv A outer sh H G0 hr => by
    have hu := hr.units
    have hu5 := hr.units5
    exact (b_cons (s_if (d_not (d_tch (o_le) (o_le) d_int (d_bltn (c_len rfl) B.len (d_ab (d_w 0) d_an)) (d_g g_MOST_NODES))) (b_one s_no) b_nil)
    (b_one (s_for PassesOwn.never rfl (i_seq rfl (d_v 0)) (g_t rfl rfl (gs_c (g_n 1 nd) (gs_c (g_n 2 nd) gs_n))) (b_cons (s_if (d_not (d_tch (o_le) (o_le) d_int (d_bltn (c_len rfl) B.len (d_ab (d_w 1) d_an)) (d_g g_LONGEST_PLAN))) (b_one s_no) b_nil)
    (b_cons (s_if (d_tt rfl (d_bltn (c_any rfl) B.any (d_ab (d_lc [("entry", 3)] rfl nd (i_seq rfl (d_v 1)) (blkOk_by (N := ["nodes", "plan", "due", "entry"]) (sc := (defScope st_check_nodes)) (by decide +kernel)) (fun _ _ _ _ _ => (g_n 3 nd)) (fun _ _ _ _ _ => ts_n) (fun _ _ _ _ _ => (d_cmp (o_notinA rfl hu5) (d_w 3) (d_g g_ENTRIES)))) d_an))) (b_one s_no) b_nil)
    (b_one (s_if (d_not (d_tch (o_le) (o_le) (d_bltn (c_len rfl) B.len (d_ab (d_w 1) d_an)) (d_w 2) (d_g g_LONGEST_TIME))) (b_one s_no) b_nil)))))))
  exact ⟨f, fd, ["nodes"], rfl, z, mgf, F.kp, F.bindsN fun _ _ _ _ _ _ us hl => match us, hl with | [_], _ => rfl⟩
def m_check_edges : FS :=
    (sSeq (sFor (fun S => (eV 1) S >>= itemsD) (gT 3 (gsC (gN 2) (gsC (gN 3) (gsC (gN 4) gsN)))) (sSeq (sIf (tO (tNo (tB' (e3 leD ltD (eI (0)) (eW 2) (eC (f1 lenD) (aC (eW 0) aN))))) (tNo (tB' (e3 leD ltD (eI (0)) (eW 3) (eC (f1 lenD) (aC (eW 0) aN)))))) sNo sNil)
    (sIf (tNo (tB' (e3 leD leD (e2 ixA (e2 ixA (eW 0) (eW 2)) (eI (1))) (eW 4) (eG gv_LONGEST_TIME)))) sNo sNil)))
    (sIf (tB' (e2 ltD (lenSc (fun S => (eV 1) S >>= itemsD) (gT 3 (gsC (gN 2) (gsC (gN 3) (gsC (gN 4) gsN)))) tY (eT (aC (eV 2) (aC (eV 3) aN))) [2, 3, 4]) (eC (f1 lenD) (aC (eW 1) aN)))) sNo sNil))
def d_check_edges : List D → R D := fun ds => (runF false 5 m_check_edges ds).nox
theorem sc_check_edges : FnScope ["nodes", "edges", "u", "v", "gap"] ["nodes", "edges"] (defScope st_check_edges) := ⟨rfl, rfl, rfl, by decide +kernel, rfl, by decide +kernel, by decide +kernel⟩
theorem ok_check_edges {f : Addr} {fd : FuncData} (F : FunD K "check_edges" "check_edges" (defArgs st_check_edges) (defBody st_check_edges) (defScope st_check_edges) [] [] f fd) (mgf : mg "check_edges" = some (.ref f)) (B : Bt mg) (g_LONGEST_TIME : Gc mg ⟨K, cl⟩ "LONGEST_TIME" gv_LONGEST_TIME) : Callee P w K mg base ⟨K, cl⟩ 1 "check_edges" 2 false d_check_edges := by
  have nd : (["nodes", "edges", "u", "v", "gap"] : List Str).Nodup := sc_check_edges.nd
  have z := fn_ok (P := P) (w := w) (mg := mg) (base := base) (k := ⟨K, cl⟩) (fr := false) (lv := 0) (as := [2, 3, 4]) (s := m_check_edges) F sc_check_edges fun cdv A outer sh H G0 hr => by
    have hu := hr.units
    have hu5 := hr.units5
    exact (b_cons (s_for PassesOwn.never rfl (i_seq rfl (d_v 1)) (g_t rfl rfl (gs_c (g_n 2 nd) (gs_c (g_n 3 nd) (gs_c (g_n 4 nd) gs_n)))) (b_cons (s_if (d_pw (d_or (d_not (d_tch (o_le) (o_lt) d_int (d_w 2) (d_bltn (c_len rfl) B.len (d_ab (d_w 0) d_an)))) (d_or1 (d_not (d_tch (o_le) (o_lt) d_int (d_w 3) (d_bltn (c_len rfl) B.len (d_ab (d_w 0) d_an))))))) (b_one s_no) b_nil)
    (b_one (s_if (d_not (d_tch (o_le) (o_le) (d_ix (o_ixA rfl hu5) (d_ix (o_ixA rfl hu5) (d_w 0) (d_w 2)) d_int) (d_w 4) (d_g g_LONGEST_TIME))) (b_one s_no) b_nil))))
    (b_one (s_if (d_tc (o_lt) (d_lenSc [("u", 2), ("v", 3), ("gap", 4)] rfl hu B.len rfl nd (i_seq rfl (d_v 1)) (blkOk_by (N := ["nodes", "edges", "u", "v", "gap"]) (sc := (defScope st_check_edges)) (by decide +kernel)) (fun _ _ _ _ _ => (g_t rfl rfl (gs_c (g_n 2 nd) (gs_c (g_n 3 nd) (gs_c (g_n 4 nd) gs_n))))) (fun _ _ _ _ _ => ts_n) (fun _ _ _ _ _ => (d_tup (d_ac (d_v 2) (d_ac (d_v 3) d_an))))) (d_bltn (c_len rfl) B.len (d_ab (d_w 1) d_an))) (b_one s_no) b_nil)))
  exact ⟨f, fd, ["nodes", "edges"], rfl, z, mgf, F.kp, F.bindsN fun _ _ _ _ _ _ us hl => match us, hl with | [_, _], _ => rfl⟩
def m_Task : FS :=
    (sSeq (sFldN 4 0 0 (eC (f1 tupD) (aC (lcE (fun S => (eV 1) S >>= itemsD) (gT 2 (gsC (gN 4) (gsC (gN 5) gsN))) tY (eT (aC (eC (f1 tupD) (aC (eW 4) aN)) (aC (eV 5) aN))) [4, 5]) aN)))
    (sSeq (sFldN 4 0 1 (eC (f1 tupD) (aC (eC (f1 srtAD) (aC (lcE (fun S => (eV 2) S >>= itemsD) (gN 6) tY (eC (f1 tupD) (aC (eW 6) aN)) [6]) aN)) aN)))
    (sSeq (sFldN 4 0 2 (eV 3))
    (sSeq (sDrop (eC d_check_nodes (aC (e1 (fldD 4 0) (eW 0)) aN)))
    (sSeq (sDrop (eC d_check_edges (aC (e1 (fldD 4 0) (eW 0)) (aC (e1 (fldD 4 1) (eW 0)) aN))))
    (sSeq (sIf (tA (tT' (eW 3)) (tO (tB' (e2 neD (eC (f1 lenD) (aC (e1 (fldD 4 0) (eW 0)) aN)) (eI (1)))) (tB' (e2 neD (eC (f1 lenD) (aC (e1 (fldD 4 1) (eW 0)) aN)) (eI (1)))))) sNo sNil)
    (sFldN 4 0 3 (eC (f1 tupD) (aC (lcE (fun S => (aC (e1 (fldD 4 0) (eW 0)) aN) S >>= enumerateF) (gT 2 (gsC (gN 7) (gsC (gT 2 (gsC (gN 4) (gsC (gN 5) gsN))) gsN))) tY (eC (f1 maxD) (aC (e2 addD (eL (aC (eV 5) aN)) (lcE (fun S => (e1 (fldD 4 1) (eW 0)) S >>= itemsD) (gT 3 (gsC (gN 8) (gsC (gN 9) (gsC (gN 10) gsN)))) (tB' (e2 eqD (eW 8) (eW 7))) (eV 10) [8, 9, 10])) aN)) [7, 4, 5]) aN)))))))))
def d_Task : List D → R D := fun ds => (runN 11 4 m_Task ds).nox
theorem sc_Task : FnScope ["self", "nodes", "edges", "steady", "plan", "due", "edge", "node", "u", "v", "gap"] ["self", "nodes", "edges", "steady"] (defScope st_Task) := ⟨rfl, rfl, rfl, by decide +kernel, rfl, by decide +kernel, by decide +kernel⟩
theorem ok_Task {C f : Addr} {fd : FuncData} (F : FunD K "__init__" "Task.__init__" (defArgs st_Task) (defBody st_Task) (defScope st_Task) [] [("steady", .bl false)] f fd) (hcl : cl 4 = some (C, (["nodes", "edges", "steady", "caps"] : List Str))) (mk : Mk K C f) (mgf : mg "Task" = some (.ref C)) (B : Bt mg) (C_Task : ClsI K ⟨K, cl⟩ 4 (["nodes", "edges", "steady", "caps"] : List Str)) (h_check_nodes : Callee P w K mg base ⟨K, cl⟩ 1 "check_nodes" 1 false d_check_nodes) (h_check_edges : Callee P w K mg base ⟨K, cl⟩ 1 "check_edges" 2 false d_check_edges) : MakeK P w K mg base ⟨K, cl⟩ 2 "Task" 4 2 ["steady"] d_Task := by
  have nd : (["self", "nodes", "edges", "steady", "plan", "due", "edge", "node", "u", "v", "gap"] : List Str).Nodup := sc_Task.nd
  have z := init_ok (P := P) (w := w) (mg := mg) (base := base) (k := ⟨K, cl⟩) (ci := 4) (lv := 1) (as := [1000, 1000, 1000, 1000]) (s := m_Task) F sc_Task (by decide) fun cdv A outer sh H H0 G0 hr => by
    have hu := hr.units
    have hu5 := hr.units5
    exact (b_cons (s_fld 4 0 0 C_Task rfl (d_btyp (c_tup rfl) B.tuple (d_ab (d_lc [("plan", 4), ("due", 5)] rfl nd (i_seq rfl (d_v 1)) (blkOk_by (N := ["self", "nodes", "edges", "steady", "plan", "due", "edge", "node", "u", "v", "gap"]) (sc := (defScope st_Task)) (by decide +kernel)) (fun _ _ _ _ _ => (g_t rfl rfl (gs_c (g_n 4 nd) (gs_c (g_n 5 nd) gs_n)))) (fun _ _ _ _ _ => ts_n) (fun _ _ _ _ _ => (d_tup (d_ac (d_btyp (c_tup rfl) B.tuple (d_ab (d_w 4) d_an)) (d_ac (d_v 5) d_an))))) d_an)))
    (b_cons (s_fld 4 0 1 C_Task rfl (d_btyp (c_tup rfl) B.tuple (d_ab (d_bltn (c_srtA rfl hu) B.sorted (d_ab (d_lc [("edge", 6)] rfl nd (i_seq rfl (d_v 2)) (blkOk_by (N := ["self", "nodes", "edges", "steady", "plan", "due", "edge", "node", "u", "v", "gap"]) (sc := (defScope st_Task)) (by decide +kernel)) (fun _ _ _ _ _ => (g_n 6 nd)) (fun _ _ _ _ _ => ts_n) (fun _ _ _ _ _ => (d_btyp (c_tup rfl) B.tuple (d_ab (d_w 6) d_an)))) d_an)) d_an)))
    (b_cons (s_fld 4 0 2 C_Task rfl (d_v 3))
    (b_cons (s_drop (d_callS (h_check_nodes.at hr (by decide)) (d_ac (d_fld 4 0 C_Task rfl (d_w 0)) d_an) (len_c len_n)))
    (b_cons (s_drop (d_callS (h_check_edges.at hr (by decide)) (d_ac (d_fld 4 0 C_Task rfl (d_w 0)) (d_ac (d_fld 4 1 C_Task rfl (d_w 0)) d_an)) (len_c (len_c len_n))))
    (b_cons (s_if (d_pw (d_and (d_tt rfl (d_w 3)) (d_and1 (d_pw (d_or (d_tc (o_ne rfl hu) (d_bltn (c_len rfl) B.len (d_ab (d_fld 4 0 C_Task rfl (d_w 0)) d_an)) d_int) (d_or1 (d_tc (o_ne rfl hu) (d_bltn (c_len rfl) B.len (d_ab (d_fld 4 1 C_Task rfl (d_w 0)) d_an)) d_int))))))) (b_one s_no) b_nil)
    (b_one (s_fld 4 0 3 C_Task rfl (d_btyp (c_tup rfl) B.tuple (d_ab (d_lc [("node", 7), ("plan", 4), ("due", 5)] rfl nd (i_enumerate rfl B.enumerate (d_ac (d_fld 4 0 C_Task rfl (d_w 0)) d_an)) (blkOk_by (N := ["self", "nodes", "edges", "steady", "plan", "due", "edge", "node", "u", "v", "gap"]) (sc := (defScope st_Task)) (by decide +kernel)) (fun _ _ _ _ _ => (g_t rfl rfl (gs_c (g_n 7 nd) (gs_c (g_t rfl rfl (gs_c (g_n 4 nd) (gs_c (g_n 5 nd) gs_n))) gs_n)))) (fun _ _ _ _ _ => ts_n) (fun _ _ _ _ _ => (d_bltn (c_max rfl) B.max (d_ab (d_op (o_add rfl) (d_lst (d_ac (d_v 5) d_an)) (d_lc [("u", 8), ("v", 9), ("gap", 10)] rfl nd (i_seq rfl (d_fld 4 1 C_Task rfl (d_w 0))) (blkOk_by (N := ["self", "nodes", "edges", "steady", "plan", "due", "edge", "node", "u", "v", "gap"]) (sc := (relS ({ kind := .function, names := [(".0", .local), ("node", .cell), ("plan", .local), ("due", .local), ("max", .globalImplicit), ("self", .free)], isGenerator := false, isCoroutine := false, more := [] } : Scope) (defScope st_Task))) (by decide +kernel)) (fun _ _ _ _ _ => (g_t rfl rfl (gs_c (g_n 8 nd) (gs_c (g_n 9 nd) (gs_c (g_n 10 nd) gs_n))))) (fun _ _ _ _ _ => (ts_1 (d_tc (o_eq rfl hu) (d_w 8) (d_w 7)))) (fun _ _ _ _ _ => (d_v 10)))) d_an)))) d_an))))))))))
  obtain ⟨mv, kb⟩ := F.kbinds0 (ps := ["self", "nodes", "edges", "steady"]) 3 ["steady"] [] (fun us _ ws => us ++ ws) (by decide) (fun q hq => nomatch hq) (fun r1 _ r3 => r1.append r3) (fun _ _ _ _ _ _ us mv ws l1 l2 l3 => match us, mv, ws, l1, l2, l3 with | [_, _, _], [], [_], _, _, _ => rfl)
  exact ⟨C, f, fd, ["self", "nodes", "edges", "steady"], (["nodes", "edges", "steady", "caps"] : List Str), _, hcl, mk, z, mgf, kb⟩
def m_Task_cap : FS :=
    (sRet (e2 ixA (e1 (fldD 4 3) (eW 0)) (eW 1)))
def d_Task_cap : List D → R D := fun ds => (runF false 2 m_Task_cap ds).nox
theorem sc_Task_cap : FnScope ["self", "node"] ["self", "node"] (defScope st_Task_cap) := ⟨rfl, rfl, rfl, by decide +kernel, rfl, by decide +kernel, by decide +kernel⟩
theorem ok_Task_cap {C f : Addr} {fd : FuncData} (F : FunD K "cap" "Task.cap" (defArgs st_Task_cap) (defBody st_Task_cap) (defScope st_Task_cap) [] [] f fd) (hcl : cl 4 = some (C, (["nodes", "edges", "steady", "caps"] : List Str))) (mc : Cls K C) (mk : Meth K C "cap" f) (B : Bt mg) (C_Task : ClsI K ⟨K, cl⟩ 4 (["nodes", "edges", "steady", "caps"] : List Str)) : Method P w K mg base ⟨K, cl⟩ 1 4 "cap" 2 false d_Task_cap := by
  have nd : (["self", "node"] : List Str).Nodup := sc_Task_cap.nd
  have z := fn_ok (P := P) (w := w) (mg := mg) (base := base) (k := ⟨K, cl⟩) (fr := false) (lv := 0) (as := []) (s := m_Task_cap) F sc_Task_cap fun cdv A outer sh H G0 hr => by
    have hu := hr.units
    have hu5 := hr.units5
    exact (b_one (s_ret (d_ix (o_ixA rfl hu5) (d_fld 4 3 C_Task rfl (d_w 0)) (d_w 1))))
  exact ⟨C, f, fd, ["self", "node"], (["nodes", "edges", "steady", "caps"] : List Str), rfl, hcl, by decide, mc, mk, z, F.bindsN fun _ _ _ _ _ _ us hl => match us, hl with | [_, _], _ => rfl⟩
def m_Task_unfinished : FS :=
    (sSeq (sAsg (gT 4 (gsC (gN 2) (gsC (gN 3) (gsC (gN 4) (gsC (gN 5) gsN))))) (eV 1))
    (sRet (eAnd (e2 geD (eW 2) (eI (0))) (eOr (e2 eqD (eW 5) (eI (1))) (e2 ltD (eW 4) (eC (f1 lenD) (aC (e2 ixA (e2 ixA (e1 (fldD 4 0) (eW 0)) (eW 2)) (eI (0))) aN)))))))
def d_Task_unfinished : List D → R D := fun ds => (runF false 6 m_Task_unfinished ds).nox
theorem sc_Task_unfinished : FnScope ["self", "status", "node", "age", "done", "over"] ["self", "status"] (defScope st_Task_unfinished) := ⟨rfl, rfl, rfl, by decide +kernel, rfl, by decide +kernel, by decide +kernel⟩
theorem ok_Task_unfinished {C f : Addr} {fd : FuncData} (F : FunD K "unfinished" "Task.unfinished" (defArgs st_Task_unfinished) (defBody st_Task_unfinished) (defScope st_Task_unfinished) [] [] f fd) (hcl : cl 4 = some (C, (["nodes", "edges", "steady", "caps"] : List Str))) (mc : Cls K C) (mk : Meth K C "unfinished" f) (B : Bt mg) (C_Task : ClsI K ⟨K, cl⟩ 4 (["nodes", "edges", "steady", "caps"] : List Str)) : Method P w K mg base ⟨K, cl⟩ 1 4 "unfinished" 2 false d_Task_unfinished := by
  have nd : (["self", "status", "node", "age", "done", "over"] : List Str).Nodup := sc_Task_unfinished.nd
  have z := fn_ok (P := P) (w := w) (mg := mg) (base := base) (k := ⟨K, cl⟩) (fr := false) (lv := 0) (as := [2, 3, 4, 5]) (s := m_Task_unfinished) F sc_Task_unfinished fun cdv A outer sh H G0 hr => by
    have hu := hr.units
    have hu5 := hr.units5
    exact (b_cons (s_asg (d_v 1) (g_t rfl rfl (gs_c (g_n 2 nd) (gs_c (g_n 3 nd) (gs_c (g_n 4 nd) (gs_c (g_n 5 nd) gs_n))))))
    (b_one (s_ret (d_vand (d_cmp (o_ge) (d_w 2) d_int) (d_vone (d_vor (d_cmp (o_eq rfl hu) (d_w 5) d_int) (d_vone (d_cmp (o_lt) (d_w 4) (d_bltn (c_len rfl) B.len (d_ab (d_ix (o_ixA rfl hu5) (d_ix (o_ixA rfl hu5) (d_fld 4 0 C_Task rfl (d_w 0)) (d_w 2)) d_int) d_an))))))))))
  exact ⟨C, f, fd, ["self", "status"], (["nodes", "edges", "steady", "caps"] : List Str), rfl, hcl, by decide, mc, mk, z, F.bindsN fun _ _ _ _ _ _ us hl => match us, hl with | [_, _], _ => rfl⟩
def m_Task_allows : FS :=
    (sSeq (sIf (tB' (e2 ltD (e2 ixA (eW 1) (eI (0))) (eI (0)))) (sRet (e3 leD ltD (eI (0)) (eW 2) (eC (f1 lenD) (aC (e1 (fldD 4 0) (eW 0)) aN)))) sNil)
    (sRet (eC (f1 anyD) (aC (lcE (fun S => (e1 (fldD 4 1) (eW 0)) S >>= itemsD) (gT 3 (gsC (gN 3) (gsC (gN 4) (gsC (gN 5) gsN)))) tY (eAnd (e2 eqD (eW 3) (e2 ixA (eW 1) (eI (0)))) (eAnd (e2 eqD (eW 4) (eW 2)) (e2 leD (eW 5) (e2 ixA (eW 1) (eI (1)))))) [3, 4, 5]) aN))))
def d_Task_allows : List D → R D := fun ds => (runF false 6 m_Task_allows ds).nox
theorem sc_Task_allows : FnScope ["self", "status", "node", "u", "v", "gap"] ["self", "status", "node"] (defScope st_Task_allows) := ⟨rfl, rfl, rfl, by decide +kernel, rfl, by decide +kernel, by decide +kernel⟩
theorem ok_Task_allows {C f : Addr} {fd : FuncData} (F : FunD K "allows" "Task.allows" (defArgs st_Task_allows) (defBody st_Task_allows) (defScope st_Task_allows) [] [] f fd) (hcl : cl 4 = some (C, (["nodes", "edges", "steady", "caps"] : List Str))) (mc : Cls K C) (mk : Meth K C "allows" f) (B : Bt mg) (C_Task : ClsI K ⟨K, cl⟩ 4 (["nodes", "edges", "steady", "caps"] : List Str)) : Method P w K mg base ⟨K, cl⟩ 1 4 "allows" 3 false d_Task_allows := by
  have nd : (["self", "status", "node", "u", "v", "gap"] : List Str).Nodup := sc_Task_allows.nd
  have z := fn_ok (P := P) (w := w) (mg := mg) (base := base) (k := ⟨K, cl⟩) (fr := false) (lv := 0) (as := []) (s := m_Task_allows) F sc_Task_allows fun cdv A outer sh H G0 hr => by
    have hu := hr.units
    have hu5 := hr.units5
    exact (b_cons (s_if (d_tc (o_lt) (d_ix (o_ixA rfl hu5) (d_w 1) d_int) d_int) (b_one (s_ret (d_ch (o_le) (o_lt) d_int (d_w 2) (d_bltn (c_len rfl) B.len (d_ab (d_fld 4 0 C_Task rfl (d_w 0)) d_an))))) b_nil)
    (b_one (s_ret (d_bltn (c_any rfl) B.any (d_ab (d_lc [("u", 3), ("v", 4), ("gap", 5)] rfl nd (i_seq rfl (d_fld 4 1 C_Task rfl (d_w 0))) (blkOk_by (N := ["self", "status", "node", "u", "v", "gap"]) (sc := (defScope st_Task_allows)) (by decide +kernel)) (fun _ _ _ _ _ => (g_t rfl rfl (gs_c (g_n 3 nd) (gs_c (g_n 4 nd) (gs_c (g_n 5 nd) gs_n))))) (fun _ _ _ _ _ => ts_n) (fun _ _ _ _ _ => (d_vand (d_cmp (o_eq rfl hu) (d_w 3) (d_ix (o_ixA rfl hu5) (d_w 1) d_int)) (d_vand (d_cmp (o_eq rfl hu) (d_w 4) (d_w 2)) (d_vone (d_cmp (o_le) (d_w 5) (d_ix (o_ixA rfl hu5) (d_w 1) d_int))))))) d_an)))))
  exact ⟨C, f, fd, ["self", "status", "node"], (["nodes", "edges", "steady", "caps"] : List Str), rfl, hcl, by decide, mc, mk, z, F.bindsN fun _ _ _ _ _ _ us hl => match us, hl with | [_, _, _], _ => rfl⟩
def m_Task_held : FS :=
    (sSeq (sAsg (gT 4 (gsC (gN 2) (gsC (gN 3) (gsC (gN 4) (gsC (gN 5) gsN))))) (eV 1))
    (sSeq (sIf (tO (tB' (e2 ltD (eW 2) (eI (0)))) (tO (tB' (e2 eqD (eW 5) (eI (1)))) (tO (tB' (e2 eqD (eW 4) (eI (0)))) (tB' (e2 eqD (eW 4) (eC (f1 lenD) (aC (e2 ixA (e2 ixA (e1 (fldD 4 0) (eW 0)) (eW 2)) (eI (0))) aN))))))) (sRet (eS "")) sNil)
    (sSeq (sSet 6 (e2 ixA (e2 ixA (e1 (fldD 4 0) (eW 0)) (eW 2)) (eI (0))))
    (sRet (eM1 joinD (eS "") (lcE (fun S => (e2 ixA (eW 6) (eW 4)) S >>= itemsD) (gN 7) (tB' (e2 inA (eW 7) (e2 ixA (eW 6) (e2 subD (eW 4) (eI (1)))))) (eV 7) [7]))))))
def d_Task_held : List D → R D := fun ds => (runF false 8 m_Task_held ds).nox
theorem sc_Task_held : FnScope ["self", "status", "node", "age", "done", "over", "plan", "lock"] ["self", "status"] (defScope st_Task_held) := ⟨rfl, rfl, rfl, by decide +kernel, rfl, by decide +kernel, by decide +kernel⟩
theorem ok_Task_held {C f : Addr} {fd : FuncData} (F : FunD K "held" "Task.held" (defArgs st_Task_held) (defBody st_Task_held) (defScope st_Task_held) [] [] f fd) (hcl : cl 4 = some (C, (["nodes", "edges", "steady", "caps"] : List Str))) (mc : Cls K C) (mk : Meth K C "held" f) (B : Bt mg) (C_Task : ClsI K ⟨K, cl⟩ 4 (["nodes", "edges", "steady", "caps"] : List Str)) : Method P w K mg base ⟨K, cl⟩ 1 4 "held" 2 false d_Task_held := by
  have nd : (["self", "status", "node", "age", "done", "over", "plan", "lock"] : List Str).Nodup := sc_Task_held.nd
  have z := fn_ok (P := P) (w := w) (mg := mg) (base := base) (k := ⟨K, cl⟩) (fr := false) (lv := 0) (as := [2, 3, 4, 5, 6]) (s := m_Task_held) F sc_Task_held fun cdv A outer sh H G0 hr => by
    have hu := hr.units
    have hu5 := hr.units5
    exact (b_cons (s_asg (d_v 1) (g_t rfl rfl (gs_c (g_n 2 nd) (gs_c (g_n 3 nd) (gs_c (g_n 4 nd) (gs_c (g_n 5 nd) gs_n))))))
    (b_cons (s_if (d_pw (d_or (d_tc (o_lt) (d_w 2) d_int) (d_or (d_tc (o_eq rfl hu) (d_w 5) d_int) (d_or (d_tc (o_eq rfl hu) (d_w 4) d_int) (d_or1 (d_tc (o_eq rfl hu) (d_w 4) (d_bltn (c_len rfl) B.len (d_ab (d_ix (o_ixA rfl hu5) (d_ix (o_ixA rfl hu5) (d_fld 4 0 C_Task rfl (d_w 0)) (d_w 2)) d_int) d_an)))))))) (b_one (s_ret d_str)) b_nil)
    (b_cons (s_set 6 nd (d_ix (o_ixA rfl hu5) (d_ix (o_ixA rfl hu5) (d_fld 4 0 C_Task rfl (d_w 0)) (d_w 2)) d_int))
    (b_one (s_ret (d_join rfl d_str (d_lc [("lock", 7)] rfl nd (i_seq rfl (d_ix (o_ixA rfl hu5) (d_w 6) (d_w 4))) (blkOk_by (N := ["self", "status", "node", "age", "done", "over", "plan", "lock"]) (sc := (defScope st_Task_held)) (by decide +kernel)) (fun _ _ _ _ _ => (g_n 7 nd)) (fun _ _ _ _ _ => (ts_1 (d_tc (o_inA rfl hu5) (d_w 7) (d_ix (o_ixA rfl hu5) (d_w 6) (d_op (o_sub) (d_w 4) d_int))))) (fun _ _ _ _ _ => (d_v 7)))))))))
  exact ⟨C, f, fd, ["self", "status"], (["nodes", "edges", "steady", "caps"] : List Str), rfl, hcl, by decide, mc, mk, z, F.bindsN fun _ _ _ _ _ _ us hl => match us, hl with | [_, _], _ => rfl⟩
def m_Task_needed : FS :=
    (sSeq (sAsg (gT 4 (gsC (gN 2) (gsC (gN 3) (gsC (gN 4) (gsC (gN 5) gsN))))) (eV 1))
    (sSeq (sIf (tO (tB' (e2 ltD (eW 2) (eI (0)))) (tO (tB' (e2 eqD (eW 5) (eI (1)))) (tB' (e2 eqD (eW 4) (eC (f1 lenD) (aC (e2 ixA (e2 ixA (e1 (fldD 4 0) (eW 0)) (eW 2)) (eI (0))) aN)))))) (sRet (eS "")) sNil)
    (sSeq (sSet 6 (eM 4 d_Task_held (eV 0) (aC (eV 1) aN)))
    (sRet (eM1 joinD (eS "") (lcE (fun S => (e2 ixA (e2 ixA (e2 ixA (e1 (fldD 4 0) (eW 0)) (eW 2)) (eI (0))) (eW 4)) S >>= itemsD) (gN 7) (tB' (e2 notInA (eW 7) (eW 6))) (eV 7) [7]))))))
def d_Task_needed : List D → R D := fun ds => (runF false 8 m_Task_needed ds).nox
theorem sc_Task_needed : FnScope ["self", "status", "node", "age", "done", "over", "held", "lock"] ["self", "status"] (defScope st_Task_needed) := ⟨rfl, rfl, rfl, by decide +kernel, rfl, by decide +kernel, by decide +kernel⟩
theorem ok_Task_needed {C f : Addr} {fd : FuncData} (F : FunD K "needed" "Task.needed" (defArgs st_Task_needed) (defBody st_Task_needed) (defScope st_Task_needed) [] [] f fd) (hcl : cl 4 = some (C, (["nodes", "edges", "steady", "caps"] : List Str))) (mc : Cls K C) (mk : Meth K C "needed" f) (B : Bt mg) (C_Task : ClsI K ⟨K, cl⟩ 4 (["nodes", "edges", "steady", "caps"] : List Str)) (h_Task_held : Method P w K mg base ⟨K, cl⟩ 1 4 "held" 2 false d_Task_held) : Method P w K mg base ⟨K, cl⟩ 2 4 "needed" 2 false d_Task_needed := by
  have nd : (["self", "status", "node", "age", "done", "over", "held", "lock"] : List Str).Nodup := sc_Task_needed.nd
  have z := fn_ok (P := P) (w := w) (mg := mg) (base := base) (k := ⟨K, cl⟩) (fr := false) (lv := 1) (as := [2, 3, 4, 5, 6]) (s := m_Task_needed) F sc_Task_needed fun cdv A outer sh H G0 hr => by
    have hu := hr.units
    have hu5 := hr.units5
    exact (b_cons (s_asg (d_v 1) (g_t rfl rfl (gs_c (g_n 2 nd) (gs_c (g_n 3 nd) (gs_c (g_n 4 nd) (gs_c (g_n 5 nd) gs_n))))))
    (b_cons (s_if (d_pw (d_or (d_tc (o_lt) (d_w 2) d_int) (d_or (d_tc (o_eq rfl hu) (d_w 5) d_int) (d_or1 (d_tc (o_eq rfl hu) (d_w 4) (d_bltn (c_len rfl) B.len (d_ab (d_ix (o_ixA rfl hu5) (d_ix (o_ixA rfl hu5) (d_fld 4 0 C_Task rfl (d_w 0)) (d_w 2)) d_int) d_an))))))) (b_one (s_ret d_str)) b_nil)
    (b_cons (s_set 6 nd (d_methS 4 h_Task_held hr (by decide) (d_v 0) (d_ac (d_v 1) d_an) (len_c len_n)))
    (b_one (s_ret (d_join rfl d_str (d_lc [("lock", 7)] rfl nd (i_seq rfl (d_ix (o_ixA rfl hu5) (d_ix (o_ixA rfl hu5) (d_ix (o_ixA rfl hu5) (d_fld 4 0 C_Task rfl (d_w 0)) (d_w 2)) d_int) (d_w 4))) (blkOk_by (N := ["self", "status", "node", "age", "done", "over", "held", "lock"]) (sc := (defScope st_Task_needed)) (by decide +kernel)) (fun _ _ _ _ _ => (g_n 7 nd)) (fun _ _ _ _ _ => (ts_1 (d_tc (o_notinA rfl hu5) (d_w 7) (d_w 6)))) (fun _ _ _ _ _ => (d_v 7)))))))))
  exact ⟨C, f, fd, ["self", "status"], (["nodes", "edges", "steady", "caps"] : List Str), rfl, hcl, by decide, mc, mk, z, F.bindsN fun _ _ _ _ _ _ us hl => match us, hl with | [_, _], _ => rfl⟩
def m_uses : FS :=
    (sRet (eC (f1 anyD) (aC (lc2E (fun S => (e1 (fldD 4 0) (eW 0)) S >>= itemsD) (gT 2 (gsC (gN 2) (gsC (gN 3) gsN))) tY (fun S => (eV 2) S >>= itemsD) (gN 4) tY (e2 inA (eW 1) (eW 4)) [2, 3, 4] [4]) aN)))
def d_uses : List D → R D := fun ds => (runF false 5 m_uses ds).nox
theorem sc_uses : FnScope ["task", "lock", "plan", "due", "entry"] ["task", "lock"] (defScope st_uses) := ⟨rfl, rfl, rfl, by decide +kernel, rfl, by decide +kernel, by decide +kernel⟩
theorem ok_uses {f : Addr} {fd : FuncData} (F : FunD K "uses" "uses" (defArgs st_uses) (defBody st_uses) (defScope st_uses) [] [] f fd) (mgf : mg "uses" = some (.ref f)) (B : Bt mg) (C_Task : ClsI K ⟨K, cl⟩ 4 (["nodes", "edges", "steady", "caps"] : List Str)) : Callee P w K mg base ⟨K, cl⟩ 1 "uses" 2 false d_uses := by
  have nd : (["task", "lock", "plan", "due", "entry"] : List Str).Nodup := sc_uses.nd
  have z := fn_ok (P := P) (w := w) (mg := mg) (base := base) (k := ⟨K, cl⟩) (fr := false) (lv := 0) (as := []) (s := m_uses) F sc_uses fun cdv A outer sh H G0 hr => by
    have hu := hr.units
    have hu5 := hr.units5
    exact (b_one (s_ret (d_bltn (c_any rfl) B.any (d_ab (d_lc2 [("plan", 2), ("due", 3), ("entry", 4)] [4] rfl nd (i_seq rfl (d_fld 4 0 C_Task rfl (d_w 0))) (blkOk_by (N := ["task", "lock", "plan", "due", "entry"]) (sc := (defScope st_uses)) (by decide +kernel)) (fun _ _ _ _ _ => (g_t rfl rfl (gs_c (g_n 2 nd) (gs_c (g_n 3 nd) gs_n)))) (fun _ _ _ _ _ => ts_n) (fun _ _ _ _ _ => (i_seq rfl (d_v 2))) (fun _ _ _ _ _ => (g_n 4 nd)) (fun _ _ _ _ _ => ts_n) (fun _ _ _ _ _ => (d_cmp (o_inA rfl hu5) (d_w 1) (d_w 4)))) d_an))))
  exact ⟨f, fd, ["task", "lock"], rfl, z, mgf, F.kp, F.bindsN fun _ _ _ _ _ _ us hl => match us, hl with | [_, _], _ => rfl⟩
def m_Choice : FS :=
    (sSeq (sIf (tB' (e2 notInA (eW 1) (eG gv_ORDERS))) (sExc0 205) sNil)
    (sSeq (sIf (tO (tT' (eC (f1 anyD) (aC (lcE (fun S => (eV 2) S >>= itemsD) (gN 3) tY (e2 notInA (eW 3) (eG gv_RULES)) [3]) aN))) (tB' (e2 ltD (e1 lenSetD (eW 2)) (eC (f1 lenD) (aC (eW 2) aN))))) (sExc0 205) sNil)
    (sSeq (sFldN 5 0 0 (eV 1))
    (sFldN 5 0 1 (eC (f1 tupD) (aC (eC (f1 srtAD) (aC (eW 2) aN)) aN))))))
def d_Choice : List D → R D := runN 4 5 m_Choice
theorem sc_Choice : FnScope ["self", "order", "rules", "rule"] ["self", "order", "rules"] (defScope st_Choice) := ⟨rfl, rfl, rfl, by decide +kernel, rfl, by decide +kernel, by decide +kernel⟩
theorem okS_Choice_ {C f : Addr} {fd : FuncData} (hdd : ∀ G, RDs ⟨K, cl⟩ G [] []) (F : FunD K "__init__" "Choice.__init__" (defArgs st_Choice) (defBody st_Choice) (defScope st_Choice) [.str "first"] [] f fd) (hcl : cl 5 = some (C, (["order", "rules"] : List Str))) (mk : Mk K C f) (mgf : mg "Choice" = some (.ref C)) (B : Bt mg) (g_ORDERS : Gc mg ⟨K, cl⟩ "ORDERS" gv_ORDERS) (R_InvalidChoice : RaO K mg ⟨K, cl⟩ "InvalidChoice" 205) (g_RULES : Gc mg ⟨K, cl⟩ "RULES" gv_RULES) (C_Choice : ClsI K ⟨K, cl⟩ 5 (["order", "rules"] : List Str)) : MakerXS P w K mg base ⟨K, cl⟩ 1 "Choice" 5 1 [] [] [] d_Choice := by
  have nd : (["self", "order", "rules", "rule"] : List Str).Nodup := sc_Choice.nd
  have sb := starB1 (ps := ["self", "order"]) (pv := "rules") F 2 (by simp) fun _ _ _ _ _ _ _ us its rest hl h2 => match us, its, rest, hl, h2 with | [_, _], [_], [], _, _ => ⟨_, rfl, rfl⟩ | [_, _], [_], _ :: _, _, _ => ⟨_, rfl, rfl⟩
  have sr : ∀ {vs : List V} {us : List Value} {zs : List V} {ws : List Value}, Vals vs us → Vals zs ws → Vals (vs ++ M.mergeK [] [] zs) us := fun r _ => by simpa [M.mergeK] using r
  have z := init_okS (P := P) (w := w) (mg := mg) (base := base) (k := ⟨K, cl⟩) (ci := 5) (lv := 0) (as := [1000, 1000]) (s := m_Choice) (N := ["self", "order", "rules", "rule"]) (ps := ["self", "order"]) (pv := "rules") F sc_Choice (by decide) sb (gV := fun vs zs => vs ++ M.mergeK [] [] zs) sr (by intro us ws l1 l2; simpa using l1) fun cdv A outer sh H H0 G0 E hr tk => by
    have hu := hr.units
    have hu5 := hr.units5
    exact (b_cons (s_if (d_tc (o_notinA rfl hu5) (d_w 1) (d_g g_ORDERS)) (b_one (s_raise0 R_InvalidChoice rfl tk)) b_nil)
    (b_cons (s_if (d_pw (d_or (d_tt rfl (d_bltn (c_any rfl) B.any (d_ab (d_lc [("rule", 3)] rfl nd (i_seq rfl (d_v 2)) (blkOk_by (N := ["self", "order", "rules", "rule"]) (sc := (defScope st_Choice)) (by decide +kernel)) (fun _ _ _ _ _ => (g_n 3 nd)) (fun _ _ _ _ _ => ts_n) (fun _ _ _ _ _ => (d_cmp (o_notinA rfl hu5) (d_w 3) (d_g g_RULES)))) d_an))) (d_or1 (d_tc (o_lt) (d_lenSet rfl rfl hu B.len B.set (d_w 2)) (d_bltn (c_len rfl) B.len (d_ab (d_w 2) d_an)))))) (b_one (s_raise0 R_InvalidChoice rfl tk)) b_nil)
    (b_cons (s_fld 5 0 0 C_Choice rfl (d_v 1))
    (b_one (s_fld 5 0 1 C_Choice rfl (d_btyp (c_tup rfl) B.tuple (d_ab (d_bltn (c_srtA rfl hu) B.sorted (d_ab (d_w 2) d_an)) d_an)))))))
  exact ⟨C, f, (["order", "rules"] : List Str), [], hcl, mk, mgf, hdd, rfl, rfl, z⟩
def m_Choice_levels : FS :=
    (sSeq (sSet 2 (eC (f1 lenD) (aC (eW 1) aN)))
    (sSeq (sIf (tB' (e2 eqD (e1 (fldD 5 0) (eW 0)) (eS "first"))) (sRet (eTupRg (rg1 (eW 2)))) sNil)
    (sSeq (sIf (tB' (e2 eqD (e1 (fldD 5 0) (eW 0)) (eS "last"))) (sRet (eC (f1 tupD) (aC (lcE (fun S => (aC (eW 2) aN) S >>= rng1) (gN 3) tY (e2 subD (e2 subD (eW 2) (eI (1))) (eW 3)) [3]) aN))) sNil)
    (sSeq (sSet 4 (eC (f1 srtAD) (aC (lcE (fun S => (aC (eV 1) aN) S >>= enumerateF) (gT 2 (gsC (gN 3) (gsC (gN 8) gsN))) tY (eT (aC (eC (f1 minD) (aC (lcE (fun S => (e1 (fldD 4 0) (eW 8)) S >>= itemsD) (gT 2 (gsC (gN 9) (gsC (gN 10) gsN))) tY (eV 10) [9, 10]) aN)) (aC (eV 3) aN))) [3, 8]) aN)))
    (sSeq (sOwn 5 (e2 mulL (eL (aC (eI (0)) aN)) (eW 2)))
    (sSeq (sFor (fun S => (aC (eV 4) aN) S >>= enumerateF) (gT 2 (gsC (gN 6) (gsC (gT 2 (gsC (gN 7) (gsC (gN 3) gsN))) gsN))) (sSub 5 (eW 3) (eV 6)))
    (sRet (eC (f1 tupD) (aC (eW 5) aN)))))))))
def d_Choice_levels : List D → R D := fun ds => (runF false 11 m_Choice_levels ds).nox
theorem sc_Choice_levels : FnScope ["self", "tasks", "count", "i", "ranked", "levels", "level", "least", "task", "plan", "due"] ["self", "tasks"] (defScope st_Choice_levels) := ⟨rfl, rfl, rfl, by decide +kernel, rfl, by decide +kernel, by decide +kernel⟩
theorem ok_Choice_levels {C f : Addr} {fd : FuncData} (F : FunD K "levels" "Choice.levels" (defArgs st_Choice_levels) (defBody st_Choice_levels) (defScope st_Choice_levels) [] [] f fd) (hcl : cl 5 = some (C, (["order", "rules"] : List Str))) (mc : Cls K C) (mk : Meth K C "levels" f) (B : Bt mg) (C_Choice : ClsI K ⟨K, cl⟩ 5 (["order", "rules"] : List Str)) (C_Task : ClsI K ⟨K, cl⟩ 4 (["nodes", "edges", "steady", "caps"] : List Str)) : Method P w K mg base ⟨K, cl⟩ 1 5 "levels" 2 false d_Choice_levels := by
  have nd : (["self", "tasks", "count", "i", "ranked", "levels", "level", "least", "task", "plan", "due"] : List Str).Nodup := sc_Choice_levels.nd
  have z := fn_ok (P := P) (w := w) (mg := mg) (base := base) (k := ⟨K, cl⟩) (fr := false) (lv := 0) (as := [2, 4, 5, 6, 7, 3, 1005]) (s := m_Choice_levels) F sc_Choice_levels fun cdv A outer sh H G0 hr => by
    have hu := hr.units
    have hu5 := hr.units5
    exact (b_cons (s_set 2 nd (d_bltn (c_len rfl) B.len (d_ab (d_w 1) d_an)))
    (b_cons (s_if (d_tc (o_eq rfl hu) (d_fld 5 0 C_Choice rfl (d_w 0)) d_str) (b_one (s_ret (d_tupRg rfl B.tuple (d_rg1 B.range (d_w 2))))) b_nil)
    (b_cons (s_if (d_tc (o_eq rfl hu) (d_fld 5 0 C_Choice rfl (d_w 0)) d_str) (b_one (s_ret (d_btyp (c_tup rfl) B.tuple (d_ab (d_lc [("i", 3)] rfl nd (i_rng1 B.range (d_ab (d_w 2) d_an)) (blkOk_by (N := ["self", "tasks", "count", "i", "ranked", "levels", "level", "least", "task", "plan", "due"]) (sc := (defScope st_Choice_levels)) (by decide +kernel)) (fun _ _ _ _ _ => (g_n 3 nd)) (fun _ _ _ _ _ => ts_n) (fun _ _ _ _ _ => (d_op (o_sub) (d_op (o_sub) (d_w 2) d_int) (d_w 3)))) d_an)))) b_nil)
    (b_cons (s_set 4 nd (d_z (d_bltn (c_srtA rfl hu) B.sorted (d_ab (d_lc [("i", 3), ("task", 8)] rfl nd (i_enumerate rfl B.enumerate (d_ac (d_v 1) d_an)) (blkOk_by (N := ["self", "tasks", "count", "i", "ranked", "levels", "level", "least", "task", "plan", "due"]) (sc := (defScope st_Choice_levels)) (by decide +kernel)) (fun _ _ _ _ _ => (g_t rfl rfl (gs_c (g_n 3 nd) (gs_c (g_n 8 nd) gs_n)))) (fun _ _ _ _ _ => ts_n) (fun _ _ _ _ _ => (d_tup (d_ac (d_bltn (c_min rfl) B.min (d_ab (d_lc [("plan", 9), ("due", 10)] rfl nd (i_seq rfl (d_fld 4 0 C_Task rfl (d_w 8))) (blkOk_by (N := ["self", "tasks", "count", "i", "ranked", "levels", "level", "least", "task", "plan", "due"]) (sc := (relS ({ kind := .function, names := [(".0", .local), ("i", .local), ("task", .local), ("min", .globalImplicit)], isGenerator := false, isCoroutine := false, more := [] } : Scope) (defScope st_Choice_levels))) (by decide +kernel)) (fun _ _ _ _ _ => (g_t rfl rfl (gs_c (g_n 9 nd) (gs_c (g_n 10 nd) gs_n)))) (fun _ _ _ _ _ => ts_n) (fun _ _ _ _ _ => (d_v 10))) d_an)) (d_ac (d_v 3) d_an))))) d_an))))
    (b_cons (s_own 5 nd (d_op (o_mulL) (d_lst (d_ac d_int d_an)) (d_w 2)))
    (b_cons (s_for PassesOwn.never rfl (i_enumerate rfl B.enumerate (d_ac (d_v 4) d_an)) (g_t rfl rfl (gs_c (g_n 6 nd) (gs_c (g_t rfl rfl (gs_c (g_n 7 nd) (gs_c (g_n 3 nd) gs_n))) gs_n))) (b_one (s_sub 5 (d_v 6) (d_w 3))))
    (b_one (s_ret (d_btyp (c_tup rfl) B.tuple (d_ab (d_w 5) d_an))))))))))
  exact ⟨C, f, fd, ["self", "tasks"], (["order", "rules"] : List Str), rfl, hcl, by decide, mc, mk, z, F.bindsN fun _ _ _ _ _ _ us hl => match us, hl with | [_, _], _ => rfl⟩
def m_Choice_ceiling : FS :=
    (sSeq (sSet 3 (eM 5 d_Choice_levels (eV 0) (aC (eV 1) aN)))
    (sRet (eC (f2 mindD) (fApp (aC (lcE (fun S => (aC (eV 1) aN) S >>= enumerateF) (gT 2 (gsC (gN 4) (gsC (gN 5) gsN))) (tT' (eC d_uses (aC (eV 5) (aC (eV 2) aN)))) (e2 ixA (eW 3) (eW 4)) [4, 5]) aN) (aC (e1 negD (eI (1))) aN)))))
def d_Choice_ceiling : List D → R D := fun ds => (runF false 6 m_Choice_ceiling ds).nox
theorem sc_Choice_ceiling : FnScope ["self", "tasks", "lock", "ranks", "i", "task"] ["self", "tasks", "lock"] (defScope st_Choice_ceiling) := ⟨rfl, rfl, rfl, by decide +kernel, rfl, by decide +kernel, by decide +kernel⟩
theorem ok_Choice_ceiling {C f : Addr} {fd : FuncData} (F : FunD K "ceiling" "Choice.ceiling" (defArgs st_Choice_ceiling) (defBody st_Choice_ceiling) (defScope st_Choice_ceiling) [] [] f fd) (hcl : cl 5 = some (C, (["order", "rules"] : List Str))) (mc : Cls K C) (mk : Meth K C "ceiling" f) (B : Bt mg) (h_Choice_levels : Method P w K mg base ⟨K, cl⟩ 1 5 "levels" 2 false d_Choice_levels) (h_uses : Callee P w K mg base ⟨K, cl⟩ 1 "uses" 2 false d_uses) : Method P w K mg base ⟨K, cl⟩ 2 5 "ceiling" 3 false d_Choice_ceiling := by
  have nd : (["self", "tasks", "lock", "ranks", "i", "task"] : List Str).Nodup := sc_Choice_ceiling.nd
  have z := fn_ok (P := P) (w := w) (mg := mg) (base := base) (k := ⟨K, cl⟩) (fr := false) (lv := 1) (as := [3]) (s := m_Choice_ceiling) F sc_Choice_ceiling fun cdv A outer sh H G0 hr => by
    have hu := hr.units
    have hu5 := hr.units5
    exact (b_cons (s_set 3 nd (d_methS 5 h_Choice_levels hr (by decide) (d_v 0) (d_ac (d_v 1) d_an) (len_c len_n)))
    (b_one (s_ret (d_mind rfl B.min (d_ac (d_z (d_lc [("i", 4), ("task", 5)] rfl nd (i_enumerate rfl B.enumerate (d_ac (d_v 1) d_an)) (blkOk_by (N := ["self", "tasks", "lock", "ranks", "i", "task"]) (sc := (defScope st_Choice_ceiling)) (by decide +kernel)) (fun _ _ _ _ _ => (g_t rfl rfl (gs_c (g_n 4 nd) (gs_c (g_n 5 nd) gs_n)))) (fun _ _ _ _ _ => (ts_1 (d_tt rfl (d_callS (h_uses.at hr (by decide)) (d_ac (d_v 5) (d_ac (d_v 2) d_an)) (len_c (len_c len_n)))))) (fun _ _ _ _ _ => (d_ix (o_ixA rfl hu5) (d_w 3) (d_w 4))))) d_an) (len_c len_n) (d_kc (d_un o_neg d_int) d_kn) (len_c len_n)))))
  exact ⟨C, f, fd, ["self", "tasks", "lock"], (["order", "rules"] : List Str), rfl, hcl, by decide, mc, mk, z, F.bindsN fun _ _ _ _ _ _ us hl => match us, hl with | [_, _, _], _ => rfl⟩
def m_Choice_urgent : FS :=
    (sSeq (sOwn 4 (eL aN))
    (sSeq (sFor (fun S => (aC (eV 1) aN) S >>= enumerateF) (gT 2 (gsC (gN 5) (gsC (gN 6) gsN))) (sIf (tT' (eM 4 d_Task_unfinished (eV 6) (aC (e2 ixA (eW 2) (eW 5)) aN))) (sSeq (sAsg (gT 4 (gsC (gN 7) (gsC (gN 8) (gsC (gN 9) (gsC (gN 10) gsN))))) (e2 ixA (eW 2) (eW 5)))
    (sSeq (sSet 11 (eIf (tB' (e2 eqD (eW 3) (eS "after"))) (eV 10) (eI (0))))
    (sSeq (sSet 12 (eI (0)))
    (sSeq (sIf (tB' (e2 eqD (e1 (fldD 5 0) (eW 0)) (eS "last"))) (sSet 12 (e1 negD (eW 5))) (sIf (tB' (e2 eqD (e1 (fldD 5 0) (eW 0)) (eS "dues"))) (sSet 12 (e2 subD (e2 ixA (e2 ixA (e1 (fldD 4 0) (eW 6)) (eW 7)) (eI (1))) (eW 8))) sNil))
    (sApp 4 (eT (aC (eV 11) (aC (eV 12) (aC (eV 5) aN))))))))) sNil))
    (sRet (lcE (fun S => (eC (f1 srtAD) (aC (eW 4) aN)) S >>= itemsD) (gT 3 (gsC (gN 11) (gsC (gN 12) (gsC (gN 5) gsN)))) tY (eV 5) [11, 12, 5]))))
def d_Choice_urgent : List D → R D := fun ds => (runF false 13 m_Choice_urgent ds).nox
theorem sc_Choice_urgent : FnScope ["self", "tasks", "statuses", "guard", "ranked", "i", "task", "node", "age", "done", "over", "late", "place"] ["self", "tasks", "statuses", "guard"] (defScope st_Choice_urgent) := ⟨rfl, rfl, rfl, by decide +kernel, rfl, by decide +kernel, by decide +kernel⟩
theorem ok_Choice_urgent {C f : Addr} {fd : FuncData} (F : FunD K "urgent" "Choice.urgent" (defArgs st_Choice_urgent) (defBody st_Choice_urgent) (defScope st_Choice_urgent) [] [] f fd) (hcl : cl 5 = some (C, (["order", "rules"] : List Str))) (mc : Cls K C) (mk : Meth K C "urgent" f) (B : Bt mg) (h_Task_unfinished : Method P w K mg base ⟨K, cl⟩ 1 4 "unfinished" 2 false d_Task_unfinished) (C_Choice : ClsI K ⟨K, cl⟩ 5 (["order", "rules"] : List Str)) (C_Task : ClsI K ⟨K, cl⟩ 4 (["nodes", "edges", "steady", "caps"] : List Str)) : Method P w K mg base ⟨K, cl⟩ 2 5 "urgent" 4 false d_Choice_urgent := by
  have nd : (["self", "tasks", "statuses", "guard", "ranked", "i", "task", "node", "age", "done", "over", "late", "place"] : List Str).Nodup := sc_Choice_urgent.nd
  have z := fn_ok (P := P) (w := w) (mg := mg) (base := base) (k := ⟨K, cl⟩) (fr := false) (lv := 1) (as := [4, 5, 6, 7, 8, 9, 10, 11, 12, 12, 12, 1004]) (s := m_Choice_urgent) F sc_Choice_urgent fun cdv A outer sh H G0 hr => by
    have hu := hr.units
    have hu5 := hr.units5
    exact (b_cons (s_own 4 nd (d_lst d_an))
    (b_cons (s_for PassesOwn.never rfl (i_enumerate rfl B.enumerate (d_ac (d_v 1) d_an)) (g_t rfl rfl (gs_c (g_n 5 nd) (gs_c (g_n 6 nd) gs_n))) (b_one (s_if (d_tt rfl (d_methS 4 h_Task_unfinished hr (by decide) (d_v 6) (d_ac (d_ix (o_ixA rfl hu5) (d_w 2) (d_w 5)) d_an) (len_c len_n))) (b_cons (s_asg (d_ix (o_ixA rfl hu5) (d_w 2) (d_w 5)) (g_t rfl rfl (gs_c (g_n 7 nd) (gs_c (g_n 8 nd) (gs_c (g_n 9 nd) (gs_c (g_n 10 nd) gs_n))))))
    (b_cons (s_set 11 nd (d_ite (d_tc (o_eq rfl hu) (d_w 3) d_str) (d_v 10) d_int))
    (b_cons (s_set 12 nd d_int)
    (b_cons (s_if (d_tc (o_eq rfl hu) (d_fld 5 0 C_Choice rfl (d_w 0)) d_str) (b_one (s_set 12 nd (d_un o_neg (d_w 5)))) (b_one (s_if (d_tc (o_eq rfl hu) (d_fld 5 0 C_Choice rfl (d_w 0)) d_str) (b_one (s_set 12 nd (d_op (o_sub) (d_ix (o_ixA rfl hu5) (d_ix (o_ixA rfl hu5) (d_fld 4 0 C_Task rfl (d_w 6)) (d_w 7)) d_int) (d_w 8)))) b_nil)))
    (b_one (s_app 4 (d_tup (d_ac (d_v 11) (d_ac (d_v 12) (d_ac (d_v 5) d_an)))))))))) b_nil)))
    (b_one (s_ret (d_z (d_lc [("late", 11), ("place", 12), ("i", 5)] rfl nd (i_seq rfl (d_z (d_bltn (c_srtA rfl hu) B.sorted (d_ab (d_w 4) d_an)))) (blkOk_by (N := ["self", "tasks", "statuses", "guard", "ranked", "i", "task", "node", "age", "done", "over", "late", "place"]) (sc := (defScope st_Choice_urgent)) (by decide +kernel)) (fun _ _ _ _ _ => (g_t rfl rfl (gs_c (g_n 11 nd) (gs_c (g_n 12 nd) (gs_c (g_n 5 nd) gs_n))))) (fun _ _ _ _ _ => ts_n) (fun _ _ _ _ _ => (d_v 5))))))))
  exact ⟨C, f, fd, ["self", "tasks", "statuses", "guard"], (["order", "rules"] : List Str), rfl, hcl, by decide, mc, mk, z, F.bindsN fun _ _ _ _ _ _ us hl => match us, hl with | [_, _, _, _], _ => rfl⟩
def m_blocked_by : FS :=
    (sSeq (sFor (fun S => (eM 4 d_Task_needed (e2 ixA (eW 0) (eW 2)) (aC (e2 ixA (eW 1) (eW 2)) aN)) S >>= itemsD) (gN 3) (sFor (fun S => (aC (eV 0) aN) S >>= enumerateF) (gT 2 (gsC (gN 4) (gsC (gN 5) gsN))) (sIf (tA (tB' (e2 neD (eW 4) (eW 2))) (tB' (e2 inA (eW 3) (eM 4 d_Task_held (eV 5) (aC (e2 ixA (eW 1) (eW 4)) aN))))) (sRet (eV 4)) sNil)))
    (sRet (e1 negD (eI (1)))))
def d_blocked_by : List D → R D := fun ds => (runF false 6 m_blocked_by ds).nox
theorem sc_blocked_by : FnScope ["tasks", "statuses", "number", "lock", "i", "task"] ["tasks", "statuses", "number"] (defScope st_blocked_by) := ⟨rfl, rfl, rfl, by decide +kernel, rfl, by decide +kernel, by decide +kernel⟩
theorem ok_blocked_by {f : Addr} {fd : FuncData} (F : FunD K "blocked_by" "blocked_by" (defArgs st_blocked_by) (defBody st_blocked_by) (defScope st_blocked_by) [] [] f fd) (mgf : mg "blocked_by" = some (.ref f)) (B : Bt mg) (h_Task_needed : Method P w K mg base ⟨K, cl⟩ 2 4 "needed" 2 false d_Task_needed) (h_Task_held : Method P w K mg base ⟨K, cl⟩ 1 4 "held" 2 false d_Task_held) : Callee P w K mg base ⟨K, cl⟩ 3 "blocked_by" 3 false d_blocked_by := by
  have nd : (["tasks", "statuses", "number", "lock", "i", "task"] : List Str).Nodup := sc_blocked_by.nd
  have z := fn_ok (P := P) (w := w) (mg := mg) (base := base) (k := ⟨K, cl⟩) (fr := false) (lv := 2) (as := [3, 4, 5]) (s := m_blocked_by) F sc_blocked_by fun cdv A outer sh H G0 hr => by
    have hu := hr.units
    have hu5 := hr.units5
    exact (b_cons (s_for PassesOwn.never rfl (i_seq rfl (d_methS 4 h_Task_needed hr (by decide) (d_ix (o_ixA rfl hu5) (d_w 0) (d_w 2)) (d_ac (d_ix (o_ixA rfl hu5) (d_w 1) (d_w 2)) d_an) (len_c len_n))) (g_n 3 nd) (b_one (s_for PassesOwn.never rfl (i_enumerate rfl B.enumerate (d_ac (d_v 0) d_an)) (g_t rfl rfl (gs_c (g_n 4 nd) (gs_c (g_n 5 nd) gs_n))) (b_one (s_if (d_pw (d_and (d_tc (o_ne rfl hu) (d_w 4) (d_w 2)) (d_and1 (d_tc (o_inA rfl hu5) (d_w 3) (d_methS 4 h_Task_held hr (by decide) (d_v 5) (d_ac (d_ix (o_ixA rfl hu5) (d_w 1) (d_w 4)) d_an) (len_c len_n)))))) (b_one (s_ret (d_v 4))) b_nil)))))
    (b_one (s_ret (d_un o_neg d_int))))
  exact ⟨f, fd, ["tasks", "statuses", "number"], rfl, z, mgf, F.kp, F.bindsN fun _ _ _ _ _ _ us hl => match us, hl with | [_, _, _], _ => rfl⟩
def m_Choice_blocker : FS :=
    (sSeq (sSet 4 (eC d_blocked_by (aC (eV 1) (aC (eV 2) (aC (eV 3) aN)))))
    (sSeq (sIf (tO (tB' (e2 geD (eW 4) (eI (0)))) (tO (tB' (e2 notInA (eS "ceil") (e1 (fldD 5 1) (eW 0)))) (tNo (tT' (eM 4 d_Task_needed (e2 ixA (eW 1) (eW 3)) (aC (e2 ixA (eW 2) (eW 3)) aN)))))) (sRet (eV 4)) sNil)
    (sSeq (sSet 5 (lc2E (fun S => (aC (eV 1) aN) S >>= enumerateF) (gT 2 (gsC (gN 6) (gsC (gN 7) gsN))) (tB' (e2 neD (eW 6) (eW 3))) (fun S => (eM 4 d_Task_held (eV 7) (aC (e2 ixA (eW 2) (eW 6)) aN)) S >>= itemsD) (gN 8) tY (eT (aC (eM 5 d_Choice_ceiling (eV 0) (aC (eV 1) (aC (eV 8) aN))) (aC (eV 8) (aC (eV 6) aN)))) [6, 7, 8] [8]))
    (sSeq (sIf (tA (tT' (eW 5)) (tB' (e2 leD (e2 ixA (eC (f1 minTD) (aC (eW 5) aN)) (eI (0))) (e2 ixA (eM 5 d_Choice_levels (eV 0) (aC (eV 1) aN)) (eW 3))))) (sRet (e2 ixA (eC (f1 minTD) (aC (eW 5) aN)) (eI (2)))) sNil)
    (sRet (e1 negD (eI (1))))))))
def d_Choice_blocker : List D → R D := fun ds => (runF false 9 m_Choice_blocker ds).nox
theorem sc_Choice_blocker : FnScope ["self", "tasks", "statuses", "number", "found", "held", "i", "task", "lock"] ["self", "tasks", "statuses", "number"] (defScope st_Choice_blocker) := ⟨rfl, rfl, rfl, by decide +kernel, rfl, by decide +kernel, by decide +kernel⟩
theorem ok_Choice_blocker {C f : Addr} {fd : FuncData} (F : FunD K "blocker" "Choice.blocker" (defArgs st_Choice_blocker) (defBody st_Choice_blocker) (defScope st_Choice_blocker) [] [] f fd) (hcl : cl 5 = some (C, (["order", "rules"] : List Str))) (mc : Cls K C) (mk : Meth K C "blocker" f) (B : Bt mg) (h_blocked_by : Callee P w K mg base ⟨K, cl⟩ 3 "blocked_by" 3 false d_blocked_by) (C_Choice : ClsI K ⟨K, cl⟩ 5 (["order", "rules"] : List Str)) (h_Task_needed : Method P w K mg base ⟨K, cl⟩ 2 4 "needed" 2 false d_Task_needed) (h_Task_held : Method P w K mg base ⟨K, cl⟩ 1 4 "held" 2 false d_Task_held) (h_Choice_ceiling : Method P w K mg base ⟨K, cl⟩ 2 5 "ceiling" 3 false d_Choice_ceiling) (h_Choice_levels : Method P w K mg base ⟨K, cl⟩ 1 5 "levels" 2 false d_Choice_levels) : Method P w K mg base ⟨K, cl⟩ 4 5 "blocker" 4 false d_Choice_blocker := by
  have nd : (["self", "tasks", "statuses", "number", "found", "held", "i", "task", "lock"] : List Str).Nodup := sc_Choice_blocker.nd
  have z := fn_ok (P := P) (w := w) (mg := mg) (base := base) (k := ⟨K, cl⟩) (fr := false) (lv := 3) (as := [4, 5]) (s := m_Choice_blocker) F sc_Choice_blocker fun cdv A outer sh H G0 hr => by
    have hu := hr.units
    have hu5 := hr.units5
    exact (b_cons (s_set 4 nd (d_callS (h_blocked_by.at hr (by decide)) (d_ac (d_v 1) (d_ac (d_v 2) (d_ac (d_v 3) d_an))) (len_c (len_c (len_c len_n)))))
    (b_cons (s_if (d_pw (d_or (d_tc (o_ge) (d_w 4) d_int) (d_or (d_tc (o_notinA rfl hu5) d_str (d_fld 5 1 C_Choice rfl (d_w 0))) (d_or1 (d_not (d_tt rfl (d_methS 4 h_Task_needed hr (by decide) (d_ix (o_ixA rfl hu5) (d_w 1) (d_w 3)) (d_ac (d_ix (o_ixA rfl hu5) (d_w 2) (d_w 3)) d_an) (len_c len_n)))))))) (b_one (s_ret (d_v 4))) b_nil)
    (b_cons (s_lc2Z 5 [("i", 6), ("task", 7), ("lock", 8)] [8] rfl nd (i_enumerate rfl B.enumerate (d_ac (d_v 1) d_an)) (blkOk_by (N := ["self", "tasks", "statuses", "number", "found", "held", "i", "task", "lock"]) (sc := (defScope st_Choice_blocker)) (by decide +kernel)) (fun _ _ _ _ _ => (g_t rfl rfl (gs_c (g_n 6 nd) (gs_c (g_n 7 nd) gs_n)))) (fun _ _ _ _ _ => (ts_1 (d_tc (o_ne rfl hu) (d_w 6) (d_w 3)))) (fun _ _ _ _ _ => (i_seq rfl (d_methS 4 h_Task_held hr (by decide) (d_v 7) (d_ac (d_ix (o_ixA rfl hu5) (d_w 2) (d_w 6)) d_an) (len_c len_n)))) (fun _ _ _ _ _ => (g_n 8 nd)) (fun _ _ _ _ _ => ts_n) (fun _ _ _ _ _ => (d_tup (d_ac (d_methS 5 h_Choice_ceiling hr (by decide) (d_v 0) (d_ac (d_v 1) (d_ac (d_v 8) d_an)) (len_c (len_c len_n))) (d_ac (d_v 8) (d_ac (d_v 6) d_an))))))
    (b_cons (s_if (d_pw (d_and (d_tt rfl (d_w 5)) (d_and1 (d_tc (o_le) (d_ix (o_ixA rfl hu5) (d_bltn (c_minT rfl rfl hu) B.min (d_ab (d_w 5) d_an)) d_int) (d_ix (o_ixA rfl hu5) (d_methS 5 h_Choice_levels hr (by decide) (d_v 0) (d_ac (d_v 1) d_an) (len_c len_n)) (d_w 3)))))) (b_one (s_ret (d_ix (o_ixA rfl hu5) (d_bltn (c_minT rfl rfl hu) B.min (d_ab (d_w 5) d_an)) d_int))) b_nil)
    (b_one (s_ret (d_un o_neg d_int)))))))
  exact ⟨C, f, fd, ["self", "tasks", "statuses", "number"], (["order", "rules"] : List Str), rfl, hcl, by decide, mc, mk, z, F.bindsN fun _ _ _ _ _ _ us hl => match us, hl with | [_, _, _, _], _ => rfl⟩
def m_Choice___call__ : FS :=
    (sSeq (sFor (fun S => (eM 5 d_Choice_urgent (eV 0) (aC (eV 1) (aC (eV 2) (aC (eV 3) aN)))) S >>= itemsD) (gN 4) (sSeq (sOwn 5 (eL (aC (eV 4) aN)))
    (sSeq (sSet 6 (eM 5 d_Choice_blocker (eV 0) (aC (eV 1) (aC (eV 2) (aC (eV 4) aN)))))
    (sSeq (whileF (tA (tB' (e2 inA (eS "lend") (e1 (fldD 5 1) (eW 0)))) (tA (tB' (e2 geD (eW 6) (eI (0)))) (tB' (e2 notInA (eW 6) (eW 5))))) (sSeq (sApp 5 (eV 6))
    (sSet 6 (eM 5 d_Choice_blocker (eV 0) (aC (eV 1) (aC (eV 2) (aC (eV 6) aN)))))) 100)
    (sIf (tB' (e2 ltD (eW 6) (eI (0)))) (sRet (e2 ixA (eW 5) (e1 negD (eI (1))))) sNil)))))
    (sRet (e1 negD (eI (1)))))
def d_Choice___call__ : List D → R D := fun ds => (runF false 7 m_Choice___call__ ds).nox
theorem sc_Choice___call__ : FnScope ["self", "tasks", "statuses", "guard", "job", "met", "ahead"] ["self", "tasks", "statuses", "guard"] (defScope st_Choice___call__) := ⟨rfl, rfl, rfl, by decide +kernel, rfl, by decide +kernel, by decide +kernel⟩
theorem ok_Choice___call__ {C f : Addr} {fd : FuncData} (F : FunD K "__call__" "Choice.__call__" (defArgs st_Choice___call__) (defBody st_Choice___call__) (defScope st_Choice___call__) [] [] f fd) (hcl : cl 5 = some (C, (["order", "rules"] : List Str))) (mc : Cls K C) (mk : Meth K C "__call__" f) (B : Bt mg) (h_Choice_urgent : Method P w K mg base ⟨K, cl⟩ 2 5 "urgent" 4 false d_Choice_urgent) (h_Choice_blocker : Method P w K mg base ⟨K, cl⟩ 4 5 "blocker" 4 false d_Choice_blocker) (C_Choice : ClsI K ⟨K, cl⟩ 5 (["order", "rules"] : List Str)) : CallO P w K mg base ⟨K, cl⟩ 5 5 4 d_Choice___call__ := by
  have nd : (["self", "tasks", "statuses", "guard", "job", "met", "ahead"] : List Str).Nodup := sc_Choice___call__.nd
  have z := fn_ok (P := P) (w := w) (mg := mg) (base := base) (k := ⟨K, cl⟩) (fr := false) (lv := 4) (as := [4, 5, 6, 1005, 6]) (s := m_Choice___call__) F sc_Choice___call__ fun cdv A outer sh H G0 hr => by
    have hu := hr.units
    have hu5 := hr.units5
    exact (b_cons (s_for PassesOwn.never rfl (i_seq rfl (d_methS 5 h_Choice_urgent hr (by decide) (d_v 0) (d_ac (d_v 1) (d_ac (d_v 2) (d_ac (d_v 3) d_an))) (len_c (len_c (len_c len_n))))) (g_n 4 nd) (b_cons (s_own 5 nd (d_lst (d_ac (d_v 4) d_an)))
    (b_cons (s_set 6 nd (d_methS 5 h_Choice_blocker hr (by decide) (d_v 0) (d_ac (d_v 1) (d_ac (d_v 2) (d_ac (d_v 4) d_an))) (len_c (len_c (len_c len_n)))))
    (b_cons (s_while 100 PassesOwn.never (d_pw (d_and (d_tc (o_inA rfl hu5) d_str (d_fld 5 1 C_Choice rfl (d_w 0))) (d_and (d_tc (o_ge) (d_w 6) d_int) (d_and1 (d_tc (o_notinA rfl hu5) (d_w 6) (d_w 5)))))) (b_cons (s_app 5 (d_v 6))
    (b_one (s_set 6 nd (d_methS 5 h_Choice_blocker hr (by decide) (d_v 0) (d_ac (d_v 1) (d_ac (d_v 2) (d_ac (d_v 6) d_an))) (len_c (len_c (len_c len_n))))))))
    (b_one (s_if (d_tc (o_lt) (d_w 6) d_int) (b_one (s_ret (d_ix (o_ixA rfl hu5) (d_w 5) (d_un o_neg d_int)))) b_nil))))))
    (b_one (s_ret (d_un o_neg d_int))))
  exact ⟨C, f, fd, ["self", "tasks", "statuses", "guard"], (["order", "rules"] : List Str), rfl, hcl, mk, M.FunD.fnIn F, z, F.bindsN fun _ _ _ _ _ _ us hl => match us, hl with | [_, _, _, _], _ => rfl⟩
def m_check_supply : FS :=
    (sSeq (sIf (tNo (tB' (e3 leD leD (eI (1)) (eW 0) (eG gv_MOST_STATES)))) (sExc0 202) sNil)
    (sSeq (sIf (tO (tNo (tT' (eW 2))) (tO (tB' (e2 ltD (e1 lenSetD (eW 2)) (eC (f1 lenD) (aC (eW 2) aN)))) (tO (tB' (e2 ltD (e2 ixA (eW 2) (eI (0))) (eI (0)))) (tB' (e2 geD (e2 ixA (eW 2) (e1 negD (eI (1)))) (eW 0)))))) (sExc0 202) sNil)
    (sSeq (sIf (tB' (e2 ltD (e1 lenSetD (eW 1)) (eC (f1 lenD) (aC (eW 1) aN)))) (sExc0 202) sNil)
    (sSeq (sFor (fun S => (eV 1) S >>= itemsD) (gT 3 (gsC (gN 3) (gsC (gN 4) (gsC (gN 5) gsN)))) (sIf (tO (tNo (tB' (e3 leD ltD (eI (0)) (eW 3) (eW 0)))) (tO (tNo (tB' (e3 leD ltD (eI (0)) (eW 5) (eW 0)))) (tB' (e2 notInA (eW 4) (eT (aC (eI (0)) (aC (eI (1)) aN))))))) (sExc0 202) sNil))
    (sIf (tB' (e2 ltD (lenScK (fun S => (eV 1) S >>= itemsD) (gT 3 (gsC (gN 3) (gsC (gN 4) (gsC (gN 5) gsN)))) tY (eV 3) [3, 4, 5]) (eW 0))) (sExc0 202) sNil)))))
def d_check_supply : List D → R D := runF false 6 m_check_supply
theorem sc_check_supply : FnScope ["size", "steps", "starts", "state", "bit", "ahead"] ["size", "steps", "starts"] (defScope st_check_supply) := ⟨rfl, rfl, rfl, by decide +kernel, rfl, by decide +kernel, by decide +kernel⟩
theorem ok_check_supply {f : Addr} {fd : FuncData} (F : FunD K "check_supply" "check_supply" (defArgs st_check_supply) (defBody st_check_supply) (defScope st_check_supply) [] [] f fd) (mgf : mg "check_supply" = some (.ref f)) (B : Bt mg) (g_MOST_STATES : Gc mg ⟨K, cl⟩ "MOST_STATES" gv_MOST_STATES) (R_InvalidSupply : RaO K mg ⟨K, cl⟩ "InvalidSupply" 202) : CalleeX P w K mg base ⟨K, cl⟩ 1 "check_supply" 3 false d_check_supply := by
  have nd : (["size", "steps", "starts", "state", "bit", "ahead"] : List Str).Nodup := sc_check_supply.nd
  have z := fn_okX (P := P) (w := w) (mg := mg) (base := base) (k := ⟨K, cl⟩) (fr := false) (lv := 0) (as := _) (s := m_check_supply) F sc_check_supply fun cdv A outer sh H G0 E hr tk => by
    have hu := hr.units
    have hu5 := hr.units5
    exact (b_cons (s_if (d_not (d_tch (o_le) (o_le) d_int (d_w 0) (d_g g_MOST_STATES))) (b_one (s_raise0 R_InvalidSupply rfl tk)) b_nil)
    (b_cons (s_if (d_pw (d_or (d_not (d_tt rfl (d_w 2))) (d_or (d_tc (o_lt) (d_lenSet rfl rfl hu B.len B.set (d_w 2)) (d_bltn (c_len rfl) B.len (d_ab (d_w 2) d_an))) (d_or (d_tc (o_lt) (d_ix (o_ixA rfl hu5) (d_w 2) d_int) d_int) (d_or1 (d_tc (o_ge) (d_ix (o_ixA rfl hu5) (d_w 2) (d_un o_neg d_int)) (d_w 0))))))) (b_one (s_raise0 R_InvalidSupply rfl tk)) b_nil)
    (b_cons (s_if (d_tc (o_lt) (d_lenSet rfl rfl hu B.len B.set (d_w 1)) (d_bltn (c_len rfl) B.len (d_ab (d_w 1) d_an))) (b_one (s_raise0 R_InvalidSupply rfl tk)) b_nil)
    (b_cons (s_for (L2.passes_of rfl) rfl (i_seq rfl (d_v 1)) (g_t rfl rfl (gs_c (g_n 3 nd) (gs_c (g_n 4 nd) (gs_c (g_n 5 nd) gs_n)))) (b_one (s_if (d_pw (d_or (d_not (d_tch (o_le) (o_lt) d_int (d_w 3) (d_w 0))) (d_or (d_not (d_tch (o_le) (o_lt) d_int (d_w 5) (d_w 0))) (d_or1 (d_tc (o_notinA rfl hu5) (d_w 4) (d_tup (d_ac d_int (d_ac d_int d_an)))))))) (b_one (s_raise0 R_InvalidSupply rfl tk)) b_nil)))
    (b_one (s_if (d_tc (o_lt) (d_lenScK [("state", 3), ("bit", 4), ("ahead", 5)] rfl hu B.len rfl nd (i_seq rfl (d_v 1)) (blkOk_by (N := ["size", "steps", "starts", "state", "bit", "ahead"]) (sc := (defScope st_check_supply)) (by decide +kernel)) (fun _ _ _ _ _ => (g_t rfl rfl (gs_c (g_n 3 nd) (gs_c (g_n 4 nd) (gs_c (g_n 5 nd) gs_n))))) (fun _ _ _ _ _ => ts_n) (fun _ _ _ _ _ => (d_v 3))) (d_w 0)) (b_one (s_raise0 R_InvalidSupply rfl tk)) b_nil))))))
  exact ⟨f, fd, ["size", "steps", "starts"], rfl, z, mgf, F.kp, F.bindsN fun _ _ _ _ _ _ us hl => match us, hl with | [_, _, _], _ => rfl⟩
def m_moves_of : FS :=
    (sSeq (sOwn 1 (fun _ => .ok (.dit [] [])))
    (sSeq (sFor (fun S => (eV 0) S >>= itemsD) (gT 3 (gsC (gN 2) (gsC (gN 3) (gsC (gN 4) gsN)))) (sPutA 1 (eT (aC (eV 2) (aC (eV 3) aN))) (e2 addD (eGet2 (eW 1) (eT (aC (eV 2) (aC (eV 3) aN))) (eT aN)) (eT (aC (eV 4) aN)))))
    (sRetO 1)))
def d_moves_of : List D → R D := fun ds => (runF true 5 m_moves_of ds).nox
theorem sc_moves_of : FnScope ["steps", "found", "state", "bit", "ahead"] ["steps"] (defScope st_moves_of) := ⟨rfl, rfl, rfl, by decide +kernel, rfl, by decide +kernel, by decide +kernel⟩
theorem ok_moves_of {f : Addr} {fd : FuncData} (F : FunD K "moves_of" "moves_of" (defArgs st_moves_of) (defBody st_moves_of) (defScope st_moves_of) [] [] f fd) (mgf : mg "moves_of" = some (.ref f)) (B : Bt mg)  : Callee P w K mg base ⟨K, cl⟩ 1 "moves_of" 1 true d_moves_of := by
  have nd : (["steps", "found", "state", "bit", "ahead"] : List Str).Nodup := sc_moves_of.nd
  have z := fn_ok (P := P) (w := w) (mg := mg) (base := base) (k := ⟨K, cl⟩) (fr := true) (lv := 0) (as := [1, 2, 3, 4, 1001]) (s := m_moves_of) F sc_moves_of fun cdv A outer sh H G0 hr => by
    have hu := hr.units
    have hu5 := hr.units5
    exact (b_cons (s_own 1 nd d_dnewT)
    (b_cons (s_for PassesOwn.never rfl (i_seq rfl (d_v 0)) (g_t rfl rfl (gs_c (g_n 2 nd) (gs_c (g_n 3 nd) (gs_c (g_n 4 nd) gs_n)))) (b_one (s_putA 1 hu (d_op (o_add rfl) (d_get2A hu (d_w 1) (d_tup (d_ac (d_v 2) (d_ac (d_v 3) d_an))) (d_tup d_an)) (d_tup (d_ac (d_v 4) d_an))) (d_tup (d_ac (d_v 2) (d_ac (d_v 3) d_an))))))
    (b_one (s_retO 1))))
  exact ⟨f, fd, ["steps"], rfl, z, mgf, F.kp, F.bindsN fun _ _ _ _ _ _ us hl => match us, hl with | [_], _ => rfl⟩
def m_Supply : FS :=
    (sSeq (sFldN 3 0 0 (eV 1))
    (sSeq (sFldN 3 0 1 (eC (f1 tupD) (aC (eC (f1 srtAD) (aC (lcE (fun S => (eV 2) S >>= itemsD) (gN 4) tY (eC (f1 tupD) (aC (eW 4) aN)) [4]) aN)) aN)))
    (sSeq (sFldN 3 0 2 (eC (f1 tupD) (aC (eC (f1 srtAD) (aC (eW 3) aN)) aN)))
    (sSeq (sDrop (eCX d_check_supply (aC (eV 1) (aC (e1 (fldD 3 1) (eW 0)) (aC (e1 (fldD 3 2) (eW 0)) aN)))))
    (sFldN 3 0 3 (eC d_moves_of (aC (e1 (fldD 3 1) (eW 0)) aN)))))))
def d_Supply : List D → R D := runN 5 3 m_Supply
theorem sc_Supply : FnScope ["self", "size", "steps", "starts", "step"] ["self", "size", "steps", "starts"] (defScope st_Supply) := ⟨rfl, rfl, rfl, by decide +kernel, rfl, by decide +kernel, by decide +kernel⟩
theorem ok_Supply {C f : Addr} {fd : FuncData} {dvs : List V} (hdd : ∀ G, RDs ⟨K, cl⟩ G [.tup [.int 0]] dvs) (F : FunD K "__init__" "Supply.__init__" (defArgs st_Supply) (defBody st_Supply) (defScope st_Supply) [] ((["starts"] : List Str).zip dvs) f fd) (hcl : cl 3 = some (C, (["size", "steps", "starts", "moves"] : List Str))) (mk : Mk K C f) (mgf : mg "Supply" = some (.ref C)) (B : Bt mg) (C_Supply : ClsI K ⟨K, cl⟩ 3 (["size", "steps", "starts", "moves"] : List Str)) (h_check_supply : CalleeX P w K mg base ⟨K, cl⟩ 1 "check_supply" 3 false d_check_supply) (h_moves_of : Callee P w K mg base ⟨K, cl⟩ 1 "moves_of" 1 true d_moves_of) : MakerXD P w K mg base ⟨K, cl⟩ 2 "Supply" 3 2 [.tup [.int 0]] d_Supply := by
  have nd : (["self", "size", "steps", "starts", "step"] : List Str).Nodup := sc_Supply.nd
  have z := init_okX (P := P) (w := w) (mg := mg) (base := base) (k := ⟨K, cl⟩) (ci := 3) (lv := 1) (as := [1000, 1000, 1000, 1000]) (s := m_Supply) F sc_Supply (by decide) fun cdv A outer sh H H0 G0 E hr tk => by
    have hu := hr.units
    have hu5 := hr.units5
    exact (b_cons (s_fld 3 0 0 C_Supply rfl (d_v 1))
    (b_cons (s_fld 3 0 1 C_Supply rfl (d_btyp (c_tup rfl) B.tuple (d_ab (d_bltn (c_srtA rfl hu) B.sorted (d_ab (d_lc [("step", 4)] rfl nd (i_seq rfl (d_v 2)) (blkOk_by (N := ["self", "size", "steps", "starts", "step"]) (sc := (defScope st_Supply)) (by decide +kernel)) (fun _ _ _ _ _ => (g_n 4 nd)) (fun _ _ _ _ _ => ts_n) (fun _ _ _ _ _ => (d_btyp (c_tup rfl) B.tuple (d_ab (d_w 4) d_an)))) d_an)) d_an)))
    (b_cons (s_fld 3 0 2 C_Supply rfl (d_btyp (c_tup rfl) B.tuple (d_ab (d_bltn (c_srtA rfl hu) B.sorted (d_ab (d_w 3) d_an)) d_an)))
    (b_cons (s_drop (d_callXS h_check_supply hr (by decide) tk (d_ac (d_v 1) (d_ac (d_fld 3 1 C_Supply rfl (d_w 0)) (d_ac (d_fld 3 2 C_Supply rfl (d_w 0)) d_an))) (len_c (len_c (len_c len_n)))))
    (b_one (s_fld 3 0 3 C_Supply rfl (d_z (d_callF (h_moves_of.at hr (by decide)) (d_ac (d_fld 3 1 C_Supply rfl (d_w 0)) d_an) (len_c len_n)))))))))
  have hl0 : dvs.length = 1 := (hdd (fun _ => none)).length.symm
  obtain ⟨ds, hv, hb⟩ := F.binds0 (ps := ["self", "size", "steps", "starts"]) 3 (by intro h; have := congrArg List.length h; simp [hl0] at this) (by simp [hl0]) (match dvs, hl0 with | [_], _ => fun D doc pm an cdv ct us ks l1 l2 => match us, ks, l1, l2 with | [_, _, _], [_], _, _ => ⟨_, _, _, _, _, _, rfl, rfl, rfl⟩)
  exact ⟨C, f, fd, ["self", "size", "steps", "starts"], (["size", "steps", "starts", "moves"] : List Str), dvs, ds, hcl, mk, z, mgf, hb, (match dvs, hl0, hv with | [_], _, hv => hv), hdd⟩
theorem okk_Supply {C f : Addr} {fd : FuncData} {dvs : List V} (hdd : ∀ G, RDs ⟨K, cl⟩ G [.tup [.int 0]] dvs) (F : FunD K "__init__" "Supply.__init__" (defArgs st_Supply) (defBody st_Supply) (defScope st_Supply) [] ((["starts"] : List Str).zip dvs) f fd) (hcl : cl 3 = some (C, (["size", "steps", "starts", "moves"] : List Str))) (mk : Mk K C f) (mgf : mg "Supply" = some (.ref C)) (B : Bt mg) (C_Supply : ClsI K ⟨K, cl⟩ 3 (["size", "steps", "starts", "moves"] : List Str)) (h_check_supply : CalleeX P w K mg base ⟨K, cl⟩ 1 "check_supply" 3 false d_check_supply) (h_moves_of : Callee P w K mg base ⟨K, cl⟩ 1 "moves_of" 1 true d_moves_of) : MakerXK P w K mg base ⟨K, cl⟩ 2 "Supply" 3 2 ["starts"] d_Supply := by
  have nd : (["self", "size", "steps", "starts", "step"] : List Str).Nodup := sc_Supply.nd
  have z := init_okX (P := P) (w := w) (mg := mg) (base := base) (k := ⟨K, cl⟩) (ci := 3) (lv := 1) (as := [1000, 1000, 1000, 1000]) (s := m_Supply) F sc_Supply (by decide) fun cdv A outer sh H H0 G0 E hr tk => by
    have hu := hr.units
    have hu5 := hr.units5
    exact (b_cons (s_fld 3 0 0 C_Supply rfl (d_v 1))
    (b_cons (s_fld 3 0 1 C_Supply rfl (d_btyp (c_tup rfl) B.tuple (d_ab (d_bltn (c_srtA rfl hu) B.sorted (d_ab (d_lc [("step", 4)] rfl nd (i_seq rfl (d_v 2)) (blkOk_by (N := ["self", "size", "steps", "starts", "step"]) (sc := (defScope st_Supply)) (by decide +kernel)) (fun _ _ _ _ _ => (g_n 4 nd)) (fun _ _ _ _ _ => ts_n) (fun _ _ _ _ _ => (d_btyp (c_tup rfl) B.tuple (d_ab (d_w 4) d_an)))) d_an)) d_an)))
    (b_cons (s_fld 3 0 2 C_Supply rfl (d_btyp (c_tup rfl) B.tuple (d_ab (d_bltn (c_srtA rfl hu) B.sorted (d_ab (d_w 3) d_an)) d_an)))
    (b_cons (s_drop (d_callXS h_check_supply hr (by decide) tk (d_ac (d_v 1) (d_ac (d_fld 3 1 C_Supply rfl (d_w 0)) (d_ac (d_fld 3 2 C_Supply rfl (d_w 0)) d_an))) (len_c (len_c (len_c len_n)))))
    (b_one (s_fld 3 0 3 C_Supply rfl (d_z (d_callF (h_moves_of.at hr (by decide)) (d_ac (d_fld 3 1 C_Supply rfl (d_w 0)) d_an) (len_c len_n)))))))))
  have hl0 : dvs.length = 1 := (hdd (fun _ => none)).length.symm
  obtain ⟨mv, kb⟩ := F.kbinds0 (ps := ["self", "size", "steps", "starts"]) 3 ["starts"] [] (fun us _ ws => us ++ ws) (by intro h; have := congrArg List.length h; simp [hl0] at this) (fun q hq => nomatch hq) (fun r1 _ r3 => r1.append r3) (fun _ _ _ _ _ _ us mv ws l1 l2 l3 => match us, mv, ws, l1, l2, l3 with | [_, _, _], [], [_], _, _, _ => rfl)
  exact ⟨C, f, fd, ["self", "size", "steps", "starts"], (["size", "steps", "starts", "moves"] : List Str), _, hcl, mk, z, mgf, kb⟩
def m_weight_of : FS :=
    (sSeq (sSet 2 (e1 (fldD 3 0) (eW 0)))
    (sSeq (sFor (fun S => (eV 1) S >>= itemsD) (gN 3) (sAugM 2 (e2 addD (eI (1)) (eC (f1 sumD) (aC (lcE (fun S => (aC (e1 (fldD 4 0) (eW 3)) aN) S >>= enumerateF) (gT 2 (gsC (gN 4) (gsC (gT 2 (gsC (gN 5) (gsC (gN 6) gsN))) gsN))) tY (e2 mulD (e2 addD (eM 4 d_Task_cap (eV 3) (aC (eV 4) aN)) (eI (1))) (e2 addD (eC (f1 lenD) (aC (eW 5) aN)) (eI (2)))) [4, 5, 6]) aN)))))
    (sRet (eV 2))))
def d_weight_of : List D → R D := fun ds => (runF false 7 m_weight_of ds).nox
theorem sc_weight_of : FnScope ["supply", "tasks", "weight", "task", "node", "plan", "due"] ["supply", "tasks"] (defScope st_weight_of) := ⟨rfl, rfl, rfl, by decide +kernel, rfl, by decide +kernel, by decide +kernel⟩
theorem ok_weight_of {f : Addr} {fd : FuncData} (F : FunD K "weight_of" "weight_of" (defArgs st_weight_of) (defBody st_weight_of) (defScope st_weight_of) [] [] f fd) (mgf : mg "weight_of" = some (.ref f)) (B : Bt mg) (C_Supply : ClsI K ⟨K, cl⟩ 3 (["size", "steps", "starts", "moves"] : List Str)) (C_Task : ClsI K ⟨K, cl⟩ 4 (["nodes", "edges", "steady", "caps"] : List Str)) (h_Task_cap : Method P w K mg base ⟨K, cl⟩ 1 4 "cap" 2 false d_Task_cap) : Callee P w K mg base ⟨K, cl⟩ 2 "weight_of" 2 false d_weight_of := by
  have nd : (["supply", "tasks", "weight", "task", "node", "plan", "due"] : List Str).Nodup := sc_weight_of.nd
  have z := fn_ok (P := P) (w := w) (mg := mg) (base := base) (k := ⟨K, cl⟩) (fr := false) (lv := 1) (as := [2, 3, 2]) (s := m_weight_of) F sc_weight_of fun cdv A outer sh H G0 hr => by
    have hu := hr.units
    have hu5 := hr.units5
    exact (b_cons (s_set 2 nd (d_fld 3 0 C_Supply rfl (d_w 0)))
    (b_cons (s_for PassesOwn.never rfl (i_seq rfl (d_v 1)) (g_n 3 nd) (b_one (s_augM 2 nd (d_op (o_add rfl) d_int (d_bltn (c_sum rfl) B.sum (d_ab (d_lc [("node", 4), ("plan", 5), ("due", 6)] rfl nd (i_enumerate rfl B.enumerate (d_ac (d_fld 4 0 C_Task rfl (d_w 3)) d_an)) (blkOk_by (N := ["supply", "tasks", "weight", "task", "node", "plan", "due"]) (sc := (defScope st_weight_of)) (by decide +kernel)) (fun _ _ _ _ _ => (g_t rfl rfl (gs_c (g_n 4 nd) (gs_c (g_t rfl rfl (gs_c (g_n 5 nd) (gs_c (g_n 6 nd) gs_n))) gs_n)))) (fun _ _ _ _ _ => ts_n) (fun _ _ _ _ _ => (d_op (o_mul rfl) (d_op (o_add rfl) (d_methS 4 h_Task_cap hr (by decide) (d_v 3) (d_ac (d_v 4) d_an) (len_c len_n)) d_int) (d_op (o_add rfl) (d_bltn (c_len rfl) B.len (d_ab (d_w 5) d_an)) d_int)))) d_an))))))
    (b_one (s_ret (d_v 2)))))
  exact ⟨f, fd, ["supply", "tasks"], rfl, z, mgf, F.kp, F.bindsN fun _ _ _ _ _ _ us hl => match us, hl with | [_, _], _ => rfl⟩
def m_Core : FS :=
    (sSeq (sIf (tO (tB' (e2 gtD (eC (f1 lenD) (aC (eW 5) aN)) (eG gv_MOST_TASKS))) (tO (tB' (e2 notInA (eW 3) (eG gv_DOORS))) (tB' (e2 notInA (eW 4) (eG gv_GUARDS))))) sNo sNil)
    (sSeq (sFldN 6 0 0 (eV 1))
    (sSeq (sFldN 6 0 1 (eC (f1 tupD) (aC (eW 5) aN)))
    (sSeq (sFldN 6 0 2 (eIf (tB' (e2 isD (eW 2) eN)) eNo (eV 2)))
    (sSeq (sFldN 6 0 3 (eV 3))
    (sSeq (sFldN 6 0 4 (eV 4))
    (sSeq (sFldN 6 0 5 (eC d_weight_of (aC (eV 1) (aC (e1 (fldD 6 1) (eW 0)) aN))))
    (sSeq (sIf (tB' (e2 gtD (e1 (fldD 6 5) (eW 0)) (eG gv_MOST_WEIGHT))) sNo sNil)
    (sSeq (sSet 6 (eLstRg (rg1 (eC (f1 lenD) (aC (eW 5) aN)))))
    (sFldN 6 0 6 (eC (f1 tupD) (aC (e2 addD (e2 addD (e2 addD (eL (aC (eS "choice") aN)) (lcE (fun S => (eV 6) S >>= itemsD) (gN 7) tY (eFs (fsC (eS "gaps") (fsC (eFmt (eV 7)) fsN))) [7])) (lcE (fun S => (eV 6) S >>= itemsD) (gN 7) tY (eFs (fsC (eS "needs") (fsC (eFmt (eV 7)) fsN))) [7])) (eL (aC (eS "supply") aN))) aN))))))))))))
def d_Core : List D → R D := runN 8 6 m_Core
theorem sc_Core : FnScope ["self", "supply", "choice", "door", "guard", "tasks", "numbers", "i"] ["self", "supply", "choice", "door", "guard", "tasks"] (defScope st_Core) := ⟨rfl, rfl, rfl, by decide +kernel, rfl, by decide +kernel, by decide +kernel⟩
theorem okS_Core_111 {C f : Addr} {fd : FuncData} {v0 v1 v2 : V} (hdd : ∀ G, RDs ⟨K, cl⟩ G [.non, .str "shut", .str "cut"] [v0, v1, v2]) (F : FunD K "__init__" "Core.__init__" (defArgs st_Core) (defBody st_Core) (defScope st_Core) [] [("choice", v0), ("door", v1), ("guard", v2)] f fd) (hcl : cl 6 = some (C, (["supply", "tasks", "choice", "door", "guard", "weight", "parties"] : List Str))) (mk : Mk K C f) (mgf : mg "Core" = some (.ref C)) (B : Bt mg) (g_MOST_TASKS : Gc mg ⟨K, cl⟩ "MOST_TASKS" gv_MOST_TASKS) (g_DOORS : Gc mg ⟨K, cl⟩ "DOORS" gv_DOORS) (g_GUARDS : Gc mg ⟨K, cl⟩ "GUARDS" gv_GUARDS) (C_Core : ClsI K ⟨K, cl⟩ 6 (["supply", "tasks", "choice", "door", "guard", "weight", "parties"] : List Str)) (h_weight_of : Callee P w K mg base ⟨K, cl⟩ 2 "weight_of" 2 false d_weight_of) (g_MOST_WEIGHT : Gc mg ⟨K, cl⟩ "MOST_WEIGHT" gv_MOST_WEIGHT) : MakerXS P w K mg base ⟨K, cl⟩ 3 "Core" 6 1 [true, true, true] ["choice", "door", "guard"] [.non, .str "shut", .str "cut"] d_Core := by
  have nd : (["self", "supply", "choice", "door", "guard", "tasks", "numbers", "i"] : List Str).Nodup := sc_Core.nd
  obtain ⟨mv, rmv, sb⟩ := starB2 (ps := ["self", "supply", "choice", "door", "guard"]) (pv := "tasks") F 2 ["choice", "door", "guard"] [] (fun us mv ws => us ++ M.mixK [true, true, true] mv ws) (by simp) (by simp) fun _ _ _ _ _ _ us rest mv ws l1 l2 l3 => match us, rest, mv, ws, l1, l2, l3 with | [_, _], [], [], [_, _, _], _, _, _ => rfl | [_, _], _ :: _, [], [_, _, _], _, _, _ => rfl
  have sr : ∀ {vs : List V} {us : List Value} {zs : List V} {ws : List Value}, Vals vs us → Vals zs ws → Vals (vs ++ M.mergeK [true, true, true] [v0, v1, v2] zs) (us ++ M.mixK [true, true, true] mv ws) := fun r q => r.append (by rw [mergeK_mix [true, true, true] [v0, v1, v2] _ rfl]; exact Vals.mixK rmv q)
  have z := init_okS (P := P) (w := w) (mg := mg) (base := base) (k := ⟨K, cl⟩) (ci := 6) (lv := 2) (as := [1000, 1000, 1000, 1000, 1000, 1000, 6, 1000]) (s := m_Core) (N := ["self", "supply", "choice", "door", "guard", "tasks", "numbers", "i"]) (ps := ["self", "supply", "choice", "door", "guard"]) (pv := "tasks") F sc_Core (by decide) sb (gV := fun vs zs => vs ++ M.mergeK [true, true, true] [v0, v1, v2] zs) sr (by intro us ws l1 l2; have l3 := rmv.length; match us, mv, ws, l1, l2, l3 with | [_, _], [], [_, _, _], _, _, _ => rfl) fun cdv A outer sh H H0 G0 E hr tk => by
    have hu := hr.units
    have hu5 := hr.units5
    exact (b_cons (s_if (d_pw (d_or (d_tc (o_gt) (d_bltn (c_len rfl) B.len (d_ab (d_w 5) d_an)) (d_g g_MOST_TASKS)) (d_or (d_tc (o_notinA rfl hu5) (d_w 3) (d_g g_DOORS)) (d_or1 (d_tc (o_notinA rfl hu5) (d_w 4) (d_g g_GUARDS)))))) (b_one s_no) b_nil)
    (b_cons (s_fld 6 0 0 C_Core rfl (d_v 1))
    (b_cons (s_fld 6 0 1 C_Core rfl (d_btyp (c_tup rfl) B.tuple (d_ab (d_w 5) d_an)))
    (b_cons (s_fld 6 0 2 C_Core rfl (d_ite (d_tc (o_is) (d_w 2) d_non) (d_z d_no) (d_v 2)))
    (b_cons (s_fld 6 0 3 C_Core rfl (d_v 3))
    (b_cons (s_fld 6 0 4 C_Core rfl (d_v 4))
    (b_cons (s_fld 6 0 5 C_Core rfl (d_callS (h_weight_of.at hr (by decide)) (d_ac (d_v 1) (d_ac (d_fld 6 1 C_Core rfl (d_w 0)) d_an)) (len_c (len_c len_n))))
    (b_cons (s_if (d_tc (o_gt) (d_fld 6 5 C_Core rfl (d_w 0)) (d_g g_MOST_WEIGHT)) (b_one s_no) b_nil)
    (b_cons (s_set 6 nd (d_z (d_lstRg rfl B.list (d_rg1 B.range (d_bltn (c_len rfl) B.len (d_ab (d_w 5) d_an))))))
    (b_one (s_fld 6 0 6 C_Core rfl (d_btyp (c_tup rfl) B.tuple (d_ab (d_op (o_add rfl) (d_op (o_add rfl) (d_op (o_add rfl) (d_lst (d_ac d_str d_an)) (d_lc [("i", 7)] rfl nd (i_seq rfl (d_v 6)) (blkOk_by (N := ["self", "supply", "choice", "door", "guard", "tasks", "numbers", "i"]) (sc := (defScope st_Core)) (by decide +kernel)) (fun _ _ _ _ _ => (g_n 7 nd)) (fun _ _ _ _ _ => ts_n) (fun _ _ _ _ _ => (d_fs (fs_c d_str (fs_c (d_fmt (d_v 7)) fs_n)))))) (d_lc [("i", 7)] rfl nd (i_seq rfl (d_v 6)) (blkOk_by (N := ["self", "supply", "choice", "door", "guard", "tasks", "numbers", "i"]) (sc := (defScope st_Core)) (by decide +kernel)) (fun _ _ _ _ _ => (g_n 7 nd)) (fun _ _ _ _ _ => ts_n) (fun _ _ _ _ _ => (d_fs (fs_c d_str (fs_c (d_fmt (d_v 7)) fs_n)))))) (d_lst (d_ac d_str d_an))) d_an)))))))))))))
  exact ⟨C, f, (["supply", "tasks", "choice", "door", "guard", "weight", "parties"] : List Str), [v0, v1, v2], hcl, mk, mgf, hdd, rfl, rfl, z⟩
def m_Core_arrived : FS :=
    (sSeq (sOwn 3 (eL aN))
    (sSeq (sFor (fun S => (aC (e1 (fldD 6 1) (eW 0)) (aC (e2 ixA (eW 1) (eI (1))) (aC (eV 2) aN))) S >>= zip3F) (gT 3 (gsC (gN 4) (gsC (gN 5) (gsC (gN 6) gsN)))) (sIf (tO (tB' (e2 ltD (eW 6) (eI (0)))) (tO (tT' (eM 4 d_Task_unfinished (eV 4) (aC (eV 5) aN))) (tA (tB' (e2 eqD (e1 (fldD 6 3) (eW 0)) (eS "shut"))) (tNo (tT' (eM 4 d_Task_allows (eV 4) (aC (eV 5) (aC (eV 6) aN)))))))) (sApp 3 (eV 5)) (sApp 3 (eT (aC (eV 6) (aC (eI (0)) (aC (eI (0)) (aC (eI (0)) aN))))))))
    (sRet (eC (f1 tupD) (aC (eW 3) aN)))))
def d_Core_arrived : List D → R D := fun ds => (runF false 7 m_Core_arrived ds).nox
theorem sc_Core_arrived : FnScope ["self", "standing", "comes", "found", "task", "status", "node"] ["self", "standing", "comes"] (defScope st_Core_arrived) := ⟨rfl, rfl, rfl, by decide +kernel, rfl, by decide +kernel, by decide +kernel⟩
theorem ok_Core_arrived {C f : Addr} {fd : FuncData} (F : FunD K "arrived" "Core.arrived" (defArgs st_Core_arrived) (defBody st_Core_arrived) (defScope st_Core_arrived) [] [] f fd) (hcl : cl 6 = some (C, (["supply", "tasks", "choice", "door", "guard", "weight", "parties"] : List Str))) (mc : Cls K C) (mk : Meth K C "arrived" f) (B : Bt mg) (C_Core : ClsI K ⟨K, cl⟩ 6 (["supply", "tasks", "choice", "door", "guard", "weight", "parties"] : List Str)) (h_Task_unfinished : Method P w K mg base ⟨K, cl⟩ 1 4 "unfinished" 2 false d_Task_unfinished) (h_Task_allows : Method P w K mg base ⟨K, cl⟩ 1 4 "allows" 3 false d_Task_allows) : Method P w K mg base ⟨K, cl⟩ 2 6 "arrived" 3 false d_Core_arrived := by
  have nd : (["self", "standing", "comes", "found", "task", "status", "node"] : List Str).Nodup := sc_Core_arrived.nd
  have z := fn_ok (P := P) (w := w) (mg := mg) (base := base) (k := ⟨K, cl⟩) (fr := false) (lv := 1) (as := [3, 4, 5, 6, 1003, 1003]) (s := m_Core_arrived) F sc_Core_arrived fun cdv A outer sh H G0 hr => by
    have hu := hr.units
    have hu5 := hr.units5
    exact (b_cons (s_own 3 nd (d_lst d_an))
    (b_cons (s_for PassesOwn.never rfl (i_zip3 rfl B.zip (d_ac (d_fld 6 1 C_Core rfl (d_w 0)) (d_ac (d_ix (o_ixA rfl hu5) (d_w 1) d_int) (d_ac (d_v 2) d_an)))) (g_t rfl rfl (gs_c (g_n 4 nd) (gs_c (g_n 5 nd) (gs_c (g_n 6 nd) gs_n)))) (b_one (s_if (d_pw (d_or (d_tc (o_lt) (d_w 6) d_int) (d_or (d_tt rfl (d_methS 4 h_Task_unfinished hr (by decide) (d_v 4) (d_ac (d_v 5) d_an) (len_c len_n))) (d_or1 (d_pw (d_and (d_tc (o_eq rfl hu) (d_fld 6 3 C_Core rfl (d_w 0)) d_str) (d_and1 (d_not (d_tt rfl (d_methS 4 h_Task_allows hr (by decide) (d_v 4) (d_ac (d_v 5) (d_ac (d_v 6) d_an)) (len_c (len_c len_n)))))))))))) (b_one (s_app 3 (d_v 5))) (b_one (s_app 3 (d_tup (d_ac (d_v 6) (d_ac d_int (d_ac d_int (d_ac d_int d_an))))))))))
    (b_one (s_ret (d_btyp (c_tup rfl) B.tuple (d_ab (d_w 3) d_an))))))
  exact ⟨C, f, fd, ["self", "standing", "comes"], (["supply", "tasks", "choice", "door", "guard", "weight", "parties"] : List Str), rfl, hcl, by decide, mc, mk, z, F.bindsN fun _ _ _ _ _ _ us hl => match us, hl with | [_, _, _], _ => rfl⟩
def m_Core_chosen : FS :=
    (sRet (eM 5 d_Choice___call__ (e1 (fldD 6 2) (eW 0)) (aC (e1 (fldD 6 1) (eW 0)) (aC (eM 6 d_Core_arrived (eV 0) (aC (eV 1) (aC (eV 2) aN))) (aC (e1 (fldD 6 4) (eW 0)) aN)))))
def d_Core_chosen : List D → R D := fun ds => (runF false 3 m_Core_chosen ds).nox
theorem sc_Core_chosen : FnScope ["self", "standing", "comes"] ["self", "standing", "comes"] (defScope st_Core_chosen) := ⟨rfl, rfl, rfl, by decide +kernel, rfl, by decide +kernel, by decide +kernel⟩
theorem ok_Core_chosen {C f : Addr} {fd : FuncData} (F : FunD K "chosen" "Core.chosen" (defArgs st_Core_chosen) (defBody st_Core_chosen) (defScope st_Core_chosen) [] [] f fd) (hcl : cl 6 = some (C, (["supply", "tasks", "choice", "door", "guard", "weight", "parties"] : List Str))) (mc : Cls K C) (mk : Meth K C "chosen" f) (B : Bt mg) (hc_Choice : CallO P w K mg base ⟨K, cl⟩ 5 5 4 d_Choice___call__) (C_Core : ClsI K ⟨K, cl⟩ 6 (["supply", "tasks", "choice", "door", "guard", "weight", "parties"] : List Str)) (h_Core_arrived : Method P w K mg base ⟨K, cl⟩ 2 6 "arrived" 3 false d_Core_arrived) : Method P w K mg base ⟨K, cl⟩ 6 6 "chosen" 3 false d_Core_chosen := by
  have nd : (["self", "standing", "comes"] : List Str).Nodup := sc_Core_chosen.nd
  have z := fn_ok (P := P) (w := w) (mg := mg) (base := base) (k := ⟨K, cl⟩) (fr := false) (lv := 5) (as := []) (s := m_Core_chosen) F sc_Core_chosen fun cdv A outer sh H G0 hr => by
    have hu := hr.units
    have hu5 := hr.units5
    exact (b_one (s_ret (d_callOF 5 6 2 hc_Choice hr (by decide) C_Core rfl (d_w 0) (d_ac (d_fld 6 1 C_Core rfl (d_w 0)) (d_ac (d_methS 6 h_Core_arrived hr (by decide) (d_v 0) (d_ac (d_v 1) (d_ac (d_v 2) d_an)) (len_c (len_c len_n))) (d_ac (d_fld 6 4 C_Core rfl (d_w 0)) d_an))) (len_c (len_c (len_c len_n))))))
  exact ⟨C, f, fd, ["self", "standing", "comes"], (["supply", "tasks", "choice", "door", "guard", "weight", "parties"] : List Str), rfl, hcl, by decide, mc, mk, z, F.bindsN fun _ _ _ _ _ _ us hl => match us, hl with | [_, _, _], _ => rfl⟩
def m__law_cell : FS :=
    (sSeq (sIf (tB' (e2 ltD (eW 1) (eC (f1 lenD) (aC (eW 0) aN)))) (sRet (e2 ixA (eW 0) (eW 1))) sNil)
    (sRet (eI (0))))
def d__law_cell : List D → R D := fun ds => (runF false 2 m__law_cell ds).nox
theorem sc__law_cell : FnScope ["_law_script", "_law_at"] ["_law_script", "_law_at"] (defScope st__law_cell) := ⟨rfl, rfl, rfl, by decide +kernel, rfl, by decide +kernel, by decide +kernel⟩
theorem ok__law_cell {f : Addr} {fd : FuncData} (F : FunD K "_law_cell" "_law_cell" (defArgs st__law_cell) (defBody st__law_cell) (defScope st__law_cell) [] [] f fd) (mgf : mg "_law_cell" = some (.ref f)) (B : Bt mg)  : Callee P w K mg base ⟨K, cl⟩ 1 "_law_cell" 2 false d__law_cell := by
  have nd : (["_law_script", "_law_at"] : List Str).Nodup := sc__law_cell.nd
  have z := fn_ok (P := P) (w := w) (mg := mg) (base := base) (k := ⟨K, cl⟩) (fr := false) (lv := 0) (as := []) (s := m__law_cell) F sc__law_cell fun cdv A outer sh H G0 hr => by
    have hu := hr.units
    have hu5 := hr.units5
    exact (b_cons (s_if (d_tc (o_lt) (d_w 1) (d_bltn (c_len rfl) B.len (d_ab (d_w 0) d_an))) (b_one (s_ret (d_ix (o_ixA rfl hu5) (d_w 0) (d_w 1)))) b_nil)
    (b_one (s_ret d_int)))
  exact ⟨f, fd, ["_law_script", "_law_at"], rfl, z, mgf, F.kp, F.bindsN fun _ _ _ _ _ _ us hl => match us, hl with | [_, _], _ => rfl⟩
def m__law_draws : FS :=
    (sSeq (sSet 3 (eC (f1 absD) (aC (eC d__law_cell (aC (eV 0) (aC (eV 1) aN))) aN)))
    (sSeq (sSet 4 (eI (0)))
    (sSeq (sIf (tB' (e2 geD (eW 3) (e2 powD (eI (10)) (eI (18))))) (sSet 4 (e2 subD (eW 3) (e2 powD (eI (10)) (eI (18))))) sNil)
    (sSeq (sOwn 5 (eL aN))
    (sSeq (sFor (fun S => (aC (eW 2) aN) S >>= rng1) (gN 6) (sIf (tB' (e2 gtD (eW 4) (eI (0)))) (sSeq (sApp 5 (e2 modD (eC (f1 intD) (aC (eW 4) aN)) (eI (60))))
    (sSet 4 (e2 fdivD (eW 4) (eI (60))))) (sSeq (sSet 7 (e2 modD (eC (f1 intD) (aC (e2 addD (e2 addD (e2 addD (e2 mulD (eW 3) (eI (48271))) (e2 mulD (eW 6) (eI (69621)))) (e2 mulD (eW 1) (eI (7919)))) (eI (12345))) aN)) (eI (99991))))
    (sSeq (sSet 7 (e2 modD (eC (f1 intD) (aC (e2 addD (e2 mulD (eW 7) (eW 7)) (e2 mulD (eW 6) (eI (101)))) aN)) (eI (999983))))
    (sSeq (sSet 7 (e2 modD (eC (f1 intD) (aC (e2 addD (e2 mulD (eW 7) (eW 7)) (e2 fdivD (eW 7) (eI (127)))) aN)) (eI (9999991))))
    (sApp 5 (e2 modD (eC (f1 intD) (aC (e2 fdivD (eW 7) (eI (11))) aN)) (eI (60)))))))))
    (sRetO 5))))))
def d__law_draws : List D → R D := fun ds => (runF true 8 m__law_draws ds).nox
theorem sc__law_draws : FnScope ["_law_script", "_law_at", "_law_count", "_law_cell_here", "_law_rest", "_law_found", "_law_k", "_law_mixed"] ["_law_script", "_law_at", "_law_count"] (defScope st__law_draws) := ⟨rfl, rfl, rfl, by decide +kernel, rfl, by decide +kernel, by decide +kernel⟩
theorem ok__law_draws {f : Addr} {fd : FuncData} (F : FunD K "_law_draws" "_law_draws" (defArgs st__law_draws) (defBody st__law_draws) (defScope st__law_draws) [] [] f fd) (mgf : mg "_law_draws" = some (.ref f)) (B : Bt mg) (h__law_cell : Callee P w K mg base ⟨K, cl⟩ 1 "_law_cell" 2 false d__law_cell) : Callee P w K mg base ⟨K, cl⟩ 2 "_law_draws" 3 true d__law_draws := by
  have nd : (["_law_script", "_law_at", "_law_count", "_law_cell_here", "_law_rest", "_law_found", "_law_k", "_law_mixed"] : List Str).Nodup := sc__law_draws.nd
  have z := fn_ok (P := P) (w := w) (mg := mg) (base := base) (k := ⟨K, cl⟩) (fr := true) (lv := 1) (as := [3, 4, 4, 5, 6, 1005, 4, 7, 7, 7, 1005]) (s := m__law_draws) F sc__law_draws fun cdv A outer sh H G0 hr => by
    have hu := hr.units
    have hu5 := hr.units5
    exact (b_cons (s_set 3 nd (d_bltn (c_abs) B.abs (d_ab (d_callS (h__law_cell.at hr (by decide)) (d_ac (d_v 0) (d_ac (d_v 1) d_an)) (len_c (len_c len_n))) d_an)))
    (b_cons (s_set 4 nd d_int)
    (b_cons (s_if (d_tc (o_ge) (d_w 3) (d_op (o_pow) d_int d_int)) (b_one (s_set 4 nd (d_op (o_sub) (d_w 3) (d_op (o_pow) d_int d_int)))) b_nil)
    (b_cons (s_own 5 nd (d_lst d_an))
    (b_cons (s_for PassesOwn.never rfl (i_rng1 B.range (d_ab (d_w 2) d_an)) (g_n 6 nd) (b_one (s_if (d_tc (o_gt) (d_w 4) d_int) (b_cons (s_app 5 (d_op (o_mod) (d_btyp (c_int) B.int (d_ab (d_w 4) d_an)) d_int))
    (b_one (s_set 4 nd (d_op (o_fdiv) (d_w 4) d_int)))) (b_cons (s_set 7 nd (d_op (o_mod) (d_btyp (c_int) B.int (d_ab (d_op (o_add rfl) (d_op (o_add rfl) (d_op (o_add rfl) (d_op (o_mul rfl) (d_w 3) d_int) (d_op (o_mul rfl) (d_w 6) d_int)) (d_op (o_mul rfl) (d_w 1) d_int)) d_int) d_an)) d_int))
    (b_cons (s_set 7 nd (d_op (o_mod) (d_btyp (c_int) B.int (d_ab (d_op (o_add rfl) (d_op (o_mul rfl) (d_w 7) (d_w 7)) (d_op (o_mul rfl) (d_w 6) d_int)) d_an)) d_int))
    (b_cons (s_set 7 nd (d_op (o_mod) (d_btyp (c_int) B.int (d_ab (d_op (o_add rfl) (d_op (o_mul rfl) (d_w 7) (d_w 7)) (d_op (o_fdiv) (d_w 7) d_int)) d_an)) d_int))
    (b_one (s_app 5 (d_op (o_mod) (d_btyp (c_int) B.int (d_ab (d_op (o_fdiv) (d_w 7) d_int) d_an)) d_int)))))))))
    (b_one (s_retO 5)))))))
  exact ⟨f, fd, ["_law_script", "_law_at", "_law_count"], rfl, z, mgf, F.kp, F.bindsN fun _ _ _ _ _ _ us hl => match us, hl with | [_, _, _], _ => rfl⟩
def m__law_choice : FS :=
    (sSeq (sIf (tB' (e2 eqD (eC (f1 lenD) (aC (e2 ixA (eW 0) (eS "rules")) aN)) (eI (0)))) (sRet (eCXS 1 [] [] d_Choice (aC (e2 ixA (eW 0) (eS "order")) aN) aN)) sNil)
    (sSeq (sIf (tB' (e2 eqD (eC (f1 lenD) (aC (e2 ixA (eW 0) (eS "rules")) aN)) (eI (1)))) (sRet (eCXS 1 [] [] d_Choice (aC (e2 ixA (eW 0) (eS "order")) (aC (e2 ixA (e2 ixA (eW 0) (eS "rules")) (eI (0))) aN)) aN)) sNil)
    (sRet (eCXS 1 [] [] d_Choice (aC (e2 ixA (eW 0) (eS "order")) (aC (e2 ixA (e2 ixA (eW 0) (eS "rules")) (eI (0))) (aC (e2 ixA (e2 ixA (eW 0) (eS "rules")) (eI (1))) aN))) aN))))
def d__law_choice : List D → R D := fun ds => (runF false 1 m__law_choice ds).nox
theorem sc__law_choice : FnScope ["_law_spec"] ["_law_spec"] (defScope st__law_choice) := ⟨rfl, rfl, rfl, by decide +kernel, rfl, by decide +kernel, by decide +kernel⟩
theorem ok__law_choice {f : Addr} {fd : FuncData} (F : FunD K "_law_choice" "_law_choice" (defArgs st__law_choice) (defBody st__law_choice) (defScope st__law_choice) [] [] f fd) (mgf : mg "_law_choice" = some (.ref f)) (B : Bt mg) (mS_Choice_ : MakerXS P w K mg base ⟨K, cl⟩ 1 "Choice" 5 1 [] [] [] d_Choice) : Callee P w K mg base ⟨K, cl⟩ 3 "_law_choice" 1 false d__law_choice := by
  have nd : (["_law_spec"] : List Str).Nodup := sc__law_choice.nd
  have z := fn_ok (P := P) (w := w) (mg := mg) (base := base) (k := ⟨K, cl⟩) (fr := false) (lv := 2) (as := []) (s := m__law_choice) F sc__law_choice fun cdv A outer sh H G0 hr => by
    have hu := hr.units
    have hu5 := hr.units5
    exact (b_cons (s_if (d_tc (o_eq rfl hu) (d_bltn (c_len rfl) B.len (d_ab (d_ix (o_ixA rfl hu5) (d_w 0) d_str) d_an)) d_int) (b_one (s_ret (d_z (d_makerXS (ks := []) mS_Choice_ hr (by decide) takes0 (d_ac (d_ix (o_ixA rfl hu5) (d_w 0) d_str) d_an) d_kn len_n)))) b_nil)
    (b_cons (s_if (d_tc (o_eq rfl hu) (d_bltn (c_len rfl) B.len (d_ab (d_ix (o_ixA rfl hu5) (d_w 0) d_str) d_an)) d_int) (b_one (s_ret (d_z (d_makerXS (ks := []) mS_Choice_ hr (by decide) takes0 (d_ac (d_ix (o_ixA rfl hu5) (d_w 0) d_str) (d_ac (d_ix (o_ixA rfl hu5) (d_ix (o_ixA rfl hu5) (d_w 0) d_str) d_int) d_an)) d_kn len_n)))) b_nil)
    (b_one (s_ret (d_z (d_makerXS (ks := []) mS_Choice_ hr (by decide) takes0 (d_ac (d_ix (o_ixA rfl hu5) (d_w 0) d_str) (d_ac (d_ix (o_ixA rfl hu5) (d_ix (o_ixA rfl hu5) (d_w 0) d_str) d_int) (d_ac (d_ix (o_ixA rfl hu5) (d_ix (o_ixA rfl hu5) (d_w 0) d_str) d_int) d_an))) d_kn len_n))))))
  exact ⟨f, fd, ["_law_spec"], rfl, z, mgf, F.kp, F.bindsN fun _ _ _ _ _ _ us hl => match us, hl with | [_], _ => rfl⟩
def m__law_core : FS :=
    (sSeq (sSet 1 (eCXK d_Supply (aC (e2 ixA (eW 0) (eS "size")) (aC (eC (f1 lstD) (aC (e2 ixA (eW 0) (eS "steps")) aN)) aN)) (aC (e2 ixA (eW 0) (eS "starts")) aN)))
    (sSeq (sSet 2 (lcE (fun S => (e2 ixA (eW 0) (eS "tasks")) S >>= itemsD) (gT 3 (gsC (gN 4) (gsC (gN 5) (gsC (gN 6) gsN)))) tY (eC d_Task (fApp (aC (eC (f1 lstD) (aC (eW 4) aN)) (aC (eC (f1 lstD) (aC (eW 5) aN)) aN)) (aC (eV 6) aN))) [4, 5, 6]))
    (sSeq (sSet 3 (eC d__law_choice (aC (eV 0) aN)))
    (sSeq (sIf (tB' (e2 eqD (eC (f1 lenD) (aC (eW 2) aN)) (eI (0)))) (sRet (eCXS 1 [true, true, true] [.non, .str "shut", .str "cut"] d_Core (aC (eV 1) aN) (aC (eV 3) (aC (e2 ixA (eW 0) (eS "door")) (aC (e2 ixA (eW 0) (eS "guard")) aN))))) sNil)
    (sSeq (sIf (tB' (e2 eqD (eC (f1 lenD) (aC (eW 2) aN)) (eI (1)))) (sRet (eCXS 1 [true, true, true] [.non, .str "shut", .str "cut"] d_Core (aC (eV 1) (aC (e2 ixA (eW 2) (eI (0))) aN)) (aC (eV 3) (aC (e2 ixA (eW 0) (eS "door")) (aC (e2 ixA (eW 0) (eS "guard")) aN))))) sNil)
    (sSeq (sIf (tB' (e2 eqD (eC (f1 lenD) (aC (eW 2) aN)) (eI (2)))) (sRet (eCXS 1 [true, true, true] [.non, .str "shut", .str "cut"] d_Core (aC (eV 1) (aC (e2 ixA (eW 2) (eI (0))) (aC (e2 ixA (eW 2) (eI (1))) aN))) (aC (eV 3) (aC (e2 ixA (eW 0) (eS "door")) (aC (e2 ixA (eW 0) (eS "guard")) aN))))) sNil)
    (sRet (eCXS 1 [true, true, true] [.non, .str "shut", .str "cut"] d_Core (aC (eV 1) (aC (e2 ixA (eW 2) (eI (0))) (aC (e2 ixA (eW 2) (eI (1))) (aC (e2 ixA (eW 2) (eI (2))) aN)))) (aC (eV 3) (aC (e2 ixA (eW 0) (eS "door")) (aC (e2 ixA (eW 0) (eS "guard")) aN)))))))))))
def d__law_core : List D → R D := fun ds => (runF false 7 m__law_core ds).nox
theorem sc__law_core : FnScope ["_law_spec", "_law_supply", "_law_made", "_law_choice_here", "_law_nodes", "_law_edges", "_law_steady"] ["_law_spec"] (defScope st__law_core) := ⟨rfl, rfl, rfl, by decide +kernel, rfl, by decide +kernel, by decide +kernel⟩
theorem ok__law_core {f : Addr} {fd : FuncData} (F : FunD K "_law_core" "_law_core" (defArgs st__law_core) (defBody st__law_core) (defScope st__law_core) [] [] f fd) (mgf : mg "_law_core" = some (.ref f)) (B : Bt mg) (mx_Supply : MakerXK P w K mg base ⟨K, cl⟩ 2 "Supply" 3 2 ["starts"] d_Supply) (h_Task : MakeK P w K mg base ⟨K, cl⟩ 2 "Task" 4 2 ["steady"] d_Task) (h__law_choice : Callee P w K mg base ⟨K, cl⟩ 3 "_law_choice" 1 false d__law_choice) (mS_Core_111 : MakerXS P w K mg base ⟨K, cl⟩ 3 "Core" 6 1 [true, true, true] ["choice", "door", "guard"] [.non, .str "shut", .str "cut"] d_Core) : Callee P w K mg base ⟨K, cl⟩ 5 "_law_core" 1 false d__law_core := by
  have nd : (["_law_spec", "_law_supply", "_law_made", "_law_choice_here", "_law_nodes", "_law_edges", "_law_steady"] : List Str).Nodup := sc__law_core.nd
  have z := fn_ok (P := P) (w := w) (mg := mg) (base := base) (k := ⟨K, cl⟩) (fr := false) (lv := 4) (as := [1, 2, 3]) (s := m__law_core) F sc__law_core fun cdv A outer sh H G0 hr => by
    have hu := hr.units
    have hu5 := hr.units5
    exact (b_cons (s_set 1 nd (d_z (d_makerXK (ks := ["starts"]) mx_Supply hr (by decide) takes0 (d_ac (d_ix (o_ixA rfl hu5) (d_w 0) d_str) (d_ac (d_z (d_btyp (c_lst rfl) B.list (d_ab (d_ix (o_ixA rfl hu5) (d_w 0) d_str) d_an))) d_an)) (len_c (len_c len_n)) (d_kc (d_ix (o_ixA rfl hu5) (d_w 0) d_str) d_kn) (len_c len_n))))
    (b_cons (s_lcZ 2 [("_law_nodes", 4), ("_law_edges", 5), ("_law_steady", 6)] rfl nd (i_seq rfl (d_ix (o_ixA rfl hu5) (d_w 0) d_str)) (blkOk_by (N := ["_law_spec", "_law_supply", "_law_made", "_law_choice_here", "_law_nodes", "_law_edges", "_law_steady"]) (sc := (defScope st__law_core)) (by decide +kernel)) (fun _ _ _ _ _ => (g_t rfl rfl (gs_c (g_n 4 nd) (gs_c (g_n 5 nd) (gs_c (g_n 6 nd) gs_n))))) (fun _ _ _ _ _ => ts_n) (fun _ _ _ _ _ => (d_z (d_makeK (ks := ["steady"]) h_Task hr (by decide) (d_ac (d_z (d_btyp (c_lst rfl) B.list (d_ab (d_w 4) d_an))) (d_ac (d_z (d_btyp (c_lst rfl) B.list (d_ab (d_w 5) d_an))) d_an)) (len_c (len_c len_n)) (d_kc (d_v 6) d_kn) (len_c len_n)))))
    (b_cons (s_set 3 nd (d_callS (h__law_choice.at hr (by decide)) (d_ac (d_v 0) d_an) (len_c len_n)))
    (b_cons (s_if (d_tc (o_eq rfl hu) (d_bltn (c_len rfl) B.len (d_ab (d_w 2) d_an)) d_int) (b_one (s_ret (d_z (d_makerXS (ks := ["choice", "door", "guard"]) mS_Core_111 hr (by decide) takes0 (d_ac (d_v 1) d_an) (d_kc (d_v 3) (d_kc (d_ix (o_ixA rfl hu5) (d_w 0) d_str) (d_kc (d_ix (o_ixA rfl hu5) (d_w 0) d_str) d_kn))) (len_c (len_c (len_c len_n))))))) b_nil)
    (b_cons (s_if (d_tc (o_eq rfl hu) (d_bltn (c_len rfl) B.len (d_ab (d_w 2) d_an)) d_int) (b_one (s_ret (d_z (d_makerXS (ks := ["choice", "door", "guard"]) mS_Core_111 hr (by decide) takes0 (d_ac (d_v 1) (d_ac (d_ix (o_ixA rfl hu5) (d_w 2) d_int) d_an)) (d_kc (d_v 3) (d_kc (d_ix (o_ixA rfl hu5) (d_w 0) d_str) (d_kc (d_ix (o_ixA rfl hu5) (d_w 0) d_str) d_kn))) (len_c (len_c (len_c len_n))))))) b_nil)
    (b_cons (s_if (d_tc (o_eq rfl hu) (d_bltn (c_len rfl) B.len (d_ab (d_w 2) d_an)) d_int) (b_one (s_ret (d_z (d_makerXS (ks := ["choice", "door", "guard"]) mS_Core_111 hr (by decide) takes0 (d_ac (d_v 1) (d_ac (d_ix (o_ixA rfl hu5) (d_w 2) d_int) (d_ac (d_ix (o_ixA rfl hu5) (d_w 2) d_int) d_an))) (d_kc (d_v 3) (d_kc (d_ix (o_ixA rfl hu5) (d_w 0) d_str) (d_kc (d_ix (o_ixA rfl hu5) (d_w 0) d_str) d_kn))) (len_c (len_c (len_c len_n))))))) b_nil)
    (b_one (s_ret (d_z (d_makerXS (ks := ["choice", "door", "guard"]) mS_Core_111 hr (by decide) takes0 (d_ac (d_v 1) (d_ac (d_ix (o_ixA rfl hu5) (d_w 2) d_int) (d_ac (d_ix (o_ixA rfl hu5) (d_w 2) d_int) (d_ac (d_ix (o_ixA rfl hu5) (d_w 2) d_int) d_an)))) (d_kc (d_v 3) (d_kc (d_ix (o_ixA rfl hu5) (d_w 0) d_str) (d_kc (d_ix (o_ixA rfl hu5) (d_w 0) d_str) d_kn))) (len_c (len_c (len_c len_n)))))))))))))
  exact ⟨f, fd, ["_law_spec"], rfl, z, mgf, F.kp, F.bindsN fun _ _ _ _ _ _ us hl => match us, hl with | [_], _ => rfl⟩
def m__law_cap : FS :=
    (sRet (eC (f1 maxD) (aC (e2 addD (eL (aC (e2 ixA (e2 ixA (e2 ixA (eW 0) (eI (0))) (eW 1)) (eI (1))) aN)) (lcE (fun S => (e2 ixA (eW 0) (eI (1))) S >>= itemsD) (gN 2) (tB' (e2 eqD (e2 ixA (eW 2) (eI (0))) (eW 1))) (e2 ixA (eW 2) (eI (2))) [2])) aN)))
def d__law_cap : List D → R D := fun ds => (runF false 3 m__law_cap ds).nox
theorem sc__law_cap : FnScope ["_law_task", "_law_node", "_law_edge"] ["_law_task", "_law_node"] (defScope st__law_cap) := ⟨rfl, rfl, rfl, by decide +kernel, rfl, by decide +kernel, by decide +kernel⟩
theorem ok__law_cap {f : Addr} {fd : FuncData} (F : FunD K "_law_cap" "_law_cap" (defArgs st__law_cap) (defBody st__law_cap) (defScope st__law_cap) [] [] f fd) (mgf : mg "_law_cap" = some (.ref f)) (B : Bt mg)  : Callee P w K mg base ⟨K, cl⟩ 1 "_law_cap" 2 false d__law_cap := by
  have nd : (["_law_task", "_law_node", "_law_edge"] : List Str).Nodup := sc__law_cap.nd
  have z := fn_ok (P := P) (w := w) (mg := mg) (base := base) (k := ⟨K, cl⟩) (fr := false) (lv := 0) (as := []) (s := m__law_cap) F sc__law_cap fun cdv A outer sh H G0 hr => by
    have hu := hr.units
    have hu5 := hr.units5
    exact (b_one (s_ret (d_bltn (c_max rfl) B.max (d_ab (d_op (o_add rfl) (d_lst (d_ac (d_ix (o_ixA rfl hu5) (d_ix (o_ixA rfl hu5) (d_ix (o_ixA rfl hu5) (d_w 0) d_int) (d_w 1)) d_int) d_an)) (d_lc [("_law_edge", 2)] rfl nd (i_seq rfl (d_ix (o_ixA rfl hu5) (d_w 0) d_int)) (blkOk_by (N := ["_law_task", "_law_node", "_law_edge"]) (sc := (defScope st__law_cap)) (by decide +kernel)) (fun _ _ _ _ _ => (g_n 2 nd)) (fun _ _ _ _ _ => (ts_1 (d_tc (o_eq rfl hu) (d_ix (o_ixA rfl hu5) (d_w 2) d_int) (d_w 1)))) (fun _ _ _ _ _ => (d_ix (o_ixA rfl hu5) (d_w 2) d_int)))) d_an))))
  exact ⟨f, fd, ["_law_task", "_law_node"], rfl, z, mgf, F.kp, F.bindsN fun _ _ _ _ _ _ us hl => match us, hl with | [_, _], _ => rfl⟩
def m__law_open : FS :=
    (sRet (eAnd (e2 geD (e2 ixA (eW 1) (eI (0))) (eI (0))) (eOr (e2 eqD (e2 ixA (eW 1) (eI (3))) (eI (1))) (e2 ltD (e2 ixA (eW 1) (eI (2))) (eC (f1 lenD) (aC (e2 ixA (e2 ixA (e2 ixA (eW 0) (eI (0))) (e2 ixA (eW 1) (eI (0)))) (eI (0))) aN))))))
def d__law_open : List D → R D := fun ds => (runF false 2 m__law_open ds).nox
theorem sc__law_open : FnScope ["_law_task", "_law_status"] ["_law_task", "_law_status"] (defScope st__law_open) := ⟨rfl, rfl, rfl, by decide +kernel, rfl, by decide +kernel, by decide +kernel⟩
theorem ok__law_open {f : Addr} {fd : FuncData} (F : FunD K "_law_open" "_law_open" (defArgs st__law_open) (defBody st__law_open) (defScope st__law_open) [] [] f fd) (mgf : mg "_law_open" = some (.ref f)) (B : Bt mg)  : Callee P w K mg base ⟨K, cl⟩ 1 "_law_open" 2 false d__law_open := by
  have nd : (["_law_task", "_law_status"] : List Str).Nodup := sc__law_open.nd
  have z := fn_ok (P := P) (w := w) (mg := mg) (base := base) (k := ⟨K, cl⟩) (fr := false) (lv := 0) (as := []) (s := m__law_open) F sc__law_open fun cdv A outer sh H G0 hr => by
    have hu := hr.units
    have hu5 := hr.units5
    exact (b_one (s_ret (d_vand (d_cmp (o_ge) (d_ix (o_ixA rfl hu5) (d_w 1) d_int) d_int) (d_vone (d_vor (d_cmp (o_eq rfl hu) (d_ix (o_ixA rfl hu5) (d_w 1) d_int) d_int) (d_vone (d_cmp (o_lt) (d_ix (o_ixA rfl hu5) (d_w 1) d_int) (d_bltn (c_len rfl) B.len (d_ab (d_ix (o_ixA rfl hu5) (d_ix (o_ixA rfl hu5) (d_ix (o_ixA rfl hu5) (d_w 0) d_int) (d_ix (o_ixA rfl hu5) (d_w 1) d_int)) d_int) d_an)))))))))
  exact ⟨f, fd, ["_law_task", "_law_status"], rfl, z, mgf, F.kp, F.bindsN fun _ _ _ _ _ _ us hl => match us, hl with | [_, _], _ => rfl⟩
def m__law_allows : FS :=
    (sSeq (sIf (tB' (e2 ltD (e2 ixA (eW 1) (eI (0))) (eI (0)))) (sRet (e3 leD ltD (eI (0)) (eW 2) (eC (f1 lenD) (aC (e2 ixA (eW 0) (eI (0))) aN)))) sNil)
    (sRet (e2 gtD (eC (f1 lenD) (aC (lcE (fun S => (e2 ixA (eW 0) (eI (1))) S >>= itemsD) (gN 3) (tA (tB' (e2 eqD (e2 ixA (eW 3) (eI (0))) (e2 ixA (eW 1) (eI (0))))) (tA (tB' (e2 eqD (e2 ixA (eW 3) (eI (1))) (eW 2))) (tB' (e2 leD (e2 ixA (eW 3) (eI (2))) (e2 ixA (eW 1) (eI (1))))))) (eV 3) [3]) aN)) (eI (0)))))
def d__law_allows : List D → R D := fun ds => (runF false 4 m__law_allows ds).nox
theorem sc__law_allows : FnScope ["_law_task", "_law_status", "_law_node", "_law_edge"] ["_law_task", "_law_status", "_law_node"] (defScope st__law_allows) := ⟨rfl, rfl, rfl, by decide +kernel, rfl, by decide +kernel, by decide +kernel⟩
theorem ok__law_allows {f : Addr} {fd : FuncData} (F : FunD K "_law_allows" "_law_allows" (defArgs st__law_allows) (defBody st__law_allows) (defScope st__law_allows) [] [] f fd) (mgf : mg "_law_allows" = some (.ref f)) (B : Bt mg)  : Callee P w K mg base ⟨K, cl⟩ 1 "_law_allows" 3 false d__law_allows := by
  have nd : (["_law_task", "_law_status", "_law_node", "_law_edge"] : List Str).Nodup := sc__law_allows.nd
  have z := fn_ok (P := P) (w := w) (mg := mg) (base := base) (k := ⟨K, cl⟩) (fr := false) (lv := 0) (as := []) (s := m__law_allows) F sc__law_allows fun cdv A outer sh H G0 hr => by
    have hu := hr.units
    have hu5 := hr.units5
    exact (b_cons (s_if (d_tc (o_lt) (d_ix (o_ixA rfl hu5) (d_w 1) d_int) d_int) (b_one (s_ret (d_ch (o_le) (o_lt) d_int (d_w 2) (d_bltn (c_len rfl) B.len (d_ab (d_ix (o_ixA rfl hu5) (d_w 0) d_int) d_an))))) b_nil)
    (b_one (s_ret (d_cmp (o_gt) (d_bltn (c_len rfl) B.len (d_ab (d_lc [("_law_edge", 3)] rfl nd (i_seq rfl (d_ix (o_ixA rfl hu5) (d_w 0) d_int)) (blkOk_by (N := ["_law_task", "_law_status", "_law_node", "_law_edge"]) (sc := (defScope st__law_allows)) (by decide +kernel)) (fun _ _ _ _ _ => (g_n 3 nd)) (fun _ _ _ _ _ => (ts_1 (d_pw (d_and (d_tc (o_eq rfl hu) (d_ix (o_ixA rfl hu5) (d_w 3) d_int) (d_ix (o_ixA rfl hu5) (d_w 1) d_int)) (d_and (d_tc (o_eq rfl hu) (d_ix (o_ixA rfl hu5) (d_w 3) d_int) (d_w 2)) (d_and1 (d_tc (o_le) (d_ix (o_ixA rfl hu5) (d_w 3) d_int) (d_ix (o_ixA rfl hu5) (d_w 1) d_int)))))))) (fun _ _ _ _ _ => (d_v 3))) d_an)) d_int))))
  exact ⟨f, fd, ["_law_task", "_law_status", "_law_node"], rfl, z, mgf, F.kp, F.bindsN fun _ _ _ _ _ _ us hl => match us, hl with | [_, _, _], _ => rfl⟩
def m__law_held : FS :=
    (sSeq (sIf (tO (tNo (tT' (eC d__law_open (aC (eV 0) (aC (eV 1) aN))))) (tO (tB' (e2 eqD (e2 ixA (eW 1) (eI (3))) (eI (1)))) (tB' (e2 eqD (e2 ixA (eW 1) (eI (2))) (eI (0)))))) (sRet (eS "")) sNil)
    (sSeq (sSet 2 (e2 ixA (e2 ixA (e2 ixA (eW 0) (eI (0))) (e2 ixA (eW 1) (eI (0)))) (eI (0))))
    (sRet (eM1 joinD (eS "") (lcE (fun S => (e2 ixA (eW 2) (e2 ixA (eW 1) (eI (2)))) S >>= itemsD) (gN 3) (tB' (e2 inA (eW 3) (e2 ixA (eW 2) (e2 subD (e2 ixA (eW 1) (eI (2))) (eI (1)))))) (eV 3) [3])))))
def d__law_held : List D → R D := fun ds => (runF false 4 m__law_held ds).nox
theorem sc__law_held : FnScope ["_law_task", "_law_status", "_law_plan", "_law_lock"] ["_law_task", "_law_status"] (defScope st__law_held) := ⟨rfl, rfl, rfl, by decide +kernel, rfl, by decide +kernel, by decide +kernel⟩
theorem ok__law_held {f : Addr} {fd : FuncData} (F : FunD K "_law_held" "_law_held" (defArgs st__law_held) (defBody st__law_held) (defScope st__law_held) [] [] f fd) (mgf : mg "_law_held" = some (.ref f)) (B : Bt mg) (h__law_open : Callee P w K mg base ⟨K, cl⟩ 1 "_law_open" 2 false d__law_open) : Callee P w K mg base ⟨K, cl⟩ 2 "_law_held" 2 false d__law_held := by
  have nd : (["_law_task", "_law_status", "_law_plan", "_law_lock"] : List Str).Nodup := sc__law_held.nd
  have z := fn_ok (P := P) (w := w) (mg := mg) (base := base) (k := ⟨K, cl⟩) (fr := false) (lv := 1) (as := [2]) (s := m__law_held) F sc__law_held fun cdv A outer sh H G0 hr => by
    have hu := hr.units
    have hu5 := hr.units5
    exact (b_cons (s_if (d_pw (d_or (d_not (d_tt rfl (d_callS (h__law_open.at hr (by decide)) (d_ac (d_v 0) (d_ac (d_v 1) d_an)) (len_c (len_c len_n))))) (d_or (d_tc (o_eq rfl hu) (d_ix (o_ixA rfl hu5) (d_w 1) d_int) d_int) (d_or1 (d_tc (o_eq rfl hu) (d_ix (o_ixA rfl hu5) (d_w 1) d_int) d_int))))) (b_one (s_ret d_str)) b_nil)
    (b_cons (s_set 2 nd (d_ix (o_ixA rfl hu5) (d_ix (o_ixA rfl hu5) (d_ix (o_ixA rfl hu5) (d_w 0) d_int) (d_ix (o_ixA rfl hu5) (d_w 1) d_int)) d_int))
    (b_one (s_ret (d_join rfl d_str (d_lc [("_law_lock", 3)] rfl nd (i_seq rfl (d_ix (o_ixA rfl hu5) (d_w 2) (d_ix (o_ixA rfl hu5) (d_w 1) d_int))) (blkOk_by (N := ["_law_task", "_law_status", "_law_plan", "_law_lock"]) (sc := (defScope st__law_held)) (by decide +kernel)) (fun _ _ _ _ _ => (g_n 3 nd)) (fun _ _ _ _ _ => (ts_1 (d_tc (o_inA rfl hu5) (d_w 3) (d_ix (o_ixA rfl hu5) (d_w 2) (d_op (o_sub) (d_ix (o_ixA rfl hu5) (d_w 1) d_int) d_int))))) (fun _ _ _ _ _ => (d_v 3))))))))
  exact ⟨f, fd, ["_law_task", "_law_status"], rfl, z, mgf, F.kp, F.bindsN fun _ _ _ _ _ _ us hl => match us, hl with | [_, _], _ => rfl⟩
def m__law_needed : FS :=
    (sSeq (sIf (tO (tNo (tT' (eC d__law_open (aC (eV 0) (aC (eV 1) aN))))) (tB' (e2 eqD (e2 ixA (eW 1) (eI (3))) (eI (1))))) (sRet (eS "")) sNil)
    (sSeq (sSet 2 (eC d__law_held (aC (eV 0) (aC (eV 1) aN))))
    (sRet (eM1 joinD (eS "") (lcE (fun S => (e2 ixA (e2 ixA (e2 ixA (e2 ixA (eW 0) (eI (0))) (e2 ixA (eW 1) (eI (0)))) (eI (0))) (e2 ixA (eW 1) (eI (2)))) S >>= itemsD) (gN 3) (tB' (e2 notInA (eW 3) (eW 2))) (eV 3) [3])))))
def d__law_needed : List D → R D := fun ds => (runF false 4 m__law_needed ds).nox
theorem sc__law_needed : FnScope ["_law_task", "_law_status", "_law_held_here", "_law_lock"] ["_law_task", "_law_status"] (defScope st__law_needed) := ⟨rfl, rfl, rfl, by decide +kernel, rfl, by decide +kernel, by decide +kernel⟩
theorem ok__law_needed {f : Addr} {fd : FuncData} (F : FunD K "_law_needed" "_law_needed" (defArgs st__law_needed) (defBody st__law_needed) (defScope st__law_needed) [] [] f fd) (mgf : mg "_law_needed" = some (.ref f)) (B : Bt mg) (h__law_open : Callee P w K mg base ⟨K, cl⟩ 1 "_law_open" 2 false d__law_open) (h__law_held : Callee P w K mg base ⟨K, cl⟩ 2 "_law_held" 2 false d__law_held) : Callee P w K mg base ⟨K, cl⟩ 3 "_law_needed" 2 false d__law_needed := by
  have nd : (["_law_task", "_law_status", "_law_held_here", "_law_lock"] : List Str).Nodup := sc__law_needed.nd
  have z := fn_ok (P := P) (w := w) (mg := mg) (base := base) (k := ⟨K, cl⟩) (fr := false) (lv := 2) (as := [2]) (s := m__law_needed) F sc__law_needed fun cdv A outer sh H G0 hr => by
    have hu := hr.units
    have hu5 := hr.units5
    exact (b_cons (s_if (d_pw (d_or (d_not (d_tt rfl (d_callS (h__law_open.at hr (by decide)) (d_ac (d_v 0) (d_ac (d_v 1) d_an)) (len_c (len_c len_n))))) (d_or1 (d_tc (o_eq rfl hu) (d_ix (o_ixA rfl hu5) (d_w 1) d_int) d_int)))) (b_one (s_ret d_str)) b_nil)
    (b_cons (s_set 2 nd (d_callS (h__law_held.at hr (by decide)) (d_ac (d_v 0) (d_ac (d_v 1) d_an)) (len_c (len_c len_n))))
    (b_one (s_ret (d_join rfl d_str (d_lc [("_law_lock", 3)] rfl nd (i_seq rfl (d_ix (o_ixA rfl hu5) (d_ix (o_ixA rfl hu5) (d_ix (o_ixA rfl hu5) (d_ix (o_ixA rfl hu5) (d_w 0) d_int) (d_ix (o_ixA rfl hu5) (d_w 1) d_int)) d_int) (d_ix (o_ixA rfl hu5) (d_w 1) d_int))) (blkOk_by (N := ["_law_task", "_law_status", "_law_held_here", "_law_lock"]) (sc := (defScope st__law_needed)) (by decide +kernel)) (fun _ _ _ _ _ => (g_n 3 nd)) (fun _ _ _ _ _ => (ts_1 (d_tc (o_notinA rfl hu5) (d_w 3) (d_w 2)))) (fun _ _ _ _ _ => (d_v 3))))))))
  exact ⟨f, fd, ["_law_task", "_law_status"], rfl, z, mgf, F.kp, F.bindsN fun _ _ _ _ _ _ us hl => match us, hl with | [_, _], _ => rfl⟩
def m__law_blocked : FS :=
    (sSeq (sFor (fun S => (eC d__law_needed (aC (e2 ixA (eW 0) (eW 2)) (aC (e2 ixA (eW 1) (eW 2)) aN))) S >>= itemsD) (gN 3) (sFor (fun S => (aC (eC (f1 lenD) (aC (eW 0) aN)) aN) S >>= rng1) (gN 4) (sIf (tA (tB' (e2 neD (eW 4) (eW 2))) (tB' (e2 inA (eW 3) (eC d__law_held (aC (e2 ixA (eW 0) (eW 4)) (aC (e2 ixA (eW 1) (eW 4)) aN)))))) (sRet (eV 4)) sNil)))
    (sRet (e1 negD (eI (1)))))
def d__law_blocked : List D → R D := fun ds => (runF false 5 m__law_blocked ds).nox
theorem sc__law_blocked : FnScope ["_law_tasks", "_law_statuses", "_law_i", "_law_lock", "_law_j"] ["_law_tasks", "_law_statuses", "_law_i"] (defScope st__law_blocked) := ⟨rfl, rfl, rfl, by decide +kernel, rfl, by decide +kernel, by decide +kernel⟩
theorem ok__law_blocked {f : Addr} {fd : FuncData} (F : FunD K "_law_blocked" "_law_blocked" (defArgs st__law_blocked) (defBody st__law_blocked) (defScope st__law_blocked) [] [] f fd) (mgf : mg "_law_blocked" = some (.ref f)) (B : Bt mg) (h__law_needed : Callee P w K mg base ⟨K, cl⟩ 3 "_law_needed" 2 false d__law_needed) (h__law_held : Callee P w K mg base ⟨K, cl⟩ 2 "_law_held" 2 false d__law_held) : Callee P w K mg base ⟨K, cl⟩ 4 "_law_blocked" 3 false d__law_blocked := by
  have nd : (["_law_tasks", "_law_statuses", "_law_i", "_law_lock", "_law_j"] : List Str).Nodup := sc__law_blocked.nd
  have z := fn_ok (P := P) (w := w) (mg := mg) (base := base) (k := ⟨K, cl⟩) (fr := false) (lv := 3) (as := [3, 4]) (s := m__law_blocked) F sc__law_blocked fun cdv A outer sh H G0 hr => by
    have hu := hr.units
    have hu5 := hr.units5
    exact (b_cons (s_for PassesOwn.never rfl (i_seq rfl (d_callS (h__law_needed.at hr (by decide)) (d_ac (d_ix (o_ixA rfl hu5) (d_w 0) (d_w 2)) (d_ac (d_ix (o_ixA rfl hu5) (d_w 1) (d_w 2)) d_an)) (len_c (len_c len_n)))) (g_n 3 nd) (b_one (s_for PassesOwn.never rfl (i_rng1 B.range (d_ab (d_bltn (c_len rfl) B.len (d_ab (d_w 0) d_an)) d_an)) (g_n 4 nd) (b_one (s_if (d_pw (d_and (d_tc (o_ne rfl hu) (d_w 4) (d_w 2)) (d_and1 (d_tc (o_inA rfl hu5) (d_w 3) (d_callS (h__law_held.at hr (by decide)) (d_ac (d_ix (o_ixA rfl hu5) (d_w 0) (d_w 4)) (d_ac (d_ix (o_ixA rfl hu5) (d_w 1) (d_w 4)) d_an)) (len_c (len_c len_n))))))) (b_one (s_ret (d_v 4))) b_nil)))))
    (b_one (s_ret (d_un o_neg d_int))))
  exact ⟨f, fd, ["_law_tasks", "_law_statuses", "_law_i"], rfl, z, mgf, F.kp, F.bindsN fun _ _ _ _ _ _ us hl => match us, hl with | [_, _, _], _ => rfl⟩
def m__law_levels : FS :=
    (sSeq (sSet 2 (eC (f1 lenD) (aC (eW 1) aN)))
    (sSeq (sIf (tB' (e2 eqD (eW 0) (eS "first"))) (sRet (eLstRg (rg1 (eW 2)))) sNil)
    (sSeq (sIf (tB' (e2 eqD (eW 0) (eS "last"))) (sRet (lcE (fun S => (aC (eW 2) aN) S >>= rng1) (gN 4) tY (e2 subD (e2 subD (eW 2) (eI (1))) (eW 4)) [4])) sNil)
    (sSeq (sSet 3 (eC (f1 srtAD) (aC (lcE (fun S => (aC (eW 2) aN) S >>= rng1) (gN 4) tY (eT (aC (eC (f1 minD) (aC (lcE (fun S => (e2 ixA (e2 ixA (eW 1) (eW 4)) (eI (0))) S >>= itemsD) (gN 5) tY (e2 ixA (eW 5) (eI (1))) [5]) aN)) (aC (eV 4) aN))) [4]) aN)))
    (sRet (lcE (fun S => (aC (eW 2) aN) S >>= rng1) (gN 4) tY (eIdx (lcE (fun S => (eV 3) S >>= itemsD) (gN 6) tY (e2 ixA (eW 6) (eI (1))) [6]) (eW 4)) [4]))))))
def d__law_levels : List D → R D := fun ds => (runF false 7 m__law_levels ds).nox
theorem sc__law_levels : FnScope ["_law_order", "_law_tasks", "_law_count", "_law_ranked", "_law_i", "_law_node", "_law_row"] ["_law_order", "_law_tasks"] (defScope st__law_levels) := ⟨rfl, rfl, rfl, by decide +kernel, rfl, by decide +kernel, by decide +kernel⟩
theorem ok__law_levels {f : Addr} {fd : FuncData} (F : FunD K "_law_levels" "_law_levels" (defArgs st__law_levels) (defBody st__law_levels) (defScope st__law_levels) [] [] f fd) (mgf : mg "_law_levels" = some (.ref f)) (B : Bt mg)  : Callee P w K mg base ⟨K, cl⟩ 1 "_law_levels" 2 false d__law_levels := by
  have nd : (["_law_order", "_law_tasks", "_law_count", "_law_ranked", "_law_i", "_law_node", "_law_row"] : List Str).Nodup := sc__law_levels.nd
  have z := fn_ok (P := P) (w := w) (mg := mg) (base := base) (k := ⟨K, cl⟩) (fr := false) (lv := 0) (as := [2, 3]) (s := m__law_levels) F sc__law_levels fun cdv A outer sh H G0 hr => by
    have hu := hr.units
    have hu5 := hr.units5
    exact (b_cons (s_set 2 nd (d_bltn (c_len rfl) B.len (d_ab (d_w 1) d_an)))
    (b_cons (s_if (d_tc (o_eq rfl hu) (d_w 0) d_str) (b_one (s_ret (d_z (d_lstRg rfl B.list (d_rg1 B.range (d_w 2)))))) b_nil)
    (b_cons (s_if (d_tc (o_eq rfl hu) (d_w 0) d_str) (b_one (s_ret (d_z (d_lc [("_law_i", 4)] rfl nd (i_rng1 B.range (d_ab (d_w 2) d_an)) (blkOk_by (N := ["_law_order", "_law_tasks", "_law_count", "_law_ranked", "_law_i", "_law_node", "_law_row"]) (sc := (defScope st__law_levels)) (by decide +kernel)) (fun _ _ _ _ _ => (g_n 4 nd)) (fun _ _ _ _ _ => ts_n) (fun _ _ _ _ _ => (d_op (o_sub) (d_op (o_sub) (d_w 2) d_int) (d_w 4))))))) b_nil)
    (b_cons (s_set 3 nd (d_z (d_bltn (c_srtA rfl hu) B.sorted (d_ab (d_lc [("_law_i", 4)] rfl nd (i_rng1 B.range (d_ab (d_w 2) d_an)) (blkOk_by (N := ["_law_order", "_law_tasks", "_law_count", "_law_ranked", "_law_i", "_law_node", "_law_row"]) (sc := (defScope st__law_levels)) (by decide +kernel)) (fun _ _ _ _ _ => (g_n 4 nd)) (fun _ _ _ _ _ => ts_n) (fun _ _ _ _ _ => (d_tup (d_ac (d_bltn (c_min rfl) B.min (d_ab (d_lc [("_law_node", 5)] rfl nd (i_seq rfl (d_ix (o_ixA rfl hu5) (d_ix (o_ixA rfl hu5) (d_w 1) (d_w 4)) d_int)) (blkOk_by (N := ["_law_order", "_law_tasks", "_law_count", "_law_ranked", "_law_i", "_law_node", "_law_row"]) (sc := (relS ({ kind := .function, names := [(".0", .local), ("_law_i", .local), ("min", .globalImplicit), ("_law_tasks", .free)], isGenerator := false, isCoroutine := false, more := [] } : Scope) (defScope st__law_levels))) (by decide +kernel)) (fun _ _ _ _ _ => (g_n 5 nd)) (fun _ _ _ _ _ => ts_n) (fun _ _ _ _ _ => (d_ix (o_ixA rfl hu5) (d_w 5) d_int))) d_an)) (d_ac (d_v 4) d_an))))) d_an))))
    (b_one (s_ret (d_z (d_lc [("_law_i", 4)] rfl nd (i_rng1 B.range (d_ab (d_w 2) d_an)) (blkOk_by (N := ["_law_order", "_law_tasks", "_law_count", "_law_ranked", "_law_i", "_law_node", "_law_row"]) (sc := (defScope st__law_levels)) (by decide +kernel)) (fun _ _ _ _ _ => (g_n 4 nd)) (fun _ _ _ _ _ => ts_n) (fun _ _ _ _ _ => (d_idx rfl hu5 (d_lc [("_law_row", 6)] rfl nd (i_seq rfl (d_v 3)) (blkOk_by (N := ["_law_order", "_law_tasks", "_law_count", "_law_ranked", "_law_i", "_law_node", "_law_row"]) (sc := (relS ({ kind := .function, names := [(".0", .local), ("_law_i", .local), ("_law_ranked", .free)], isGenerator := false, isCoroutine := false, more := [] } : Scope) (defScope st__law_levels))) (by decide +kernel)) (fun _ _ _ _ _ => (g_n 6 nd)) (fun _ _ _ _ _ => ts_n) (fun _ _ _ _ _ => (d_ix (o_ixA rfl hu5) (d_w 6) d_int))) (d_w 4)))))))))))
  exact ⟨f, fd, ["_law_order", "_law_tasks"], rfl, z, mgf, F.kp, F.bindsN fun _ _ _ _ _ _ us hl => match us, hl with | [_, _], _ => rfl⟩
def m__law_users : FS :=
    (sRet (lcE (fun S => (aC (eC (f1 lenD) (aC (eW 0) aN)) aN) S >>= rng1) (gN 2) (tB' (e2 gtD (eC (f1 lenD) (aC (lcE (fun S => (e2 ixA (e2 ixA (eW 0) (eW 2)) (eI (0))) S >>= itemsD) (gN 3) (tB' (e2 inA (eW 1) (eM1 joinD (eS "") (e2 ixA (eW 3) (eI (0)))))) (eV 3) [3]) aN)) (eI (0)))) (eV 2) [2]))
def d__law_users : List D → R D := fun ds => (runF false 4 m__law_users ds).nox
theorem sc__law_users : FnScope ["_law_tasks", "_law_lock", "_law_i", "_law_node"] ["_law_tasks", "_law_lock"] (defScope st__law_users) := ⟨rfl, rfl, rfl, by decide +kernel, rfl, by decide +kernel, by decide +kernel⟩
theorem ok__law_users {f : Addr} {fd : FuncData} (F : FunD K "_law_users" "_law_users" (defArgs st__law_users) (defBody st__law_users) (defScope st__law_users) [] [] f fd) (mgf : mg "_law_users" = some (.ref f)) (B : Bt mg)  : Callee P w K mg base ⟨K, cl⟩ 1 "_law_users" 2 false d__law_users := by
  have nd : (["_law_tasks", "_law_lock", "_law_i", "_law_node"] : List Str).Nodup := sc__law_users.nd
  have z := fn_ok (P := P) (w := w) (mg := mg) (base := base) (k := ⟨K, cl⟩) (fr := false) (lv := 0) (as := []) (s := m__law_users) F sc__law_users fun cdv A outer sh H G0 hr => by
    have hu := hr.units
    have hu5 := hr.units5
    exact (b_one (s_ret (d_z (d_lc [("_law_i", 2)] rfl nd (i_rng1 B.range (d_ab (d_bltn (c_len rfl) B.len (d_ab (d_w 0) d_an)) d_an)) (blkOk_by (N := ["_law_tasks", "_law_lock", "_law_i", "_law_node"]) (sc := (defScope st__law_users)) (by decide +kernel)) (fun _ _ _ _ _ => (g_n 2 nd)) (fun _ _ _ _ _ => (ts_1 (d_tc (o_gt) (d_bltn (c_len rfl) B.len (d_ab (d_lc [("_law_node", 3)] rfl nd (i_seq rfl (d_ix (o_ixA rfl hu5) (d_ix (o_ixA rfl hu5) (d_w 0) (d_w 2)) d_int)) (blkOk_by (N := ["_law_tasks", "_law_lock", "_law_i", "_law_node"]) (sc := (relS ({ kind := .function, names := [(".0", .local), ("_law_i", .local), ("len", .globalImplicit), ("_law_lock", .free), ("_law_tasks", .free)], isGenerator := false, isCoroutine := false, more := [] } : Scope) (defScope st__law_users))) (by decide +kernel)) (fun _ _ _ _ _ => (g_n 3 nd)) (fun _ _ _ _ _ => (ts_1 (d_tc (o_inA rfl hu5) (d_w 1) (d_join rfl d_str (d_ix (o_ixA rfl hu5) (d_w 3) d_int))))) (fun _ _ _ _ _ => (d_v 3))) d_an)) d_int))) (fun _ _ _ _ _ => (d_v 2))))))
  exact ⟨f, fd, ["_law_tasks", "_law_lock"], rfl, z, mgf, F.kp, F.bindsN fun _ _ _ _ _ _ us hl => match us, hl with | [_, _], _ => rfl⟩
def m__law_blocker : FS :=
    (sSeq (sSet 3 (e2 ixA (eW 0) (eS "tasks")))
    (sSeq (sSet 4 (eC d__law_blocked (aC (eV 3) (aC (eV 1) (aC (eV 2) aN)))))
    (sSeq (sIf (tO (tB' (e2 geD (eW 4) (eI (0)))) (tO (tB' (e2 notInA (eS "ceil") (e2 ixA (eW 0) (eS "rules")))) (tB' (e2 eqD (eC d__law_needed (aC (e2 ixA (eW 3) (eW 2)) (aC (e2 ixA (eW 1) (eW 2)) aN))) (eS ""))))) (sRet (eV 4)) sNil)
    (sSeq (sSet 5 (eC d__law_levels (aC (e2 ixA (eW 0) (eS "order")) (aC (eV 3) aN))))
    (sSeq (sOwn 6 (eL aN))
    (sSeq (sFor (fun S => (aC (eC (f1 lenD) (aC (eW 3) aN)) aN) S >>= rng1) (gN 7) (sIf (tB' (e2 neD (eW 7) (eW 2))) (sExt 6 (lcE (fun S => (eC d__law_held (aC (e2 ixA (eW 3) (eW 7)) (aC (e2 ixA (eW 1) (eW 7)) aN))) S >>= itemsD) (gN 8) tY (eT (aC (eC (f1 minD) (aC (lcE (fun S => (eC d__law_users (aC (eV 3) (aC (eV 8) aN))) S >>= itemsD) (gN 9) tY (e2 ixA (eW 5) (eW 9)) [9]) aN)) (aC (eV 8) (aC (eV 7) aN)))) [8])) sNil))
    (sSeq (sIf (tA (tB' (e2 gtD (eC (f1 lenD) (aC (eW 6) aN)) (eI (0)))) (tB' (e2 leD (e2 ixA (eC (f1 minTD) (aC (eW 6) aN)) (eI (0))) (e2 ixA (eW 5) (eW 2))))) (sRet (e2 ixA (eC (f1 minTD) (aC (eW 6) aN)) (eI (2)))) sNil)
    (sRet (e1 negD (eI (1)))))))))))
def d__law_blocker : List D → R D := fun ds => (runF false 10 m__law_blocker ds).nox
theorem sc__law_blocker : FnScope ["_law_spec", "_law_statuses", "_law_i", "_law_tasks", "_law_found", "_law_levels_here", "_law_held_here", "_law_j", "_law_lock", "_law_k"] ["_law_spec", "_law_statuses", "_law_i"] (defScope st__law_blocker) := ⟨rfl, rfl, rfl, by decide +kernel, rfl, by decide +kernel, by decide +kernel⟩
theorem ok__law_blocker {f : Addr} {fd : FuncData} (F : FunD K "_law_blocker" "_law_blocker" (defArgs st__law_blocker) (defBody st__law_blocker) (defScope st__law_blocker) [] [] f fd) (mgf : mg "_law_blocker" = some (.ref f)) (B : Bt mg) (h__law_blocked : Callee P w K mg base ⟨K, cl⟩ 4 "_law_blocked" 3 false d__law_blocked) (h__law_needed : Callee P w K mg base ⟨K, cl⟩ 3 "_law_needed" 2 false d__law_needed) (h__law_levels : Callee P w K mg base ⟨K, cl⟩ 1 "_law_levels" 2 false d__law_levels) (h__law_held : Callee P w K mg base ⟨K, cl⟩ 2 "_law_held" 2 false d__law_held) (h__law_users : Callee P w K mg base ⟨K, cl⟩ 1 "_law_users" 2 false d__law_users) : Callee P w K mg base ⟨K, cl⟩ 5 "_law_blocker" 3 false d__law_blocker := by
  have nd : (["_law_spec", "_law_statuses", "_law_i", "_law_tasks", "_law_found", "_law_levels_here", "_law_held_here", "_law_j", "_law_lock", "_law_k"] : List Str).Nodup := sc__law_blocker.nd
  have z := fn_ok (P := P) (w := w) (mg := mg) (base := base) (k := ⟨K, cl⟩) (fr := false) (lv := 4) (as := [3, 4, 5, 6, 7, 1006]) (s := m__law_blocker) F sc__law_blocker fun cdv A outer sh H G0 hr => by
    have hu := hr.units
    have hu5 := hr.units5
    exact (b_cons (s_set 3 nd (d_ix (o_ixA rfl hu5) (d_w 0) d_str))
    (b_cons (s_set 4 nd (d_callS (h__law_blocked.at hr (by decide)) (d_ac (d_v 3) (d_ac (d_v 1) (d_ac (d_v 2) d_an))) (len_c (len_c (len_c len_n)))))
    (b_cons (s_if (d_pw (d_or (d_tc (o_ge) (d_w 4) d_int) (d_or (d_tc (o_notinA rfl hu5) d_str (d_ix (o_ixA rfl hu5) (d_w 0) d_str)) (d_or1 (d_tc (o_eq rfl hu) (d_callS (h__law_needed.at hr (by decide)) (d_ac (d_ix (o_ixA rfl hu5) (d_w 3) (d_w 2)) (d_ac (d_ix (o_ixA rfl hu5) (d_w 1) (d_w 2)) d_an)) (len_c (len_c len_n))) d_str))))) (b_one (s_ret (d_v 4))) b_nil)
    (b_cons (s_set 5 nd (d_callS (h__law_levels.at hr (by decide)) (d_ac (d_ix (o_ixA rfl hu5) (d_w 0) d_str) (d_ac (d_v 3) d_an)) (len_c (len_c len_n))))
    (b_cons (s_own 6 nd (d_lst d_an))
    (b_cons (s_for PassesOwn.never rfl (i_rng1 B.range (d_ab (d_bltn (c_len rfl) B.len (d_ab (d_w 3) d_an)) d_an)) (g_n 7 nd) (b_one (s_if (d_tc (o_ne rfl hu) (d_w 7) (d_w 2)) (b_one (s_ext 6 (d_lc [("_law_lock", 8)] rfl nd (i_seq rfl (d_callS (h__law_held.at hr (by decide)) (d_ac (d_ix (o_ixA rfl hu5) (d_w 3) (d_w 7)) (d_ac (d_ix (o_ixA rfl hu5) (d_w 1) (d_w 7)) d_an)) (len_c (len_c len_n)))) (blkOk_by (N := ["_law_spec", "_law_statuses", "_law_i", "_law_tasks", "_law_found", "_law_levels_here", "_law_held_here", "_law_j", "_law_lock", "_law_k"]) (sc := (defScope st__law_blocker)) (by decide +kernel)) (fun _ _ _ _ _ => (g_n 8 nd)) (fun _ _ _ _ _ => ts_n) (fun _ _ _ _ _ => (d_tup (d_ac (d_bltn (c_min rfl) B.min (d_ab (d_lc [("_law_k", 9)] rfl nd (i_seq rfl (d_callS (h__law_users.at hr (by decide)) (d_ac (d_v 3) (d_ac (d_v 8) d_an)) (len_c (len_c len_n)))) (blkOk_by (N := ["_law_spec", "_law_statuses", "_law_i", "_law_tasks", "_law_found", "_law_levels_here", "_law_held_here", "_law_j", "_law_lock", "_law_k"]) (sc := (relS ({ kind := .function, names := [(".0", .local), ("_law_lock", .local), ("min", .globalImplicit), ("_law_users", .globalImplicit), ("_law_j", .free), ("_law_levels_here", .free), ("_law_tasks", .free)], isGenerator := false, isCoroutine := false, more := [] } : Scope) (defScope st__law_blocker))) (by decide +kernel)) (fun _ _ _ _ _ => (g_n 9 nd)) (fun _ _ _ _ _ => ts_n) (fun _ _ _ _ _ => (d_ix (o_ixA rfl hu5) (d_w 5) (d_w 9)))) d_an)) (d_ac (d_v 8) (d_ac (d_v 7) d_an)))))))) b_nil)))
    (b_cons (s_if (d_pw (d_and (d_tc (o_gt) (d_bltn (c_len rfl) B.len (d_ab (d_w 6) d_an)) d_int) (d_and1 (d_tc (o_le) (d_ix (o_ixA rfl hu5) (d_bltn (c_minT rfl rfl hu) B.min (d_ab (d_w 6) d_an)) d_int) (d_ix (o_ixA rfl hu5) (d_w 5) (d_w 2)))))) (b_one (s_ret (d_ix (o_ixA rfl hu5) (d_bltn (c_minT rfl rfl hu) B.min (d_ab (d_w 6) d_an)) d_int))) b_nil)
    (b_one (s_ret (d_un o_neg d_int))))))))))
  exact ⟨f, fd, ["_law_spec", "_law_statuses", "_law_i"], rfl, z, mgf, F.kp, F.bindsN fun _ _ _ _ _ _ us hl => match us, hl with | [_, _, _], _ => rfl⟩
def m__law_urgent : FS :=
    (sSeq (sOwn 2 (eL aN))
    (sSeq (sFor (fun S => (aC (eC (f1 lenD) (aC (e2 ixA (eW 0) (eS "tasks")) aN)) aN) S >>= rng1) (gN 3) (sSeq (sPar [4, 5] (aC (e2 ixA (e2 ixA (eW 0) (eS "tasks")) (eW 3)) (aC (e2 ixA (eW 1) (eW 3)) aN)))
    (sIf (tT' (eC d__law_open (aC (eV 4) (aC (eV 5) aN)))) (sSeq (sSet 6 (eI (0)))
    (sSeq (sIf (tB' (e2 eqD (e2 ixA (eW 0) (eS "guard")) (eS "after"))) (sSet 6 (e2 ixA (eW 5) (eI (3)))) sNil)
    (sSeq (sSet 7 (eI (0)))
    (sSeq (sIf (tB' (e2 eqD (e2 ixA (eW 0) (eS "order")) (eS "last"))) (sSet 7 (e1 negD (eW 3))) sNil)
    (sSeq (sIf (tB' (e2 eqD (e2 ixA (eW 0) (eS "order")) (eS "dues"))) (sSet 7 (e2 subD (e2 ixA (e2 ixA (e2 ixA (eW 4) (eI (0))) (e2 ixA (eW 5) (eI (0)))) (eI (1))) (e2 ixA (eW 5) (eI (1))))) sNil)
    (sApp 2 (eT (aC (eV 6) (aC (eV 7) (aC (eV 3) aN)))))))))) sNil)))
    (sRet (lcE (fun S => (eC (f1 srtAD) (aC (eW 2) aN)) S >>= itemsD) (gN 8) tY (e2 ixA (eW 8) (eI (2))) [8]))))
def d__law_urgent : List D → R D := fun ds => (runF true 9 m__law_urgent ds).nox
theorem sc__law_urgent : FnScope ["_law_spec", "_law_statuses", "_law_ranked", "_law_i", "_law_task", "_law_status", "_law_late", "_law_place", "_law_row"] ["_law_spec", "_law_statuses"] (defScope st__law_urgent) := ⟨rfl, rfl, rfl, by decide +kernel, rfl, by decide +kernel, by decide +kernel⟩
theorem ok__law_urgent {f : Addr} {fd : FuncData} (F : FunD K "_law_urgent" "_law_urgent" (defArgs st__law_urgent) (defBody st__law_urgent) (defScope st__law_urgent) [] [] f fd) (mgf : mg "_law_urgent" = some (.ref f)) (B : Bt mg) (h__law_open : Callee P w K mg base ⟨K, cl⟩ 1 "_law_open" 2 false d__law_open) : Callee P w K mg base ⟨K, cl⟩ 2 "_law_urgent" 2 true d__law_urgent := by
  have nd : (["_law_spec", "_law_statuses", "_law_ranked", "_law_i", "_law_task", "_law_status", "_law_late", "_law_place", "_law_row"] : List Str).Nodup := sc__law_urgent.nd
  have z := fn_ok (P := P) (w := w) (mg := mg) (base := base) (k := ⟨K, cl⟩) (fr := true) (lv := 1) (as := [2, 3, 4, 5, 6, 6, 7, 7, 7, 1002]) (s := m__law_urgent) F sc__law_urgent fun cdv A outer sh H G0 hr => by
    have hu := hr.units
    have hu5 := hr.units5
    exact (b_cons (s_own 2 nd (d_lst d_an))
    (b_cons (s_for PassesOwn.never rfl (i_rng1 B.range (d_ab (d_bltn (c_len rfl) B.len (d_ab (d_ix (o_ixA rfl hu5) (d_w 0) d_str) d_an)) d_an)) (g_n 3 nd) (b_cons (s_par2 4 5 nd (d_ac (d_ix (o_ixA rfl hu5) (d_ix (o_ixA rfl hu5) (d_w 0) d_str) (d_w 3)) (d_ac (d_ix (o_ixA rfl hu5) (d_w 1) (d_w 3)) d_an)))
    (b_one (s_if (d_tt rfl (d_callS (h__law_open.at hr (by decide)) (d_ac (d_v 4) (d_ac (d_v 5) d_an)) (len_c (len_c len_n)))) (b_cons (s_set 6 nd d_int)
    (b_cons (s_if (d_tc (o_eq rfl hu) (d_ix (o_ixA rfl hu5) (d_w 0) d_str) d_str) (b_one (s_set 6 nd (d_ix (o_ixA rfl hu5) (d_w 5) d_int))) b_nil)
    (b_cons (s_set 7 nd d_int)
    (b_cons (s_if (d_tc (o_eq rfl hu) (d_ix (o_ixA rfl hu5) (d_w 0) d_str) d_str) (b_one (s_set 7 nd (d_un o_neg (d_w 3)))) b_nil)
    (b_cons (s_if (d_tc (o_eq rfl hu) (d_ix (o_ixA rfl hu5) (d_w 0) d_str) d_str) (b_one (s_set 7 nd (d_op (o_sub) (d_ix (o_ixA rfl hu5) (d_ix (o_ixA rfl hu5) (d_ix (o_ixA rfl hu5) (d_w 4) d_int) (d_ix (o_ixA rfl hu5) (d_w 5) d_int)) d_int) (d_ix (o_ixA rfl hu5) (d_w 5) d_int)))) b_nil)
    (b_one (s_app 2 (d_tup (d_ac (d_v 6) (d_ac (d_v 7) (d_ac (d_v 3) d_an))))))))))) b_nil))))
    (b_one (s_retF (d_lc [("_law_row", 8)] rfl nd (i_seq rfl (d_z (d_bltn (c_srtA rfl hu) B.sorted (d_ab (d_w 2) d_an)))) (blkOk_by (N := ["_law_spec", "_law_statuses", "_law_ranked", "_law_i", "_law_task", "_law_status", "_law_late", "_law_place", "_law_row"]) (sc := (defScope st__law_urgent)) (by decide +kernel)) (fun _ _ _ _ _ => (g_n 8 nd)) (fun _ _ _ _ _ => ts_n) (fun _ _ _ _ _ => (d_ix (o_ixA rfl hu5) (d_w 8) d_int)))))))
  exact ⟨f, fd, ["_law_spec", "_law_statuses"], rfl, z, mgf, F.kp, F.bindsN fun _ _ _ _ _ _ us hl => match us, hl with | [_, _], _ => rfl⟩
def m__law_chosen : FS :=
    (sSeq (sFor (fun S => (eC d__law_urgent (aC (eV 0) (aC (eV 1) aN))) S >>= itemsD) (gN 2) (sSeq (sOwn 3 (eL (aC (eV 2) aN)))
    (sSeq (sSet 4 (eC d__law_blocker (aC (eV 0) (aC (eV 1) (aC (eV 2) aN)))))
    (sSeq (sFor (fun S => (aC (eC (f1 lenD) (aC (e2 ixA (eW 0) (eS "tasks")) aN)) aN) S >>= rng1) (gN 5) (sIf (tA (tB' (e2 inA (eS "lend") (e2 ixA (eW 0) (eS "rules")))) (tA (tB' (e2 geD (eW 4) (eI (0)))) (tB' (e2 notInA (eW 4) (eW 3))))) (sSeq (sApp 3 (eV 4))
    (sSet 4 (eC d__law_blocker (aC (eV 0) (aC (eV 1) (aC (eV 4) aN)))))) sNil))
    (sIf (tB' (e2 ltD (eW 4) (eI (0)))) (sRet (e2 ixA (eW 3) (e1 negD (eI (1))))) sNil)))))
    (sRet (e1 negD (eI (1)))))
def d__law_chosen : List D → R D := fun ds => (runF false 6 m__law_chosen ds).nox
theorem sc__law_chosen : FnScope ["_law_spec", "_law_statuses", "_law_job", "_law_met", "_law_ahead", "_law_turn"] ["_law_spec", "_law_statuses"] (defScope st__law_chosen) := ⟨rfl, rfl, rfl, by decide +kernel, rfl, by decide +kernel, by decide +kernel⟩
theorem ok__law_chosen {f : Addr} {fd : FuncData} (F : FunD K "_law_chosen" "_law_chosen" (defArgs st__law_chosen) (defBody st__law_chosen) (defScope st__law_chosen) [] [] f fd) (mgf : mg "_law_chosen" = some (.ref f)) (B : Bt mg) (h__law_urgent : Callee P w K mg base ⟨K, cl⟩ 2 "_law_urgent" 2 true d__law_urgent) (h__law_blocker : Callee P w K mg base ⟨K, cl⟩ 5 "_law_blocker" 3 false d__law_blocker) : Callee P w K mg base ⟨K, cl⟩ 6 "_law_chosen" 2 false d__law_chosen := by
  have nd : (["_law_spec", "_law_statuses", "_law_job", "_law_met", "_law_ahead", "_law_turn"] : List Str).Nodup := sc__law_chosen.nd
  have z := fn_ok (P := P) (w := w) (mg := mg) (base := base) (k := ⟨K, cl⟩) (fr := false) (lv := 5) (as := [2, 3, 4, 5, 1003, 4]) (s := m__law_chosen) F sc__law_chosen fun cdv A outer sh H G0 hr => by
    have hu := hr.units
    have hu5 := hr.units5
    exact (b_cons (s_for PassesOwn.never rfl (i_seq rfl (d_z (d_callF (h__law_urgent.at hr (by decide)) (d_ac (d_v 0) (d_ac (d_v 1) d_an)) (len_c (len_c len_n))))) (g_n 2 nd) (b_cons (s_own 3 nd (d_lst (d_ac (d_v 2) d_an)))
    (b_cons (s_set 4 nd (d_callS (h__law_blocker.at hr (by decide)) (d_ac (d_v 0) (d_ac (d_v 1) (d_ac (d_v 2) d_an))) (len_c (len_c (len_c len_n)))))
    (b_cons (s_for PassesOwn.never rfl (i_rng1 B.range (d_ab (d_bltn (c_len rfl) B.len (d_ab (d_ix (o_ixA rfl hu5) (d_w 0) d_str) d_an)) d_an)) (g_n 5 nd) (b_one (s_if (d_pw (d_and (d_tc (o_inA rfl hu5) d_str (d_ix (o_ixA rfl hu5) (d_w 0) d_str)) (d_and (d_tc (o_ge) (d_w 4) d_int) (d_and1 (d_tc (o_notinA rfl hu5) (d_w 4) (d_w 3)))))) (b_cons (s_app 3 (d_v 4))
    (b_one (s_set 4 nd (d_callS (h__law_blocker.at hr (by decide)) (d_ac (d_v 0) (d_ac (d_v 1) (d_ac (d_v 4) d_an))) (len_c (len_c (len_c len_n))))))) b_nil)))
    (b_one (s_if (d_tc (o_lt) (d_w 4) d_int) (b_one (s_ret (d_ix (o_ixA rfl hu5) (d_w 3) (d_un o_neg d_int)))) b_nil))))))
    (b_one (s_ret (d_un o_neg d_int))))
  exact ⟨f, fd, ["_law_spec", "_law_statuses"], rfl, z, mgf, F.kp, F.bindsN fun _ _ _ _ _ _ us hl => match us, hl with | [_, _], _ => rfl⟩
def m__law_arrived : FS :=
    (sSeq (sOwn 3 (eL aN))
    (sSeq (sFor (fun S => (aC (eC (f1 lenD) (aC (e2 ixA (eW 0) (eS "tasks")) aN)) aN) S >>= rng1) (gN 4) (sSeq (sPar [5, 6] (aC (e2 ixA (e2 ixA (eW 0) (eS "tasks")) (eW 4)) (aC (e2 ixA (eW 1) (eW 4)) aN)))
    (sSeq (sSet 7 (eAnd (e2 eqD (e2 ixA (eW 0) (eS "door")) (eS "shut")) (eAnd (e2 geD (e2 ixA (eW 2) (eW 4)) (eI (0))) (eNot (eC d__law_allows (aC (eV 5) (aC (eV 6) (aC (e2 ixA (eW 2) (eW 4)) aN))))))))
    (sIf (tO (tB' (e2 ltD (e2 ixA (eW 2) (eW 4)) (eI (0)))) (tO (tT' (eC d__law_open (aC (eV 5) (aC (eV 6) aN)))) (tT' (eW 7)))) (sApp 3 (eV 6)) (sApp 3 (eT (aC (e2 ixA (eW 2) (eW 4)) (aC (eI (0)) (aC (eI (0)) (aC (eI (0)) aN))))))))))
    (sRet (eC (f1 tupD) (aC (eW 3) aN)))))
def d__law_arrived : List D → R D := fun ds => (runF false 8 m__law_arrived ds).nox
theorem sc__law_arrived : FnScope ["_law_spec", "_law_statuses", "_law_comes", "_law_found", "_law_i", "_law_task", "_law_status", "_law_away"] ["_law_spec", "_law_statuses", "_law_comes"] (defScope st__law_arrived) := ⟨rfl, rfl, rfl, by decide +kernel, rfl, by decide +kernel, by decide +kernel⟩
theorem ok__law_arrived {f : Addr} {fd : FuncData} (F : FunD K "_law_arrived" "_law_arrived" (defArgs st__law_arrived) (defBody st__law_arrived) (defScope st__law_arrived) [] [] f fd) (mgf : mg "_law_arrived" = some (.ref f)) (B : Bt mg) (h__law_allows : Callee P w K mg base ⟨K, cl⟩ 1 "_law_allows" 3 false d__law_allows) (h__law_open : Callee P w K mg base ⟨K, cl⟩ 1 "_law_open" 2 false d__law_open) : Callee P w K mg base ⟨K, cl⟩ 2 "_law_arrived" 3 false d__law_arrived := by
  have nd : (["_law_spec", "_law_statuses", "_law_comes", "_law_found", "_law_i", "_law_task", "_law_status", "_law_away"] : List Str).Nodup := sc__law_arrived.nd
  have z := fn_ok (P := P) (w := w) (mg := mg) (base := base) (k := ⟨K, cl⟩) (fr := false) (lv := 1) (as := [3, 4, 5, 6, 7, 1003, 1003]) (s := m__law_arrived) F sc__law_arrived fun cdv A outer sh H G0 hr => by
    have hu := hr.units
    have hu5 := hr.units5
    exact (b_cons (s_own 3 nd (d_lst d_an))
    (b_cons (s_for PassesOwn.never rfl (i_rng1 B.range (d_ab (d_bltn (c_len rfl) B.len (d_ab (d_ix (o_ixA rfl hu5) (d_w 0) d_str) d_an)) d_an)) (g_n 4 nd) (b_cons (s_par2 5 6 nd (d_ac (d_ix (o_ixA rfl hu5) (d_ix (o_ixA rfl hu5) (d_w 0) d_str) (d_w 4)) (d_ac (d_ix (o_ixA rfl hu5) (d_w 1) (d_w 4)) d_an)))
    (b_cons (s_set 7 nd (d_vand (d_cmp (o_eq rfl hu) (d_ix (o_ixA rfl hu5) (d_w 0) d_str) d_str) (d_vand (d_cmp (o_ge) (d_ix (o_ixA rfl hu5) (d_w 2) (d_w 4)) d_int) (d_vone (d_vnot (d_callS (h__law_allows.at hr (by decide)) (d_ac (d_v 5) (d_ac (d_v 6) (d_ac (d_ix (o_ixA rfl hu5) (d_w 2) (d_w 4)) d_an))) (len_c (len_c (len_c len_n)))))))))
    (b_one (s_if (d_pw (d_or (d_tc (o_lt) (d_ix (o_ixA rfl hu5) (d_w 2) (d_w 4)) d_int) (d_or (d_tt rfl (d_callS (h__law_open.at hr (by decide)) (d_ac (d_v 5) (d_ac (d_v 6) d_an)) (len_c (len_c len_n)))) (d_or1 (d_tt rfl (d_w 7)))))) (b_one (s_app 3 (d_v 6))) (b_one (s_app 3 (d_tup (d_ac (d_ix (o_ixA rfl hu5) (d_w 2) (d_w 4)) (d_ac d_int (d_ac d_int (d_ac d_int d_an))))))))))))
    (b_one (s_ret (d_btyp (c_tup rfl) B.tuple (d_ab (d_w 3) d_an))))))
  exact ⟨f, fd, ["_law_spec", "_law_statuses", "_law_comes"], rfl, z, mgf, F.kp, F.bindsN fun _ _ _ _ _ _ us hl => match us, hl with | [_, _, _], _ => rfl⟩
def m__law_states : FS :=
    (sSeq (sOwn 3 (eL aN))
    (sSeq (sFor (fun S => (eV 0) S >>= itemsD) (gN 4) (sIf (tA (tB' (e2 inA (e2 ixA (eW 4) (eI (0))) (eW 1))) (tA (tB' (e2 eqD (e2 ixA (eW 4) (eI (1))) (eW 2))) (tB' (e2 notInA (e2 ixA (eW 4) (eI (2))) (eW 3))))) (sApp 3 (e2 ixA (eW 4) (eI (2)))) sNil))
    (sRet (eC (f1 tupD) (aC (eC (f1 srtAD) (aC (eW 3) aN)) aN)))))
def d__law_states : List D → R D := fun ds => (runF false 5 m__law_states ds).nox
theorem sc__law_states : FnScope ["_law_steps", "_law_states_here", "_law_tick", "_law_found", "_law_step"] ["_law_steps", "_law_states_here", "_law_tick"] (defScope st__law_states) := ⟨rfl, rfl, rfl, by decide +kernel, rfl, by decide +kernel, by decide +kernel⟩
theorem ok__law_states {f : Addr} {fd : FuncData} (F : FunD K "_law_states" "_law_states" (defArgs st__law_states) (defBody st__law_states) (defScope st__law_states) [] [] f fd) (mgf : mg "_law_states" = some (.ref f)) (B : Bt mg)  : Callee P w K mg base ⟨K, cl⟩ 1 "_law_states" 3 false d__law_states := by
  have nd : (["_law_steps", "_law_states_here", "_law_tick", "_law_found", "_law_step"] : List Str).Nodup := sc__law_states.nd
  have z := fn_ok (P := P) (w := w) (mg := mg) (base := base) (k := ⟨K, cl⟩) (fr := false) (lv := 0) (as := [3, 4, 1003]) (s := m__law_states) F sc__law_states fun cdv A outer sh H G0 hr => by
    have hu := hr.units
    have hu5 := hr.units5
    exact (b_cons (s_own 3 nd (d_lst d_an))
    (b_cons (s_for PassesOwn.never rfl (i_seq rfl (d_v 0)) (g_n 4 nd) (b_one (s_if (d_pw (d_and (d_tc (o_inA rfl hu5) (d_ix (o_ixA rfl hu5) (d_w 4) d_int) (d_w 1)) (d_and (d_tc (o_eq rfl hu) (d_ix (o_ixA rfl hu5) (d_w 4) d_int) (d_w 2)) (d_and1 (d_tc (o_notinA rfl hu5) (d_ix (o_ixA rfl hu5) (d_w 4) d_int) (d_w 3)))))) (b_one (s_app 3 (d_ix (o_ixA rfl hu5) (d_w 4) d_int))) b_nil)))
    (b_one (s_ret (d_btyp (c_tup rfl) B.tuple (d_ab (d_bltn (c_srtA rfl hu) B.sorted (d_ab (d_w 3) d_an)) d_an))))))
  exact ⟨f, fd, ["_law_steps", "_law_states_here", "_law_tick"], rfl, z, mgf, F.kp, F.bindsN fun _ _ _ _ _ _ us hl => match us, hl with | [_, _, _], _ => rfl⟩
def m__law_start : FS :=
    (sRet (eT (aC (eC (f1 tupD) (aC (eC (f1 srtAD) (aC (e2 ixA (eW 0) (eS "starts")) aN)) aN)) (aC (eC (f1 tupD) (aC (lcE (fun S => (e2 ixA (eW 0) (eS "tasks")) S >>= itemsD) (gN 1) tY (eT (aC (e1 negD (eI (1))) (aC (eI (0)) (aC (eI (0)) (aC (eI (0)) aN))))) [1]) aN)) aN))))
def d__law_start : List D → R D := fun ds => (runF false 2 m__law_start ds).nox
theorem sc__law_start : FnScope ["_law_spec", "_law_task"] ["_law_spec"] (defScope st__law_start) := ⟨rfl, rfl, rfl, by decide +kernel, rfl, by decide +kernel, by decide +kernel⟩
theorem ok__law_start {f : Addr} {fd : FuncData} (F : FunD K "_law_start" "_law_start" (defArgs st__law_start) (defBody st__law_start) (defScope st__law_start) [] [] f fd) (mgf : mg "_law_start" = some (.ref f)) (B : Bt mg)  : Callee P w K mg base ⟨K, cl⟩ 1 "_law_start" 1 false d__law_start := by
  have nd : (["_law_spec", "_law_task"] : List Str).Nodup := sc__law_start.nd
  have z := fn_ok (P := P) (w := w) (mg := mg) (base := base) (k := ⟨K, cl⟩) (fr := false) (lv := 0) (as := []) (s := m__law_start) F sc__law_start fun cdv A outer sh H G0 hr => by
    have hu := hr.units
    have hu5 := hr.units5
    exact (b_one (s_ret (d_tup (d_ac (d_btyp (c_tup rfl) B.tuple (d_ab (d_bltn (c_srtA rfl hu) B.sorted (d_ab (d_ix (o_ixA rfl hu5) (d_w 0) d_str) d_an)) d_an)) (d_ac (d_btyp (c_tup rfl) B.tuple (d_ab (d_lc [("_law_task", 1)] rfl nd (i_seq rfl (d_ix (o_ixA rfl hu5) (d_w 0) d_str)) (blkOk_by (N := ["_law_spec", "_law_task"]) (sc := (defScope st__law_start)) (by decide +kernel)) (fun _ _ _ _ _ => (g_n 1 nd)) (fun _ _ _ _ _ => ts_n) (fun _ _ _ _ _ => (d_tup (d_ac (d_un o_neg d_int) (d_ac d_int (d_ac d_int (d_ac d_int d_an))))))) d_an)) d_an)))))
  exact ⟨f, fd, ["_law_spec"], rfl, z, mgf, F.kp, F.bindsN fun _ _ _ _ _ _ us hl => match us, hl with | [_], _ => rfl⟩
def m__law_may_ask : FS :=
    (sRet (eOr (e2 eqD (e2 ixA (eW 1) (eI (3))) (eI (1))) (e2 eqD (e2 addD (e2 ixA (eW 1) (eI (2))) (eI (1))) (eC (f1 lenD) (aC (e2 ixA (e2 ixA (e2 ixA (eW 0) (eI (0))) (e2 ixA (eW 1) (eI (0)))) (eI (0))) aN)))))
def d__law_may_ask : List D → R D := fun ds => (runF false 2 m__law_may_ask ds).nox
theorem sc__law_may_ask : FnScope ["_law_task", "_law_status"] ["_law_task", "_law_status"] (defScope st__law_may_ask) := ⟨rfl, rfl, rfl, by decide +kernel, rfl, by decide +kernel, by decide +kernel⟩
theorem ok__law_may_ask {f : Addr} {fd : FuncData} (F : FunD K "_law_may_ask" "_law_may_ask" (defArgs st__law_may_ask) (defBody st__law_may_ask) (defScope st__law_may_ask) [] [] f fd) (mgf : mg "_law_may_ask" = some (.ref f)) (B : Bt mg)  : Callee P w K mg base ⟨K, cl⟩ 1 "_law_may_ask" 2 false d__law_may_ask := by
  have nd : (["_law_task", "_law_status"] : List Str).Nodup := sc__law_may_ask.nd
  have z := fn_ok (P := P) (w := w) (mg := mg) (base := base) (k := ⟨K, cl⟩) (fr := false) (lv := 0) (as := []) (s := m__law_may_ask) F sc__law_may_ask fun cdv A outer sh H G0 hr => by
    have hu := hr.units
    have hu5 := hr.units5
    exact (b_one (s_ret (d_vor (d_cmp (o_eq rfl hu) (d_ix (o_ixA rfl hu5) (d_w 1) d_int) d_int) (d_vone (d_cmp (o_eq rfl hu) (d_op (o_add rfl) (d_ix (o_ixA rfl hu5) (d_w 1) d_int) d_int) (d_bltn (c_len rfl) B.len (d_ab (d_ix (o_ixA rfl hu5) (d_ix (o_ixA rfl hu5) (d_ix (o_ixA rfl hu5) (d_w 0) d_int) (d_ix (o_ixA rfl hu5) (d_w 1) d_int)) d_int) d_an)))))))
  exact ⟨f, fd, ["_law_task", "_law_status"], rfl, z, mgf, F.kp, F.bindsN fun _ _ _ _ _ _ us hl => match us, hl with | [_, _], _ => rfl⟩
def m__law_after : FS :=
    (sSeq (sAsg (gT 4 (gsC (gN 3) (gsC (gN 4) (gsC (gN 5) (gsC (gN 6) gsN))))) (eV 2))
    (sSeq (sOwn 7 (eC (f1 lstD) (aC (eC d__law_arrived (aC (eV 0) (aC (e2 ixA (eW 1) (eI (1))) (aC (eV 4) aN)))) aN)))
    (sSeq (sIf (tB' (e2 geD (eW 5) (eI (0)))) (sSeq (sAsg (gT 4 (gsC (gN 8) (gsC (gN 9) (gsC (gN 10) (gsC (gN 11) gsN))))) (e2 ixA (eW 7) (eW 5)))
    (sSeq (sIf (tB' (e2 eqD (eW 11) (eI (0)))) (sSet 10 (e2 addD (eW 10) (eI (1)))) sNil)
    (sSeq (sSet 11 (eI (0)))
    (sSeq (sIf (tA (tB' (e2 eqD (eW 10) (eC (f1 lenD) (aC (e2 ixA (e2 ixA (e2 ixA (e2 ixA (e2 ixA (eW 0) (eS "tasks")) (eW 5)) (eI (0))) (eW 8)) (eI (0))) aN)))) (tA (tB' (e2 eqD (eW 6) (eI (1)))) (tB' (e2 neD (e2 ixA (eW 0) (eS "guard")) (eS "cut"))))) (sSet 11 (eI (1))) sNil)
    (sSub 7 (eW 5) (eT (aC (eV 8) (aC (eV 9) (aC (eV 10) (aC (eV 11) aN)))))))))) sNil)
    (sSeq (sFor (fun S => (aC (eC (f1 lenD) (aC (eW 7) aN)) aN) S >>= rng1) (gN 12) (sSeq (sAsg (gT 4 (gsC (gN 8) (gsC (gN 9) (gsC (gN 10) (gsC (gN 11) gsN))))) (e2 ixA (eW 7) (eW 12)))
    (sIf (tB' (e2 geD (eW 8) (eI (0)))) (sSub 7 (eW 12) (eT (aC (eV 8) (aC (eC (f2 min2D) (aC (e2 addD (eW 9) (eI (1))) (aC (eC d__law_cap (aC (e2 ixA (e2 ixA (eW 0) (eS "tasks")) (eW 12)) (aC (eV 8) aN))) aN))) (aC (eV 10) (aC (eV 11) aN)))))) sNil)))
    (sRet (eT (aC (eC d__law_states (aC (e2 ixA (eW 0) (eS "steps")) (aC (e2 ixA (eW 1) (eI (0))) (aC (eV 3) aN)))) (aC (eC (f1 tupD) (aC (eW 7) aN)) aN))))))))
def d__law_after : List D → R D := fun ds => (runF false 13 m__law_after ds).nox
theorem sc__law_after : FnScope ["_law_spec", "_law_standing", "_law_row", "_law_bit", "_law_comes", "_law_ran", "_law_more", "_law_statuses", "_law_node", "_law_age", "_law_done", "_law_over", "_law_i"] ["_law_spec", "_law_standing", "_law_row"] (defScope st__law_after) := ⟨rfl, rfl, rfl, by decide +kernel, rfl, by decide +kernel, by decide +kernel⟩
theorem ok__law_after {f : Addr} {fd : FuncData} (F : FunD K "_law_after" "_law_after" (defArgs st__law_after) (defBody st__law_after) (defScope st__law_after) [] [] f fd) (mgf : mg "_law_after" = some (.ref f)) (B : Bt mg) (h__law_arrived : Callee P w K mg base ⟨K, cl⟩ 2 "_law_arrived" 3 false d__law_arrived) (h__law_cap : Callee P w K mg base ⟨K, cl⟩ 1 "_law_cap" 2 false d__law_cap) (h__law_states : Callee P w K mg base ⟨K, cl⟩ 1 "_law_states" 3 false d__law_states) : Callee P w K mg base ⟨K, cl⟩ 3 "_law_after" 3 false d__law_after := by
  have nd : (["_law_spec", "_law_standing", "_law_row", "_law_bit", "_law_comes", "_law_ran", "_law_more", "_law_statuses", "_law_node", "_law_age", "_law_done", "_law_over", "_law_i"] : List Str).Nodup := sc__law_after.nd
  have z := fn_ok (P := P) (w := w) (mg := mg) (base := base) (k := ⟨K, cl⟩) (fr := false) (lv := 2) (as := [3, 4, 5, 6, 7, 8, 9, 10, 11, 10, 11, 11, 1007, 12, 8, 9, 10, 11, 1007]) (s := m__law_after) F sc__law_after fun cdv A outer sh H G0 hr => by
    have hu := hr.units
    have hu5 := hr.units5
    exact (b_cons (s_asg (d_v 2) (g_t rfl rfl (gs_c (g_n 3 nd) (gs_c (g_n 4 nd) (gs_c (g_n 5 nd) (gs_c (g_n 6 nd) gs_n))))))
    (b_cons (s_own 7 nd (d_btyp (c_lst rfl) B.list (d_ab (d_callS (h__law_arrived.at hr (by decide)) (d_ac (d_v 0) (d_ac (d_ix (o_ixA rfl hu5) (d_w 1) d_int) (d_ac (d_v 4) d_an))) (len_c (len_c (len_c len_n)))) d_an)))
    (b_cons (s_if (d_tc (o_ge) (d_w 5) d_int) (b_cons (s_asg (d_ix (o_ixA rfl hu5) (d_w 7) (d_w 5)) (g_t rfl rfl (gs_c (g_n 8 nd) (gs_c (g_n 9 nd) (gs_c (g_n 10 nd) (gs_c (g_n 11 nd) gs_n))))))
    (b_cons (s_if (d_tc (o_eq rfl hu) (d_w 11) d_int) (b_one (s_set 10 nd (d_op (o_add rfl) (d_w 10) d_int))) b_nil)
    (b_cons (s_set 11 nd d_int)
    (b_cons (s_if (d_pw (d_and (d_tc (o_eq rfl hu) (d_w 10) (d_bltn (c_len rfl) B.len (d_ab (d_ix (o_ixA rfl hu5) (d_ix (o_ixA rfl hu5) (d_ix (o_ixA rfl hu5) (d_ix (o_ixA rfl hu5) (d_ix (o_ixA rfl hu5) (d_w 0) d_str) (d_w 5)) d_int) (d_w 8)) d_int) d_an))) (d_and (d_tc (o_eq rfl hu) (d_w 6) d_int) (d_and1 (d_tc (o_ne rfl hu) (d_ix (o_ixA rfl hu5) (d_w 0) d_str) d_str))))) (b_one (s_set 11 nd d_int)) b_nil)
    (b_one (s_sub 7 (d_tup (d_ac (d_v 8) (d_ac (d_v 9) (d_ac (d_v 10) (d_ac (d_v 11) d_an))))) (d_w 5))))))) b_nil)
    (b_cons (s_for PassesOwn.never rfl (i_rng1 B.range (d_ab (d_bltn (c_len rfl) B.len (d_ab (d_w 7) d_an)) d_an)) (g_n 12 nd) (b_cons (s_asg (d_ix (o_ixA rfl hu5) (d_w 7) (d_w 12)) (g_t rfl rfl (gs_c (g_n 8 nd) (gs_c (g_n 9 nd) (gs_c (g_n 10 nd) (gs_c (g_n 11 nd) gs_n))))))
    (b_one (s_if (d_tc (o_ge) (d_w 8) d_int) (b_one (s_sub 7 (d_tup (d_ac (d_v 8) (d_ac (d_bltn (c_min2 rfl) B.min (d_ab (d_op (o_add rfl) (d_w 9) d_int) (d_ab (d_callS (h__law_cap.at hr (by decide)) (d_ac (d_ix (o_ixA rfl hu5) (d_ix (o_ixA rfl hu5) (d_w 0) d_str) (d_w 12)) (d_ac (d_v 8) d_an)) (len_c (len_c len_n))) d_an))) (d_ac (d_v 10) (d_ac (d_v 11) d_an))))) (d_w 12))) b_nil))))
    (b_one (s_ret (d_tup (d_ac (d_callS (h__law_states.at hr (by decide)) (d_ac (d_ix (o_ixA rfl hu5) (d_w 0) d_str) (d_ac (d_ix (o_ixA rfl hu5) (d_w 1) d_int) (d_ac (d_v 3) d_an))) (len_c (len_c (len_c len_n)))) (d_ac (d_btyp (c_tup rfl) B.tuple (d_ab (d_w 7) d_an)) d_an)))))))))
  exact ⟨f, fd, ["_law_spec", "_law_standing", "_law_row"], rfl, z, mgf, F.kp, F.bindsN fun _ _ _ _ _ _ us hl => match us, hl with | [_, _, _], _ => rfl⟩
def m__law_any_row : FS :=
    (sSeq (sOwn 4 (eL aN))
    (sSeq (sFor (fun S => (aC (eC (f1 lenD) (aC (e2 ixA (eW 0) (eS "tasks")) aN)) aN) S >>= rng1) (gN 5) (sApp 4 (e2 subD (e2 modD (eC (f1 intD) (aC (e2 fdivD (eW 2) (e2 ixA (eL (aC (eI (1)) (aC (eI (3)) (aC (eI (9)) aN)))) (eW 5))) aN)) (e2 addD (eC (f1 lenD) (aC (e2 ixA (e2 ixA (e2 ixA (eW 0) (eS "tasks")) (eW 5)) (eI (0))) aN)) (eI (1)))) (eI (1)))))
    (sSeq (sSet 4 (eC (f1 tupD) (aC (eW 4) aN)))
    (sSeq (sFz 4 (sSet 6 (eC d__law_arrived (aC (eV 0) (aC (e2 ixA (eW 1) (eI (1))) (aC (eV 4) aN))))))
    (sSeq (sSet 7 (lcE (fun S => (aC (eC (f1 lenD) (aC (eW 6) aN)) aN) S >>= rng1) (gN 5) (tA (tT' (eC d__law_open (aC (e2 ixA (e2 ixA (eW 0) (eS "tasks")) (eW 5)) (aC (e2 ixA (eW 6) (eW 5)) aN)))) (tB' (e2 ltD (eC d__law_blocked (aC (e2 ixA (eW 0) (eS "tasks")) (aC (eV 6) (aC (eV 5) aN)))) (eI (0))))) (eV 5) [5]))
    (sSeq (sSet 8 (e1 negD (eI (1))))
    (sSeq (sIf (tA (tB' (e2 gtD (e2 modD (eC (f1 intD) (aC (eW 3) aN)) (eI (4))) (eI (0)))) (tA (tB' (e2 gtD (eC (f1 lenD) (aC (eW 7) aN)) (eI (0)))) (tB' (e2 ltD (e2 modD (eC (f1 intD) (aC (e2 fdivD (eW 3) (eI (4))) aN)) (eI (5))) (eI (4)))))) (sSeq (sSet 8 (e2 ixA (eW 7) (e2 modD (eC (f1 intD) (aC (e2 fdivD (eW 3) (eI (4))) aN)) (eC (f1 lenD) (aC (eW 7) aN)))))
    (sIf (tB' (e2 eqD (e2 modD (eC (f1 intD) (aC (e2 fdivD (eW 3) (eI (20))) aN)) (eI (2))) (eI (1)))) (sSet 8 (eC d__law_chosen (aC (eV 0) (aC (eV 6) aN)))) sNil)) sNil)
    (sSeq (sSet 9 (eI (0)))
    (sSeq (sIf (tA (tB' (e2 geD (eW 8) (eI (0)))) (tA (tB' (e2 eqD (e2 modD (eC (f1 intD) (aC (e2 fdivD (eW 3) (eI (12))) aN)) (eI (3))) (eI (1)))) (tT' (eC d__law_may_ask (aC (e2 ixA (e2 ixA (eW 0) (eS "tasks")) (eW 8)) (aC (e2 ixA (eW 6) (eW 8)) aN)))))) (sSet 9 (eI (1))) sNil)
    (sFz 4 (sRet (eT (aC (eC (f2 min2D) (aC (eI (1)) (aC (e2 modD (eC (f1 intD) (aC (eW 3) aN)) (eI (4))) aN))) (aC (eV 4) (aC (eV 8) (aC (eV 9) aN))))))))))))))))
def d__law_any_row : List D → R D := fun ds => (runF false 10 m__law_any_row ds).nox
theorem sc__law_any_row : FnScope ["_law_spec", "_law_standing", "_law_a", "_law_b", "_law_comes", "_law_i", "_law_statuses", "_law_can", "_law_ran", "_law_more"] ["_law_spec", "_law_standing", "_law_a", "_law_b"] (defScope st__law_any_row) := ⟨rfl, rfl, rfl, by decide +kernel, rfl, by decide +kernel, by decide +kernel⟩
theorem ok__law_any_row {f : Addr} {fd : FuncData} (F : FunD K "_law_any_row" "_law_any_row" (defArgs st__law_any_row) (defBody st__law_any_row) (defScope st__law_any_row) [] [] f fd) (mgf : mg "_law_any_row" = some (.ref f)) (B : Bt mg) (h__law_arrived : Callee P w K mg base ⟨K, cl⟩ 2 "_law_arrived" 3 false d__law_arrived) (h__law_open : Callee P w K mg base ⟨K, cl⟩ 1 "_law_open" 2 false d__law_open) (h__law_blocked : Callee P w K mg base ⟨K, cl⟩ 4 "_law_blocked" 3 false d__law_blocked) (h__law_chosen : Callee P w K mg base ⟨K, cl⟩ 6 "_law_chosen" 2 false d__law_chosen) (h__law_may_ask : Callee P w K mg base ⟨K, cl⟩ 1 "_law_may_ask" 2 false d__law_may_ask) : Callee P w K mg base ⟨K, cl⟩ 7 "_law_any_row" 4 false d__law_any_row := by
  have nd : (["_law_spec", "_law_standing", "_law_a", "_law_b", "_law_comes", "_law_i", "_law_statuses", "_law_can", "_law_ran", "_law_more"] : List Str).Nodup := sc__law_any_row.nd
  have z := fn_ok (P := P) (w := w) (mg := mg) (base := base) (k := ⟨K, cl⟩) (fr := false) (lv := 6) (as := [4, 5, 1004, 4, 4, 6, 7, 8, 8, 8, 9, 9, 4]) (s := m__law_any_row) F sc__law_any_row fun cdv A outer sh H G0 hr => by
    have hu := hr.units
    have hu5 := hr.units5
    exact (b_cons (s_own 4 nd (d_lst d_an))
    (b_cons (s_for PassesOwn.never rfl (i_rng1 B.range (d_ab (d_bltn (c_len rfl) B.len (d_ab (d_ix (o_ixA rfl hu5) (d_w 0) d_str) d_an)) d_an)) (g_n 5 nd) (b_one (s_app 4 (d_op (o_sub) (d_op (o_mod) (d_btyp (c_int) B.int (d_ab (d_op (o_fdiv) (d_w 2) (d_ix (o_ixA rfl hu5) (d_lst (d_ac d_int (d_ac d_int (d_ac d_int d_an)))) (d_w 5))) d_an)) (d_op (o_add rfl) (d_bltn (c_len rfl) B.len (d_ab (d_ix (o_ixA rfl hu5) (d_ix (o_ixA rfl hu5) (d_ix (o_ixA rfl hu5) (d_w 0) d_str) (d_w 5)) d_int) d_an)) d_int)) d_int))))
    (b_cons (s_set 4 nd (d_btyp (c_tup rfl) B.tuple (d_ab (d_w 4) d_an)))
    (b_cons (s_fz 4 (s_set 6 nd (d_callS (h__law_arrived.at hr (by decide)) (d_ac (d_v 0) (d_ac (d_ix (o_ixA rfl hu5) (d_w 1) d_int) (d_ac (d_v 4) d_an))) (len_c (len_c (len_c len_n))))))
    (b_cons (s_lcZ 7 [("_law_i", 5)] rfl nd (i_rng1 B.range (d_ab (d_bltn (c_len rfl) B.len (d_ab (d_w 6) d_an)) d_an)) (blkOk_by (N := ["_law_spec", "_law_standing", "_law_a", "_law_b", "_law_comes", "_law_i", "_law_statuses", "_law_can", "_law_ran", "_law_more"]) (sc := (defScope st__law_any_row)) (by decide +kernel)) (fun _ _ _ _ _ => (g_n 5 nd)) (fun _ _ _ _ _ => (ts_1 (d_pw (d_and (d_tt rfl (d_callS (h__law_open.at hr (by decide)) (d_ac (d_ix (o_ixA rfl hu5) (d_ix (o_ixA rfl hu5) (d_w 0) d_str) (d_w 5)) (d_ac (d_ix (o_ixA rfl hu5) (d_w 6) (d_w 5)) d_an)) (len_c (len_c len_n)))) (d_and1 (d_tc (o_lt) (d_callS (h__law_blocked.at hr (by decide)) (d_ac (d_ix (o_ixA rfl hu5) (d_w 0) d_str) (d_ac (d_v 6) (d_ac (d_v 5) d_an))) (len_c (len_c (len_c len_n)))) d_int)))))) (fun _ _ _ _ _ => (d_v 5)))
    (b_cons (s_set 8 nd (d_un o_neg d_int))
    (b_cons (s_if (d_pw (d_and (d_tc (o_gt) (d_op (o_mod) (d_btyp (c_int) B.int (d_ab (d_w 3) d_an)) d_int) d_int) (d_and (d_tc (o_gt) (d_bltn (c_len rfl) B.len (d_ab (d_w 7) d_an)) d_int) (d_and1 (d_tc (o_lt) (d_op (o_mod) (d_btyp (c_int) B.int (d_ab (d_op (o_fdiv) (d_w 3) d_int) d_an)) d_int) d_int))))) (b_cons (s_set 8 nd (d_ix (o_ixA rfl hu5) (d_w 7) (d_op (o_mod) (d_btyp (c_int) B.int (d_ab (d_op (o_fdiv) (d_w 3) d_int) d_an)) (d_bltn (c_len rfl) B.len (d_ab (d_w 7) d_an)))))
    (b_one (s_if (d_tc (o_eq rfl hu) (d_op (o_mod) (d_btyp (c_int) B.int (d_ab (d_op (o_fdiv) (d_w 3) d_int) d_an)) d_int) d_int) (b_one (s_set 8 nd (d_callS (h__law_chosen.at hr (by decide)) (d_ac (d_v 0) (d_ac (d_v 6) d_an)) (len_c (len_c len_n))))) b_nil))) b_nil)
    (b_cons (s_set 9 nd d_int)
    (b_cons (s_if (d_pw (d_and (d_tc (o_ge) (d_w 8) d_int) (d_and (d_tc (o_eq rfl hu) (d_op (o_mod) (d_btyp (c_int) B.int (d_ab (d_op (o_fdiv) (d_w 3) d_int) d_an)) d_int) d_int) (d_and1 (d_tt rfl (d_callS (h__law_may_ask.at hr (by decide)) (d_ac (d_ix (o_ixA rfl hu5) (d_ix (o_ixA rfl hu5) (d_w 0) d_str) (d_w 8)) (d_ac (d_ix (o_ixA rfl hu5) (d_w 6) (d_w 8)) d_an)) (len_c (len_c len_n)))))))) (b_one (s_set 9 nd d_int)) b_nil)
    (b_one (s_fz 4 (s_ret (d_tup (d_ac (d_bltn (c_min2 rfl) B.min (d_ab d_int (d_ab (d_op (o_mod) (d_btyp (c_int) B.int (d_ab (d_w 3) d_an)) d_int) d_an))) (d_ac (d_v 4) (d_ac (d_v 8) (d_ac (d_v 9) d_an)))))))))))))))))
  exact ⟨f, fd, ["_law_spec", "_law_standing", "_law_a", "_law_b"], rfl, z, mgf, F.kp, F.bindsN fun _ _ _ _ _ _ us hl => match us, hl with | [_, _, _, _], _ => rfl⟩
def m__law_lock_task : FS :=
    (sSeq (sSet 2 (e2 ixA (eL (aC (eS "a") (aC (eS "b") (aC (eS "c") (aC (eS "") aN))))) (e2 modD (eC (f1 intD) (aC (e2 ixA (eW 0) (eW 1)) aN)) (eI (4)))))
    (sSeq (sSet 3 (e2 ixA (eL (aC (eS "") (aC (eS "a") (aC (eS "b") (aC (eS "c") aN))))) (e2 modD (e2 fdivD (eC (f1 intD) (aC (e2 ixA (eW 0) (eW 1)) aN)) (eI (4))) (eI (4)))))
    (sSeq (sSet 4 (eM1 joinD (eS "") (eC (f1 srtAD) (aC (lcE (fun S => (eS "abc") S >>= itemsD) (gN 7) (tB' (e2 inA (eW 7) (e2 addD (eW 2) (eW 3)))) (eV 7) [7]) aN))))
    (sSeq (sSet 5 (e2 ixA (eL (aC (eL (aC (eV 2) (aC (eV 4) (aC (eV 3) aN)))) (aC (eL (aC (eV 2) (aC (eV 4) aN))) (aC (eL (aC (eV 4) (aC (eV 4) aN))) (aC (eL (aC (eV 4) aN)) (aC (eL (aC (eV 2) (aC (eV 2) (aC (eV 4) aN)))) (aC (eL (aC (eV 3) (aC (eV 4) (aC (eV 2) aN)))) aN))))))) (e2 modD (eC (f1 intD) (aC (e2 ixA (eW 0) (e2 addD (eW 1) (eI (1)))) aN)) (eI (6)))))
    (sSeq (sSet 6 (e2 addD (eC (f1 lenD) (aC (eW 5) aN)) (e2 modD (eC (f1 intD) (aC (e2 ixA (eW 0) (e2 addD (eW 1) (eI (2)))) aN)) (eI (3)))))
    (sRet (eT (aC (eL (aC (eT (aC (eC (f1 tupD) (aC (eW 5) aN)) (aC (eV 6) aN))) aN)) (aC (eL (aC (eT (aC (eI (0)) (aC (eI (0)) (aC (eC (f2 min2D) (aC (eI (8)) (aC (e2 addD (eW 6) (e2 modD (e2 fdivD (eC (f1 intD) (aC (e2 ixA (eW 0) (e2 addD (eW 1) (eI (2)))) aN)) (eI (3))) (eI (3)))) aN))) aN)))) aN)) (aC (eB false) aN))))))))))
def d__law_lock_task : List D → R D := fun ds => (runF false 8 m__law_lock_task ds).nox
theorem sc__law_lock_task : FnScope ["_law_d", "_law_at", "_law_one", "_law_two", "_law_both", "_law_plan", "_law_due", "_law_lock"] ["_law_d", "_law_at"] (defScope st__law_lock_task) := ⟨rfl, rfl, rfl, by decide +kernel, rfl, by decide +kernel, by decide +kernel⟩
theorem ok__law_lock_task {f : Addr} {fd : FuncData} (F : FunD K "_law_lock_task" "_law_lock_task" (defArgs st__law_lock_task) (defBody st__law_lock_task) (defScope st__law_lock_task) [] [] f fd) (mgf : mg "_law_lock_task" = some (.ref f)) (B : Bt mg)  : Callee P w K mg base ⟨K, cl⟩ 1 "_law_lock_task" 2 false d__law_lock_task := by
  have nd : (["_law_d", "_law_at", "_law_one", "_law_two", "_law_both", "_law_plan", "_law_due", "_law_lock"] : List Str).Nodup := sc__law_lock_task.nd
  have z := fn_ok (P := P) (w := w) (mg := mg) (base := base) (k := ⟨K, cl⟩) (fr := false) (lv := 0) (as := [2, 3, 4, 5, 6]) (s := m__law_lock_task) F sc__law_lock_task fun cdv A outer sh H G0 hr => by
    have hu := hr.units
    have hu5 := hr.units5
    exact (b_cons (s_set 2 nd (d_ix (o_ixA rfl hu5) (d_lst (d_ac d_str (d_ac d_str (d_ac d_str (d_ac d_str d_an))))) (d_op (o_mod) (d_btyp (c_int) B.int (d_ab (d_ix (o_ixA rfl hu5) (d_w 0) (d_w 1)) d_an)) d_int)))
    (b_cons (s_set 3 nd (d_ix (o_ixA rfl hu5) (d_lst (d_ac d_str (d_ac d_str (d_ac d_str (d_ac d_str d_an))))) (d_op (o_mod) (d_op (o_fdiv) (d_btyp (c_int) B.int (d_ab (d_ix (o_ixA rfl hu5) (d_w 0) (d_w 1)) d_an)) d_int) d_int)))
    (b_cons (s_set 4 nd (d_join rfl d_str (d_bltn (c_srtA rfl hu) B.sorted (d_ab (d_lc [("_law_lock", 7)] rfl nd (i_seq rfl d_str) (blkOk_by (N := ["_law_d", "_law_at", "_law_one", "_law_two", "_law_both", "_law_plan", "_law_due", "_law_lock"]) (sc := (defScope st__law_lock_task)) (by decide +kernel)) (fun _ _ _ _ _ => (g_n 7 nd)) (fun _ _ _ _ _ => (ts_1 (d_tc (o_inA rfl hu5) (d_w 7) (d_op (o_add rfl) (d_w 2) (d_w 3))))) (fun _ _ _ _ _ => (d_v 7))) d_an))))
    (b_cons (s_set 5 nd (d_ix (o_ixA rfl hu5) (d_lst (d_ac (d_z (d_lst (d_ac (d_v 2) (d_ac (d_v 4) (d_ac (d_v 3) d_an))))) (d_ac (d_z (d_lst (d_ac (d_v 2) (d_ac (d_v 4) d_an)))) (d_ac (d_z (d_lst (d_ac (d_v 4) (d_ac (d_v 4) d_an)))) (d_ac (d_z (d_lst (d_ac (d_v 4) d_an))) (d_ac (d_z (d_lst (d_ac (d_v 2) (d_ac (d_v 2) (d_ac (d_v 4) d_an))))) (d_ac (d_z (d_lst (d_ac (d_v 3) (d_ac (d_v 4) (d_ac (d_v 2) d_an))))) d_an))))))) (d_op (o_mod) (d_btyp (c_int) B.int (d_ab (d_ix (o_ixA rfl hu5) (d_w 0) (d_op (o_add rfl) (d_w 1) d_int)) d_an)) d_int)))
    (b_cons (s_set 6 nd (d_op (o_add rfl) (d_bltn (c_len rfl) B.len (d_ab (d_w 5) d_an)) (d_op (o_mod) (d_btyp (c_int) B.int (d_ab (d_ix (o_ixA rfl hu5) (d_w 0) (d_op (o_add rfl) (d_w 1) d_int)) d_an)) d_int)))
    (b_one (s_ret (d_tup (d_ac (d_z (d_lst (d_ac (d_tup (d_ac (d_btyp (c_tup rfl) B.tuple (d_ab (d_w 5) d_an)) (d_ac (d_v 6) d_an))) d_an))) (d_ac (d_z (d_lst (d_ac (d_tup (d_ac d_int (d_ac d_int (d_ac (d_bltn (c_min2 rfl) B.min (d_ab d_int (d_ab (d_op (o_add rfl) (d_w 6) (d_op (o_mod) (d_op (o_fdiv) (d_btyp (c_int) B.int (d_ab (d_ix (o_ixA rfl hu5) (d_w 0) (d_op (o_add rfl) (d_w 1) d_int)) d_an)) d_int) d_int)) d_an))) d_an)))) d_an))) (d_ac d_bl d_an)))))))))))
  exact ⟨f, fd, ["_law_d", "_law_at"], rfl, z, mgf, F.kp, F.bindsN fun _ _ _ _ _ _ us hl => match us, hl with | [_, _], _ => rfl⟩
def m__law_is_number : FS :=
    (sRet (eAnd (eC (f2 isiD) (aC (eW 0) (aC (eY "int") aN))) (eAnd (eNot (eC (f2 isiD) (aC (eW 0) (aC (eY "bool") aN)))) (e2 eqD (eW 0) (eW 1)))))
def d__law_is_number : List D → R D := fun ds => (runF false 2 m__law_is_number ds).nox
theorem sc__law_is_number : FnScope ["_law_given", "_law_due"] ["_law_given", "_law_due"] (defScope st__law_is_number) := ⟨rfl, rfl, rfl, by decide +kernel, rfl, by decide +kernel, by decide +kernel⟩
theorem ok__law_is_number {f : Addr} {fd : FuncData} (F : FunD K "_law_is_number" "_law_is_number" (defArgs st__law_is_number) (defBody st__law_is_number) (defScope st__law_is_number) [] [] f fd) (mgf : mg "_law_is_number" = some (.ref f)) (B : Bt mg)  : Callee P w K mg base ⟨K, cl⟩ 1 "_law_is_number" 2 false d__law_is_number := by
  have nd : (["_law_given", "_law_due"] : List Str).Nodup := sc__law_is_number.nd
  have z := fn_ok (P := P) (w := w) (mg := mg) (base := base) (k := ⟨K, cl⟩) (fr := false) (lv := 0) (as := []) (s := m__law_is_number) F sc__law_is_number fun cdv A outer sh H G0 hr => by
    have hu := hr.units
    have hu5 := hr.units5
    exact (b_one (s_ret (d_vand (d_bltn (c_isi rfl) B.isinstance (d_ab (d_w 0) (d_ab (d_ty "int" B.int) d_an))) (d_vand (d_vnot (d_bltn (c_isi rfl) B.isinstance (d_ab (d_w 0) (d_ab (d_ty "bool" B.bool) d_an)))) (d_vone (d_cmp (o_eq rfl hu) (d_w 0) (d_w 1)))))))
  exact ⟨f, fd, ["_law_given", "_law_due"], rfl, z, mgf, F.kp, F.bindsN fun _ _ _ _ _ _ us hl => match us, hl with | [_, _], _ => rfl⟩
def m_law : FS :=
    (sSeq (sSet 1 (eC d__law_draws (aC (eV 0) (aC (eI (0)) (aC (eI (16)) aN)))))
    (sSeq (sSet 2 (e2 ixA (eL (aC (eI (1)) (aC (eI (2)) (aC (eI (2)) (aC (eI (3)) (aC (eI (3)) (aC (eI (3)) aN))))))) (e2 modD (eC (f1 intD) (aC (e2 ixA (eW 1) (eI (0))) aN)) (eI (6)))))
    (sSeq (sSet 4 (lcE (fun S => (aC (eW 2) aN) S >>= rng1) (gN 3) tY (eC d__law_lock_task (aC (eV 1) (aC (e2 addD (eI (1)) (e2 mulD (eI (3)) (eW 3))) aN))) [3]))
    (sSeq (sSet 6 (lcE (fun S => (aC (eL (aC (eS "lend") (aC (eS "ceil") aN))) aN) S >>= enumerateF) (gT 2 (gsC (gN 5) (gsC (gN 16) gsN))) (tB' (e2 eqD (e2 modD (eC (f1 intD) (aC (e2 fdivD (e2 ixA (eW 1) (eI (10))) (e2 addD (eI (1)) (eW 5))) aN)) (eI (2))) (eI (1)))) (eV 16) [5, 16]))
    (sSeq (sSet 7 (eDisp [("size" : Str), ("steps" : Str), ("starts" : Str), ("tasks" : Str), ("rules" : Str), ("order" : Str), ("door" : Str), ("guard" : Str)] (aC (eI (1)) (aC (eL (aC (eT (aC (eI (0)) (aC (eI (1)) (aC (eI (0)) aN)))) aN)) (aC (eT (aC (eI (0)) aN)) (aC (eV 4) (aC (eV 6) (aC (e2 ixA (eL (aC (eS "first") (aC (eS "last") (aC (eS "dues") aN)))) (e2 modD (eC (f1 intD) (aC (e2 ixA (eW 1) (eI (11))) aN)) (eI (3)))) (aC (e2 ixA (eL (aC (eS "shut") (aC (eS "open") aN))) (e2 modD (eC (f1 intD) (aC (e2 ixA (eW 1) (eI (12))) aN)) (eI (2)))) (aC (e2 ixA (eL (aC (eS "cut") (aC (eS "after") (aC (eS "trust") aN)))) (e2 modD (eC (f1 intD) (aC (e2 ixA (eW 1) (eI (13))) aN)) (eI (3)))) aN))))))))))
    (sSeq (sSet 8 (eC d__law_core (aC (eV 7) aN)))
    (sSeq (sSet 9 (eC d__law_choice (aC (eV 7) aN)))
    (sSeq (sSet 10 (eC (f1 lstD) (aC (e1 (fldD 6 1) (eW 8)) aN)))
    (sSeq (sSet 11 (eC d__law_start (aC (eV 7) aN)))
    (sSeq (sSet 12 (eC d__law_draws (aC (eV 0) (aC (eI (1)) (aC (eI (14)) aN)))))
    (sSeq (sFor (fun S => (aC (eI (8)) aN) S >>= rng1) (gN 5) (sSeq (sSet 13 (eC (f1 lstD) (aC (e2 ixA (eW 11) (eI (1))) aN)))
    (sSeq (sFor (fun S => (aC (eW 2) aN) S >>= rng1) (gN 3) (sIf (tNo (tT' (eC d__law_is_number (aC (eM 5 d_Choice_blocker (eV 9) (aC (eV 10) (aC (eV 13) (aC (eV 3) aN)))) (aC (eC d__law_blocker (aC (eV 7) (aC (e2 ixA (eW 11) (eI (1))) (aC (eV 3) aN)))) aN))))) (sRet (eB false)) sNil))
    (sSeq (sIf (tNo (tT' (eC d__law_is_number (aC (eM 5 d_Choice___call__ (eV 9) (aC (eV 10) (aC (eV 13) (aC (e2 ixA (eW 7) (eS "guard")) aN)))) (aC (eC d__law_chosen (aC (eV 7) (aC (e2 ixA (eW 11) (eI (1))) aN))) aN))))) (sRet (eB false)) sNil)
    (sSeq (sIf (tB' (e2 neD (eW 13) (eC (f1 lstD) (aC (e2 ixA (eW 11) (eI (1))) aN)))) (sRet (eB false)) sNil)
    (sIf (tB' (e2 ltD (eW 5) (eI (7)))) (sSeq (sSet 14 (eC d__law_any_row (aC (eV 7) (aC (eV 11) (aC (e2 ixA (eW 12) (e2 mulD (eI (2)) (eW 5))) (aC (e2 ixA (eW 12) (e2 addD (e2 mulD (eI (2)) (eW 5)) (eI (1)))) aN))))))
    (sSeq (sSet 15 (eC d__law_arrived (aC (eV 7) (aC (e2 ixA (eW 11) (eI (1))) (aC (e2 ixA (eW 14) (eI (1))) aN)))))
    (sSeq (sIf (tNo (tT' (eC d__law_is_number (aC (eM 6 d_Core_chosen (eV 8) (aC (eV 11) (aC (e2 ixA (eW 14) (eI (1))) aN))) (aC (eC d__law_chosen (aC (eV 7) (aC (eV 15) aN))) aN))))) (sRet (eB false)) sNil)
    (sSet 11 (eC d__law_after (aC (eV 7) (aC (eV 11) (aC (eV 14) aN)))))))) sNil))))))
    (sRet (eB true)))))))))))))
def d_law : List D → R D := fun ds => (runF false 17 m_law ds).nox
theorem sc_law : FnScope ["_law_script", "_law_d", "_law_count", "_law_i", "_law_tasks", "_law_k", "_law_rules", "_law_spec", "_law_core_here", "_law_choice_here", "_law_made", "_law_standing", "_law_draws_here", "_law_statuses", "_law_row", "_law_arrived_here", "_law_rule"] ["_law_script"] (defScope st_law) := ⟨rfl, rfl, rfl, by decide +kernel, rfl, by decide +kernel, by decide +kernel⟩
theorem ok_law {f : Addr} {fd : FuncData} (F : FunD K "law" "law" (defArgs st_law) (defBody st_law) (defScope st_law) [] [] f fd) (mgf : mg "law" = some (.ref f)) (B : Bt mg) (h__law_draws : Callee P w K mg base ⟨K, cl⟩ 2 "_law_draws" 3 true d__law_draws) (h__law_lock_task : Callee P w K mg base ⟨K, cl⟩ 1 "_law_lock_task" 2 false d__law_lock_task) (h__law_core : Callee P w K mg base ⟨K, cl⟩ 5 "_law_core" 1 false d__law_core) (h__law_choice : Callee P w K mg base ⟨K, cl⟩ 3 "_law_choice" 1 false d__law_choice) (C_Core : ClsI K ⟨K, cl⟩ 6 (["supply", "tasks", "choice", "door", "guard", "weight", "parties"] : List Str)) (h__law_start : Callee P w K mg base ⟨K, cl⟩ 1 "_law_start" 1 false d__law_start) (h__law_is_number : Callee P w K mg base ⟨K, cl⟩ 1 "_law_is_number" 2 false d__law_is_number) (h_Choice_blocker : Method P w K mg base ⟨K, cl⟩ 4 5 "blocker" 4 false d_Choice_blocker) (h__law_blocker : Callee P w K mg base ⟨K, cl⟩ 5 "_law_blocker" 3 false d__law_blocker) (hc_Choice : CallO P w K mg base ⟨K, cl⟩ 5 5 4 d_Choice___call__) (h__law_chosen : Callee P w K mg base ⟨K, cl⟩ 6 "_law_chosen" 2 false d__law_chosen) (h__law_any_row : Callee P w K mg base ⟨K, cl⟩ 7 "_law_any_row" 4 false d__law_any_row) (h__law_arrived : Callee P w K mg base ⟨K, cl⟩ 2 "_law_arrived" 3 false d__law_arrived) (h_Core_chosen : Method P w K mg base ⟨K, cl⟩ 6 6 "chosen" 3 false d_Core_chosen) (h__law_after : Callee P w K mg base ⟨K, cl⟩ 3 "_law_after" 3 false d__law_after) : FnOk P w K mg base CX0 8 f fd ["_law_script"] (SpF ⟨K, cl⟩ false 1 d_law) := by
  have nd : (["_law_script", "_law_d", "_law_count", "_law_i", "_law_tasks", "_law_k", "_law_rules", "_law_spec", "_law_core_here", "_law_choice_here", "_law_made", "_law_standing", "_law_draws_here", "_law_statuses", "_law_row", "_law_arrived_here", "_law_rule"] : List Str).Nodup := sc_law.nd
  have z := fn_ok (P := P) (w := w) (mg := mg) (base := base) (k := ⟨K, cl⟩) (fr := false) (lv := 7) (as := [1, 2, 4, 6, 7, 8, 9, 10, 11, 12, 5, 13, 3, 14, 15, 11]) (s := m_law) F sc_law fun cdv A outer sh H G0 hr => by
    have hu := hr.units
    have hu5 := hr.units5
    exact (b_cons (s_set 1 nd (d_z (d_callF (h__law_draws.at hr (by decide)) (d_ac (d_v 0) (d_ac d_int (d_ac d_int d_an))) (len_c (len_c (len_c len_n))))))
    (b_cons (s_set 2 nd (d_ix (o_ixA rfl hu5) (d_lst (d_ac d_int (d_ac d_int (d_ac d_int (d_ac d_int (d_ac d_int (d_ac d_int d_an))))))) (d_op (o_mod) (d_btyp (c_int) B.int (d_ab (d_ix (o_ixA rfl hu5) (d_w 1) d_int) d_an)) d_int)))
    (b_cons (s_lcZ 4 [("_law_i", 3)] rfl nd (i_rng1 B.range (d_ab (d_w 2) d_an)) (blkOk_by (N := ["_law_script", "_law_d", "_law_count", "_law_i", "_law_tasks", "_law_k", "_law_rules", "_law_spec", "_law_core_here", "_law_choice_here", "_law_made", "_law_standing", "_law_draws_here", "_law_statuses", "_law_row", "_law_arrived_here", "_law_rule"]) (sc := (defScope st_law)) (by decide +kernel)) (fun _ _ _ _ _ => (g_n 3 nd)) (fun _ _ _ _ _ => ts_n) (fun _ _ _ _ _ => (d_callS (h__law_lock_task.at hr (by decide)) (d_ac (d_v 1) (d_ac (d_op (o_add rfl) d_int (d_op (o_mul rfl) d_int (d_w 3))) d_an)) (len_c (len_c len_n)))))
    (b_cons (s_lcZ 6 [("_law_k", 5), ("_law_rule", 16)] rfl nd (i_enumerate rfl B.enumerate (d_ac (d_z (d_lst (d_ac d_str (d_ac d_str d_an)))) d_an)) (blkOk_by (N := ["_law_script", "_law_d", "_law_count", "_law_i", "_law_tasks", "_law_k", "_law_rules", "_law_spec", "_law_core_here", "_law_choice_here", "_law_made", "_law_standing", "_law_draws_here", "_law_statuses", "_law_row", "_law_arrived_here", "_law_rule"]) (sc := (defScope st_law)) (by decide +kernel)) (fun _ _ _ _ _ => (g_t rfl rfl (gs_c (g_n 5 nd) (gs_c (g_n 16 nd) gs_n)))) (fun _ _ _ _ _ => (ts_1 (d_tc (o_eq rfl hu) (d_op (o_mod) (d_btyp (c_int) B.int (d_ab (d_op (o_fdiv) (d_ix (o_ixA rfl hu5) (d_w 1) d_int) (d_op (o_add rfl) d_int (d_w 5))) d_an)) d_int) d_int))) (fun _ _ _ _ _ => (d_v 16)))
    (b_cons (s_set 7 nd (d_z (d_disp (d_pc d_int (d_pc (d_z (d_lst (d_ac (d_tup (d_ac d_int (d_ac d_int (d_ac d_int d_an)))) d_an))) (d_pc (d_tup (d_ac d_int d_an)) (d_pc (d_v 4) (d_pc (d_v 6) (d_pc (d_ix (o_ixA rfl hu5) (d_lst (d_ac d_str (d_ac d_str (d_ac d_str d_an)))) (d_op (o_mod) (d_btyp (c_int) B.int (d_ab (d_ix (o_ixA rfl hu5) (d_w 1) d_int) d_an)) d_int)) (d_pc (d_ix (o_ixA rfl hu5) (d_lst (d_ac d_str (d_ac d_str d_an))) (d_op (o_mod) (d_btyp (c_int) B.int (d_ab (d_ix (o_ixA rfl hu5) (d_w 1) d_int) d_an)) d_int)) (d_pc (d_ix (o_ixA rfl hu5) (d_lst (d_ac d_str (d_ac d_str (d_ac d_str d_an)))) (d_op (o_mod) (d_btyp (c_int) B.int (d_ab (d_ix (o_ixA rfl hu5) (d_w 1) d_int) d_an)) d_int)) d_pn)))))))))))
    (b_cons (s_set 8 nd (d_callS (h__law_core.at hr (by decide)) (d_ac (d_v 7) d_an) (len_c len_n)))
    (b_cons (s_set 9 nd (d_callS (h__law_choice.at hr (by decide)) (d_ac (d_v 7) d_an) (len_c len_n)))
    (b_cons (s_set 10 nd (d_z (d_btyp (c_lst rfl) B.list (d_ab (d_fld 6 1 C_Core rfl (d_w 8)) d_an))))
    (b_cons (s_set 11 nd (d_callS (h__law_start.at hr (by decide)) (d_ac (d_v 7) d_an) (len_c len_n)))
    (b_cons (s_set 12 nd (d_z (d_callF (h__law_draws.at hr (by decide)) (d_ac (d_v 0) (d_ac d_int (d_ac d_int d_an))) (len_c (len_c (len_c len_n))))))
    (b_cons (s_for PassesOwn.never rfl (i_rng1 B.range (d_ab d_int d_an)) (g_n 5 nd) (b_cons (s_set 13 nd (d_z (d_btyp (c_lst rfl) B.list (d_ab (d_ix (o_ixA rfl hu5) (d_w 11) d_int) d_an))))
    (b_cons (s_for PassesOwn.never rfl (i_rng1 B.range (d_ab (d_w 2) d_an)) (g_n 3 nd) (b_one (s_if (d_not (d_tt rfl (d_callS (h__law_is_number.at hr (by decide)) (d_ac (d_methS 5 h_Choice_blocker hr (by decide) (d_v 9) (d_ac (d_v 10) (d_ac (d_v 13) (d_ac (d_v 3) d_an))) (len_c (len_c (len_c len_n)))) (d_ac (d_callS (h__law_blocker.at hr (by decide)) (d_ac (d_v 7) (d_ac (d_ix (o_ixA rfl hu5) (d_w 11) d_int) (d_ac (d_v 3) d_an))) (len_c (len_c (len_c len_n)))) d_an)) (len_c (len_c len_n))))) (b_one (s_ret d_bl)) b_nil)))
    (b_cons (s_if (d_not (d_tt rfl (d_callS (h__law_is_number.at hr (by decide)) (d_ac (d_callO 5 hc_Choice hr (by decide) (d_v 9) (d_ac (d_v 10) (d_ac (d_v 13) (d_ac (d_ix (o_ixA rfl hu5) (d_w 7) d_str) d_an))) (len_c (len_c (len_c len_n)))) (d_ac (d_callS (h__law_chosen.at hr (by decide)) (d_ac (d_v 7) (d_ac (d_ix (o_ixA rfl hu5) (d_w 11) d_int) d_an)) (len_c (len_c len_n))) d_an)) (len_c (len_c len_n))))) (b_one (s_ret d_bl)) b_nil)
    (b_cons (s_if (d_tc (o_ne rfl hu) (d_w 13) (d_btyp (c_lst rfl) B.list (d_ab (d_ix (o_ixA rfl hu5) (d_w 11) d_int) d_an))) (b_one (s_ret d_bl)) b_nil)
    (b_one (s_if (d_tc (o_lt) (d_w 5) d_int) (b_cons (s_set 14 nd (d_callS (h__law_any_row.at hr (by decide)) (d_ac (d_v 7) (d_ac (d_v 11) (d_ac (d_ix (o_ixA rfl hu5) (d_w 12) (d_op (o_mul rfl) d_int (d_w 5))) (d_ac (d_ix (o_ixA rfl hu5) (d_w 12) (d_op (o_add rfl) (d_op (o_mul rfl) d_int (d_w 5)) d_int)) d_an)))) (len_c (len_c (len_c (len_c len_n))))))
    (b_cons (s_set 15 nd (d_callS (h__law_arrived.at hr (by decide)) (d_ac (d_v 7) (d_ac (d_ix (o_ixA rfl hu5) (d_w 11) d_int) (d_ac (d_ix (o_ixA rfl hu5) (d_w 14) d_int) d_an))) (len_c (len_c (len_c len_n)))))
    (b_cons (s_if (d_not (d_tt rfl (d_callS (h__law_is_number.at hr (by decide)) (d_ac (d_methS 6 h_Core_chosen hr (by decide) (d_v 8) (d_ac (d_v 11) (d_ac (d_ix (o_ixA rfl hu5) (d_w 14) d_int) d_an)) (len_c (len_c len_n))) (d_ac (d_callS (h__law_chosen.at hr (by decide)) (d_ac (d_v 7) (d_ac (d_v 15) d_an)) (len_c (len_c len_n))) d_an)) (len_c (len_c len_n))))) (b_one (s_ret d_bl)) b_nil)
    (b_one (s_set 11 nd (d_callS (h__law_after.at hr (by decide)) (d_ac (d_v 7) (d_ac (d_v 11) (d_ac (d_v 14) d_an))) (len_c (len_c (len_c len_n))))))))) b_nil)))))))
    (b_one (s_ret d_bl)))))))))))))
  exact z
end
end Pf
set_option Elab.async false
set_option linter.all false
set_option maxRecDepth 100000
namespace Pf
open M PySem L2
def drawn (n : Nat) (d : D) : Prop := ∃ l : List Int, d = .lst (l.map .int) ∧ l.length = n ∧ ∀ x ∈ l, 0 ≤ x ∧ x < 720720
def EN : List Str := ["", "a", "b", "c", "ab", "ac", "bc", "abc"]
def planD (p : List Str) : D := .tup (p.map .str)
structure Nd (p : List Str) (due : Int) : Prop where
  ne : 1 ≤ p.length
  le : p.length ≤ 4
  lo : (p.length : Int) ≤ due
  hi : due ≤ 8
  en : ∀ e ∈ p, e ∈ EN
def nodeD (p : List Str) (due : Int) : D := .tup [planD p, .int due]
def edgeD (u v g : Int) : D := .tup [.int u, .int v, .int g]
theorem mod_b (x : Int) {m : Int} (h : 0 < m) : 0 ≤ x % m ∧ x % m < m := ⟨Int.emod_nonneg _ (by omega), Int.emod_lt_of_pos _ h⟩
theorem k_min2 {a b : Int} {Q : D → Prop} : Ok (min2D (.int a) (.int b)) Q ↔ Q (.int (if b < a then b else a)) := ok_ok
theorem drawn.snoc {l : List Int} {n : Nat} {x : Int} (hm : l.length = n ∧ ∀ x ∈ l, 0 ≤ x ∧ x < 720720) (hx : 0 ≤ x ∧ x < 720720) : (l ++ [x]).length = n + 1 ∧ ∀ z ∈ l ++ [x], 0 ≤ z ∧ z < 720720 := by
  refine ⟨by simp [hm.1], fun z hz => ?_⟩
  rcases List.mem_append.mp hz with h | h
  · exact hm.2 z h
  · rw [List.mem_singleton] at h; subst h; exact hx
end Pf
set_option Elab.async false
set_option linter.all false
set_option maxRecDepth 100000
namespace Pf
open M PySem L2
mutual
theorem deq_self : ∀ (n : Nat) (d : D), dok n d = true → deq d d = true
  | _, .non, _ => by simp [deq]
  | _, .bl b, _ => by simp [deq]
  | _, .int b, _ => by simp [deq]
  | _, .str b, _ => by simp [deq]
  | n + 1, .tup xs, h => by simp only [dok] at h; simp only [deq]; exact deqs_self n xs h
  | n + 1, .lst xs, h => by simp only [dok] at h; simp only [deq]; exact deqs_self n xs h
  | 0, .tup xs, h => by simp [dok] at h
  | 0, .lst xs, h => by simp [dok] at h
  | n, .ty _, h => by cases n <;> simp [dok] at h
  | n, .dic _ _, h => by cases n <;> simp [dok] at h
  | n, .dit _ _, h => by cases n <;> simp [dok] at h
  | n, .obj _ _, h => by cases n <;> simp [dok] at h
  | n, .scr _, h => by cases n <;> simp [dok] at h
  | n, .cls _, h => by cases n <;> simp [dok] at h
theorem deqs_self : ∀ (n : Nat) (ds : List D), doks n ds = true → deqs ds ds = true
  | _, [], _ => by simp [deqs]
  | n, d :: ds, h => by
    simp only [doks, Bool.and_eq_true] at h
    simp only [deqs, Bool.and_eq_true]
    exact ⟨deq_self n d h.1, deqs_self n ds h.2⟩
end
theorem k_neS {d : D} (h : dok 60 d = true) {Q : D → Prop} : Ok (neD d d) Q ↔ Q (.bl false) := by
  have e : neD d d = .ok (.bl false) := by unfold neD; rw [h, deq_self 60 d h]; rfl
  rw [e, ok_ok]
theorem doks_map {α : Type} (f : α → D) (n : Nat) : ∀ (xs : List α), (∀ x ∈ xs, dok n (f x) = true) → doks n (xs.map f) = true
  | [], _ => by simp [doks]
  | x :: xs, h => by
    simp only [List.map_cons, doks, Bool.and_eq_true]
    exact ⟨h x (by simp), doks_map f n xs fun y hy => h y (by simp [hy])⟩
def sg (c : Nat) : Str := ⟨#[c]⟩
def tx (cs : List Nat) : Str := ⟨cs.toArray⟩
theorem joinL_sg : ∀ cs : List Nat, TL.joinL [] (cs.map fun c => [c]) = cs
  | [] => rfl
  | [c] => rfl
  | c :: d :: r => by
    simp only [List.map_cons, TL.joinL, List.nil_append]
    have := joinL_sg (d :: r)
    simp only [List.map_cons] at this
    rw [this]; rfl
theorem join_sg (cs : List Nat) : Txt.join "" (cs.map sg) = tx cs := by
  have h := TL.tl_join "" (cs.map sg)
  rw [List.map_map] at h
  have h2 := joinL_sg cs
  have h3 : TL.tl (Str.join "" (cs.map sg)) = cs := by
    rw [h]; exact h2
  rw [TL.join_eq]
  generalize Str.join "" (cs.map sg) = x at h3
  obtain ⟨⟨l⟩⟩ := x
  show (⟨⟨l⟩⟩ : Str) = ⟨cs.toArray⟩
  have : l = cs := h3
  rw [this]
theorem asS_sg (cs : List Nat) : asS (cs.map fun c => D.str (sg c)) = some (cs.map sg) := by
  have := asS_map (cs.map sg)
  rwa [List.map_map] at this
theorem sum_sg (cs : List Nat) : ((cs.map sg).map (·.length)).sum = cs.length := by
  induction cs with
  | nil => rfl
  | cons c cs ih =>
    simp only [List.map_cons, List.sum_cons, ih, List.length_cons]
    show 1 + cs.length = cs.length + 1
    omega
theorem k_eM1 {o : D → D → R D} {f g : FE} {S : M.Env} {Q : D → Prop} : Ok (eM1 o f g S) Q ↔ Ok (f S) fun x => isS x = true ∧ Ok (g S) fun y => Ok (o x y) Q := by
  unfold eM1; simp only [ok_bind, ok_if, ok_nox]
theorem k_join (cs : List Nat) (h : cs.length ≤ 1000) {Q : D → Prop} : Ok (joinD (.str "") (.lst (cs.map fun c => .str (sg c)))) Q ↔ Q (.str (tx cs)) := by
  have e : joinD (.str "") (.lst (cs.map fun c => .str (sg c))) = .ok (.str (tx cs)) := by
    unfold joinD
    simp only [asS_sg]
    rw [if_pos (by rw [sum_sg, List.length_map]; show cs.length + cs.length * 0 ≤ _; omega), join_sg]
  rw [e, ok_ok]
theorem k_inS {c : Nat} {z : Str} {Q : D → Prop} : Ok (inD (.str (sg c)) (.str z)) Q ↔ Q (.bl (decide (c ∈ z.cps.toList))) := ok_ok
theorem k_notInS {c : Nat} {z : Str} {Q : D → Prop} : Ok (notInD (.str (sg c)) (.str z)) Q ↔ Q (.bl (!decide (c ∈ z.cps.toList))) := ok_ok
theorem k_itS {x : Str} {Q : List D → Prop} : Ok (itemsD (.str x)) Q ↔ Q (x.cps.toList.map fun c => .str (sg c)) := ok_ok
theorem lc_any {ga : FG} {fe : FE} {S : M.Env} {P : D → Prop} : ∀ {ds : List D}, (∀ d ∈ ds, Ok (ga d S) fun S1 => Ok (fe S1) P) → Ok (lcF ga tY fe S ds) fun ys => ys.length = ds.length ∧ ∀ y ∈ ys, P y
  | [], _ => ok_ok.mpr ⟨rfl, by simp⟩
  | d :: ds, h => by
    obtain ⟨S1, e1, y, e2, py⟩ := h d (by simp)
    obtain ⟨ys, e3, l3, p3⟩ := lc_any (P := P) (ds := ds) fun x hx => h x (by simp [hx])
    refine ⟨y :: ys, ?_, by simp [l3], fun x hx => ?_⟩
    · show ((ga d S).nox >>= fun S1 => (tY S1).nox >>= fun b => if b then ((fe S1).nox >>= fun y => lcF ga tY fe S ds >>= fun ys => R.ok (y :: ys)) else lcF ga tY fe S ds) = _
      rw [e1, R.nox_ok, R.ok_bind]
      show (R.ok true).nox >>= _ = _
      rw [R.nox_ok, R.ok_bind, if_pos rfl, e2, R.nox_ok, R.ok_bind, e3, R.ok_bind]
    · rcases List.mem_cons.mp hx with rfl | hx
      · exact py
      · exact p3 x hx
theorem k_lcA {fi : FI} {ga : FG} {fe : FE} {vs : List Nat} {S : M.Env} {Q : D → Prop} {P : D → Prop} (n : Nat) (hn : n ≤ sizeLine) (hi : Ok (fi S) fun ds => ds.length = n ∧ ∀ d ∈ ds, Ok (ga d (wipeS S vs)) fun S1 => Ok (fe S1) P) (q : ∀ ys, ys.length = n → (∀ y ∈ ys, P y) → Q (.lst ys)) : Ok (lcE fi ga tY fe vs S) Q := by
  rw [k_lc]
  obtain ⟨ds, e, hl, h⟩ := hi
  refine ⟨ds, e, by omega, ?_⟩
  exact (lc_any h).mono fun ys ⟨l, p⟩ => q ys (by omega) p
theorem k_ext {i : Nat} {f : FE} {S : M.Env} {QS : Fl × M.Env → Prop} : Ok (sExt i f S) QS ↔ Ok (ownL i S) fun ds => Ok (f S) fun d => ∃ es, d = .lst es ∧ ds.length + es.length ≤ sizeLine ∧ QS (.nx, S.set i (some ⟨true, .lst (ds ++ es)⟩)) := by
  unfold sExt
  rw [ok_bind]
  apply iff_of_eq
  congr 1
  funext ds
  rw [ok_bind]
  congr 1
  funext d
  refine propext ?_
  cases d with
  | lst es =>
    simp only [ok_if, ok_ok]
    exact ⟨fun h => ⟨es, rfl, h.1, h.2⟩, fun ⟨es', e, h⟩ => by cases e; exact h⟩
  | _ => simp only [ok_fail]; exact ⟨False.elim, fun ⟨_, e, _⟩ => nomatch e⟩
theorem pass_if {t : FT} {s r : FS} {S : M.Env} {QS : Fl × M.Env → Prop} (h : Ok (t S) fun b => b = false) (k : Ok (r S) QS) : Ok (sSeq (sIf t s sNil) r S) QS := by
  refine seq_cut (fun S' => S' = S) ?_ (fun S' e => by rw [e]; exact k)
  rw [k_if]
  refine h.mono fun b hb => ?_
  subst hb
  (try simp only [↓k_guard, k_no, k_I, k_S, k_B, k_N, k_G, k_Y, k_V, k_W, k_O, g0_z, g0_s, gA_z, gA_s, g1_z, g1_s, k_1, k_2, k_n, k_c, k_T, k_L, k_C, k_f1, k_f2, k_App, k_M, k_P, k_3, k_tB, k_tT, k_toB, k_tNo, k_tA, k_tO, k_tY, k_And, k_Or, k_Not, k_eIf, k_nil, k_seq, k_set, k_own, k_drop, k_ret, k_retN, k_retO, k_if, k_fz, fz_z, fz_s, k_gN, k_gsN, k_gsC, k_gT, k_asg, k_for, k_fnil, k_fcons, k_app, oL_z, oL_s, k_par, k_run, k_runN, k_fld, oO_z, k_add, k_addL, k_sub, k_mul, k_div, k_mod, k_pow, k_neg, k_lt, k_le, k_gt, k_ge, k_eqI, k_neI, k_int, k_intB, k_abs, k_lenL, k_lenT, k_lenC, k_tru, k_tupL, k_tupT, k_items_l, k_items_t, k_rng1, k_ixL, k_ixT, k_ixC, k_fldD, ok_nox, ok_ok, ok_bind, List.set_cons_zero, List.set_cons_succ, startS, startN, List.map_cons, List.map_nil, List.cons_append, List.nil_append, List.append_nil, List.length_cons, List.length_nil, List.replicate, Nat.reduceSub, Nat.reduceAdd, Nat.reduceLeDiff, Nat.zero_add, true_and, and_true, false_implies, true_implies, implies_true, forall_const, reduceCtorEq, Bool.not_true, Bool.not_false, Bool.not_eq_true'])
theorem k_while {t : FT} {s : FS} {n : Nat} {S : M.Env} {QS : Fl × M.Env → Prop} : Ok (whileF t s (n + 1) S) QS ↔ Ok (t S) fun b => (b = true → Ok (s S) fun z => match z.1 with
    | .nx => Ok (whileF t s n z.2) QS
    | .ct => Ok (whileF t s n z.2) QS
    | .bk => QS (.nx, z.2)
    | .rt d => QS (.rt d, z.2)) ∧ (b = false → QS (.nx, S)) := by
  show Ok (t S >>= _) QS ↔ _
  rw [ok_bind]
  apply iff_of_eq
  congr 1
  funext b
  refine propext ?_
  rw [ok_b, ok_ok, ok_bind]
  apply iff_of_eq
  congr 3
  funext z
  obtain ⟨fl, S'⟩ := z
  cases fl <;> simp [ok_ok]
theorem k_aug {i : Nat} {o : D → D → R D} {f : FE} {S : M.Env} {QS : Fl × M.Env → Prop} : Ok (sAugI i o f S) QS ↔ Ok (eV i S) fun x => Ok (f S) fun y => bothI x y = true ∧ Ok (o x y) fun d => QS (.nx, S.set i (some ⟨false, d⟩)) := by
  unfold sAugI; simp only [ok_bind, ok_nox, ok_if, ok_ok]
theorem bothI_i {a b : Int} : bothI (.int a) (.int b) = true := rfl
end Pf
set_option Elab.async false
set_option linter.all false
set_option maxRecDepth 100000
namespace Pf
open M PySem L2 PySem.W PyProof.Rows
theorem srt_map {α : Type} (f : α → D) (xs : List α) : srt (xs.map f) = (xs.mergeSort fun a b => dle (f a) (f b)).map f := by
  unfold srt
  rw [List.map_mergeSort (r := fun a b => dle (f a) (f b)) (s := dle) fun _ _ _ _ => rfl]
theorem k_runT {n : Nat} {s : FS} {ds : List D} {Q : D → Prop} (h : Ok (s (startS n ds)) fun z => ∃ d, z.1 = .rt d ∧ Q d) : Ok (runF true n s ds) Q := by
  unfold runF
  obtain ⟨⟨fl, S'⟩, e, d, he, q⟩ := h
  have he : fl = .rt d := he
  subst he
  rw [e]
  exact ⟨d, rfl, q⟩
theorem k_isL {xs : List D} {Q : D → Prop} : Ok (isiD (.lst xs) (.ty "list")) Q ↔ Q (.bl true) := by
  have e : isiD (.lst xs) (.ty "list") = .ok (.bl true) := by first | rfl | decide
  rw [e, ok_ok]
theorem k_isT {xs : List D} {Q : D → Prop} : Ok (isiD (.tup xs) (.ty "tuple")) Q ↔ Q (.bl true) := by
  have e : isiD (.tup xs) (.ty "tuple") = .ok (.bl true) := by first | rfl | decide
  rw [e, ok_ok]
theorem k_isS {x : Str} {Q : D → Prop} : Ok (isiD (.str x) (.ty "str")) Q ↔ Q (.bl true) := by
  have e : isiD (.str x) (.ty "str") = .ok (.bl true) := by first | rfl | decide
  rw [e, ok_ok]
end Pf
set_option Elab.async false
set_option linter.all false
set_option maxRecDepth 100000
namespace Pf
open M PySem L2 PySem.W PyProof.Rows
theorem ixA_l {xs : List D} {y : D} : ixA (.lst xs) y = ixD (.lst xs) y := rfl
theorem ixA_t {xs : List D} {y : D} : ixA (.tup xs) y = ixD (.tup xs) y := rfl
theorem ixA_c {xs : List Int} {y : D} : ixA (.scr xs) y = ixD (.scr xs) y := rfl
theorem inA_l {xs : List D} {y : D} : inA y (.lst xs) = inD y (.lst xs) := rfl
theorem inA_t {xs : List D} {y : D} : inA y (.tup xs) = inD y (.tup xs) := rfl
theorem inA_s {x : Str} {y : D} : inA y (.str x) = inD y (.str x) := rfl
theorem notInA_l {xs : List D} {y : D} : notInA y (.lst xs) = notInD y (.lst xs) := rfl
theorem notInA_t {xs : List D} {y : D} : notInA y (.tup xs) = notInD y (.tup xs) := rfl
theorem notInA_s {x : Str} {y : D} : notInA y (.str x) = notInD y (.str x) := rfl
theorem any_int (x : Int) : ∀ l : List Int, ((l.map D.int).any fun z => deq z (.int x)) = decide (x ∈ l)
  | [] => by simp
  | y :: l => by
    rw [List.map_cons, List.any_cons, any_int x l]
    have e : deq (.int y) (.int x) = decide (x = y) := by
      simp only [deq]
      by_cases h : x = y
      · subst h; simp
      · rw [decide_eq_false h]; exact beq_eq_false_iff_ne.mpr fun z => h z.symm
    rw [e]
    by_cases h : x = y <;> simp [h]
theorem flat_ints : ∀ l : List Int, (l.map D.int).all flatD = true
  | [] => rfl
  | y :: l => by rw [List.map_cons, List.all_cons, flat_ints l]; rfl
theorem k_inI {x : Int} {l : List Int} {Q : D → Prop} : Ok (inD (.int x) (.lst (l.map .int))) Q ↔ Q (.bl (decide (x ∈ l))) := by
  have e : inD (.int x) (.lst (l.map .int)) = .ok (.bl (decide (x ∈ l))) := by
    simp only [inD, inD', flat_ints, any_int, flatD, Bool.and_self, if_true]
  rw [e, ok_ok]
theorem k_inIT {x : Int} {l : List Int} {Q : D → Prop} : Ok (inD (.int x) (.tup (l.map .int))) Q ↔ Q (.bl (decide (x ∈ l))) := by
  have e : inD (.int x) (.tup (l.map .int)) = .ok (.bl (decide (x ∈ l))) := by
    simp only [inD, inD', flat_ints, any_int, flatD, Bool.and_self, if_true]
  rw [e, ok_ok]
theorem k_ninI {x : Int} {l : List Int} {Q : D → Prop} : Ok (notInD (.int x) (.lst (l.map .int))) Q ↔ Q (.bl (!decide (x ∈ l))) := by
  have e : notInD (.int x) (.lst (l.map .int)) = .ok (.bl (!decide (x ∈ l))) := by
    simp only [notInD, inD', flat_ints, any_int, flatD, Bool.and_self, if_true]
  rw [e, ok_ok]
theorem k_ninIT {x : Int} {l : List Int} {Q : D → Prop} : Ok (notInD (.int x) (.tup (l.map .int))) Q ↔ Q (.bl (!decide (x ∈ l))) := by
  have e : notInD (.int x) (.tup (l.map .int)) = .ok (.bl (!decide (x ∈ l))) := by
    simp only [notInD, inD', flat_ints, any_int, flatD, Bool.and_self, if_true]
  rw [e, ok_ok]
abbrev ile (a b : Int) : Bool := decide (a ≤ b)
theorem dle_int (a b : Int) : dle (.int a) (.int b) = decide (a ≤ b) := by
  unfold dle dlt
  simp only [D.toP, PySem.W.dataLt, PySem.W.keyToks]
  by_cases h : b = a
  · subst h
    rw [lex_self]
    simp [PyProof.Rows.lexLt]
  · rw [lex_diff (O := itemOrd) (by simpa using h)]
    have : itemOrd.blt (.inl b) (.inl a) = decide (b < a) := rfl
    rw [this]
    by_cases h2 : b < a
    · rw [decide_eq_true h2, decide_eq_false (by omega)]; rfl
    · rw [decide_eq_false h2, decide_eq_true (by omega)]; rfl
theorem srt_int (l : List Int) : srt (l.map .int) = (l.mergeSort ile).map .int := by
  rw [srt_map]
  congr 2
  funext a b
  exact dle_int a b
theorem doks_int (n : Nat) (l : List Int) : doks n (l.map .int) = true := doks_map _ _ _ fun x _ => by cases n <;> simp [dok]
theorem srtOk_int (l : List Int) : srtOk (l.map .int) = true := by
  unfold srtOk
  rw [doks_int]
  simp [List.all_eq_true, alikeD, srtItem]
theorem k_srtI {l : List Int} {Q : D → Prop} : Ok (srtAD (.lst (l.map .int))) Q ↔ Q (.lst ((l.mergeSort ile).map .int)) := by
  have e : srtAD (.lst (l.map .int)) = .ok (.lst ((l.mergeSort ile).map .int)) := by simp only [srtAD, srtOk_int, if_true, srt_int]
  rw [e, ok_ok]
theorem k_srtIT {l : List Int} {Q : D → Prop} : Ok (srtAD (.tup (l.map .int))) Q ↔ Q (.lst ((l.mergeSort ile).map .int)) := by
  have e : srtAD (.tup (l.map .int)) = .ok (.lst ((l.mergeSort ile).map .int)) := by simp only [srtAD, srtOk_int, if_true, srt_int]
  rw [e, ok_ok]
theorem ms_mem {l : List Int} {x : Int} : x ∈ l.mergeSort ile ↔ x ∈ l := List.mem_mergeSort
theorem ms_strict {l : List Int} (h : l.Nodup) : (l.mergeSort ile).Pairwise (· < ·) := by
  have h1 : (l.mergeSort ile).Pairwise fun a b => ile a b = true := List.pairwise_mergeSort (fun a b c h1 h2 => by simp only [ile, decide_eq_true_eq] at *; omega) (fun a b => by simp only [ile, Bool.or_eq_true, decide_eq_true_eq]; omega) l
  have h2 : (l.mergeSort ile).Nodup := (List.mergeSort_perm l ile).nodup_iff.mpr h
  exact (h1.and h2).imp fun ⟨a, b⟩ => by simp only [ile, decide_eq_true_eq] at a; omega
abbrev T3 := Int × Int × Int
def tD (e : T3) : D := .tup [.int e.1, .int e.2.1, .int e.2.2]
def tlt (a b : T3) : Prop := a.1 < b.1 ∨ a.1 = b.1 ∧ (a.2.1 < b.2.1 ∨ a.2.1 = b.2.1 ∧ a.2.2 < b.2.2)
instance (a b : T3) : Decidable (tlt a b) := by unfold tlt; infer_instance
def tle (a b : T3) : Bool := !decide (tlt b a)
theorem dle_t (a b : T3) : dle (tD a) (tD b) = tle a b := by
  unfold dle dlt tle
  congr 1
  simp only [tD, D.toP, D.toPs, PySem.W.dataLt, PySem.W.keyToks, PySem.W.keyToksAll, List.cons_append, List.nil_append]
  have I : ∀ (x y : Int), itemOrd.blt (.inl x) (.inl y) = decide (x < y) := fun _ _ => rfl
  obtain ⟨a1, a2, a3⟩ := a
  obtain ⟨b1, b2, b3⟩ := b
  rw [lex_self]
  unfold tlt
  by_cases h1 : b1 = a1
  · subst h1
    rw [lex_self, lex_self]
    by_cases h2 : b2 = a2
    · subst h2
      rw [lex_self, lex_self]
      by_cases h3 : b3 = a3
      · subst h3; rw [lex_self, lex_self, PyProof.Rows.lexLt]; symm; exact decide_eq_false (by dsimp only; omega)
      · rw [lex_diff (O := itemOrd) (by simpa using h3), I]
        exact decide_eq_decide.mpr (by dsimp only; omega)
    · rw [lex_diff (O := itemOrd) (by simpa using h2), I]
      exact decide_eq_decide.mpr (by dsimp only; omega)
  · rw [lex_diff (O := itemOrd) (by simpa using h1), I]
    exact decide_eq_decide.mpr (by dsimp only; omega)
theorem tlt_ne {a b : T3} (h : tlt a b) : a ≠ b := by rintro rfl; unfold tlt at h; omega
theorem tle_tr (a b c : T3) (h1 : tle a b = true) (h2 : tle b c = true) : tle a c = true := by
  simp only [tle, Bool.not_eq_true', decide_eq_false_iff_not] at *
  unfold tlt at *; omega
theorem tle_to (a b : T3) : (tle a b || tle b a) = true := by
  simp only [tle, Bool.or_eq_true, Bool.not_eq_true', decide_eq_false_iff_not]
  unfold tlt; omega
theorem tle_lt {a b : T3} (h : tle a b = true) (hn : a ≠ b) : tlt a b := by
  simp only [tle, Bool.not_eq_true', decide_eq_false_iff_not] at h
  unfold tlt at *
  obtain ⟨a1, a2, a3⟩ := a
  obtain ⟨b1, b2, b3⟩ := b
  simp only [ne_eq, Prod.mk.injEq, not_and] at *
  omega
theorem tst_strict {l : List T3} (h : l.Nodup) : (l.mergeSort tle).Pairwise tlt := by
  have h1 := List.pairwise_mergeSort tle_tr tle_to l
  have h2 : (l.mergeSort tle).Nodup := (List.mergeSort_perm l tle).nodup_iff.mpr h
  exact (h1.and h2).imp fun ⟨a, b⟩ => tle_lt a b
theorem srt_t (l : List T3) : srt (l.map tD) = (l.mergeSort tle).map tD := by
  rw [srt_map]
  congr 2
  funext a b
  exact dle_t a b
theorem doks_t (n : Nat) (l : List T3) : doks (n + 1) (l.map tD) = true := doks_map _ _ _ fun x _ => by cases n <;> simp [tD, dok, doks]
theorem srtOk_t (l : List T3) : srtOk (l.map tD) = true := by
  unfold srtOk
  rw [doks_t]
  simp [List.all_eq_true, tD, alikeD, alikeDs, srtItem]
theorem k_srtT {l : List T3} {Q : D → Prop} : Ok (srtAD (.lst (l.map tD))) Q ↔ Q (.lst ((l.mergeSort tle).map tD)) := by
  have e : srtAD (.lst (l.map tD)) = .ok (.lst ((l.mergeSort tle).map tD)) := by simp only [srtAD, srtOk_t, if_true, srt_t]
  rw [e, ok_ok]
theorem k_gT3 {e : T3} {r : FGs} {S : M.Env} {QE : M.Env → Prop} : Ok (gT 3 r (tD e) S) QE ↔ Ok (r [.int e.1, .int e.2.1, .int e.2.2] S) QE := by
  show Ok (gT 3 r (.tup [.int e.1, .int e.2.1, .int e.2.2]) S) QE ↔ _
  rw [k_gT]; simp
theorem k_t3_0 {e : T3} {Q : D → Prop} : Ok (ixD (tD e) (.int 0)) Q ↔ Q (.int e.1) := ok_ok
theorem k_t3_1 {e : T3} {Q : D → Prop} : Ok (ixD (tD e) (.int 1)) Q ↔ Q (.int e.2.1) := ok_ok
theorem k_t3_2 {e : T3} {Q : D → Prop} : Ok (ixD (tD e) (.int 2)) Q ↔ Q (.int e.2.2) := ok_ok
theorem ixA_tD {e : T3} {y : D} : ixA (tD e) y = ixD (tD e) y := rfl
theorem k_tupD {e : T3} {Q : D → Prop} : Ok (tupD (tD e)) Q ↔ Q (tD e) := ok_ok
theorem asI_t : ∀ (l : List T3), l ≠ [] → asI (l.map tD) = none
  | [], h => absurd rfl h
  | e :: l, _ => rfl
theorem asTs_t : ∀ l : List T3, asTs (l.map tD) = some (l.map fun e => [e.1, e.2.1, e.2.2])
  | [] => rfl
  | e :: l => by
    rw [List.map_cons, asTs, asTs_t l]
    rfl
theorem nd_nubG {κ : Type} [DecidableEq κ] {l : List κ} (h : l.Nodup) : (nubG l).length = l.length := (M.nub_len h fun x => Iff.rfl).symm
theorem nd_map {α β : Type} (f : α → β) {l : List α} (h : l.Nodup) (i : ∀ a ∈ l, ∀ b ∈ l, f a = f b → a = b) : (l.map f).Nodup := by
  rw [List.Nodup, List.pairwise_map]
  refine List.Pairwise.imp_of_mem ?_ h
  intro a b ha hb hn e
  exact hn (i a ha b hb e)
theorem lenSet_t {l : List T3} (h : l.Nodup) (hl : l.length < 60) (hn : l ≠ []) : lenSetD (.tup (l.map tD)) = .ok (.int l.length) := by
  simp only [lenSetD, asI_t l hn, asTs_t]
  rw [if_pos (by rw [List.length_map]; exact hl), nd_nubG (nd_map _ h fun a _ b _ e => by
    obtain ⟨a1, a2, a3⟩ := a
    obtain ⟨b1, b2, b3⟩ := b
    simpa using e), List.length_map]
theorem asI_int (l : List Int) : asI (l.map D.int) = some l := by have := asI_mapf (fun i : Int => i) l; simpa using this
theorem lenSet_i {l : List Int} (h : l.Nodup) (hl : l.length ≤ 1000) : lenSetD (.tup (l.map .int)) = .ok (.int l.length) := by
  simp only [lenSetD, asI_int]
  rw [if_pos hl, nd_nubG h]
theorem strict_nd {l : List Int} (h : l.Pairwise (· < ·)) : l.Nodup := h.imp fun h e => by omega
theorem tstrict_nd {l : List T3} (h : l.Pairwise tlt) : l.Nodup := h.imp fun h e => tlt_ne h e
theorem while_inv {t : FT} {s : FS} {QS : Fl × M.Env → Prop} (P : Nat → M.Env → Prop) : ∀ (m n : Nat) (S : M.Env), m < n → P m S → (∀ m S, P m S → Ok (t S) fun b => (b = true → Ok (s S) fun z => match z.1 with
    | .nx => ∃ m', m' < m ∧ P m' z.2
    | .ct => ∃ m', m' < m ∧ P m' z.2
    | .bk => QS (.nx, z.2)
    | .rt d => QS (.rt d, z.2)) ∧ (b = false → QS (.nx, S))) → Ok (whileF t s n S) QS := by
  intro m n
  induction n generalizing m with
  | zero => intro S h; omega
  | succ n ih =>
    intro S h hp k
    rw [k_while]
    refine (k m S hp).mono fun b hb => ⟨fun e => (hb.1 e).mono fun z hz => ?_, hb.2⟩
    obtain ⟨fl, S'⟩ := z
    cases fl with
    | nx => obtain ⟨m', h1, h2⟩ := hz; exact ih m' S' (by omega) h2 k
    | ct => obtain ⟨m', h1, h2⟩ := hz; exact ih m' S' (by omega) h2 k
    | bk => exact hz
    | rt d => exact hz
end Pf
set_option Elab.async false
set_option linter.all false
set_option maxRecDepth 100000
namespace Pf
open M PySem L2
section
variable {Q : D → Prop} {QB : Bool → Prop} {QL : List D → Prop} {QS : Fl × M.Env → Prop} {S : M.Env} {f g h : FE} {t : FT} {fa fk : FA} {s r : FS} {i j ci : Nat} {d x y : D}
theorem k_guardX {QS : Fl × M.Env → Prop} {c : Nat} : Ok (sIf t (sExc0 c) sNil S) QS ↔ Ok (t S) fun b => b = false ∧ QS (.nx, S) := by
  rw [k_if]
  apply iff_of_eq
  congr 1
  funext b
  have e : Ok (sExc0 c S) QS ↔ False := ⟨fun ⟨_, e, _⟩ => (nomatch e), False.elim⟩
  cases b <;> simp [k_nil, e]
theorem k_truT {xs : List D} : Ok (truD (.tup xs)) QB ↔ QB (!xs.isEmpty) := ok_ok
theorem k_truL {xs : List D} : Ok (truD (.lst xs)) QB ↔ QB (!xs.isEmpty) := ok_ok
theorem k_truI {n : Int} : Ok (truD (.int n)) QB ↔ QB (n != 0) := ok_ok
def getOr (d y z : D) : R D := match dlook d y with
  | some (some r) => .ok r
  | some none => .ok z
  | none => .fail
theorem k_eGet2 : Ok (eGet2 f g h S) Q ↔ Ok (f S) fun d => isDct d = true ∧ Ok (g S) fun y => Ok (h S) fun z => Ok (getOr d y z) Q := by
  unfold eGet2
  simp only [ok_bind]
  apply iff_of_eq
  congr 1
  funext d
  by_cases hd : isDct d = true
  · rw [if_pos hd]; simp only [hd, true_and, ok_bind]; rfl
  · rw [if_neg hd, ok_fail]; simp [hd]
theorem k_putA : Ok (sPutA i f g S) QS ↔ Ok (ownD i S) fun m => Ok (g S) fun d => Ok (f S) fun y => Ok (putA i S m d y) QS := by
  unfold sPutA; simp only [ok_bind]
theorem oD_z {l : List (Option Sl)} : Ok (ownD 0 (some ⟨true, d⟩ :: l)) Q ↔ Q d := ok_ok
theorem oD_s {a : Option Sl} {l : List (Option Sl)} : Ok (ownD (i + 1) (a :: l)) Q ↔ Ok (ownD i l) Q := Iff.rfl
theorem k_putK {ks : List Key} {ds : List D} {n : Int} : Ok (putA i S (.dic ks ds) d (.int n)) QS ↔ (ks.Nodup ∧ ks.length < sizeLine) ∧ QS (.nx, S.set i (some ⟨true, .dic (putL ks ds (.inl n) d).1 (putL ks ds (.inl n) d).2⟩)) := by
  show Ok (if _ then _ else _) QS ↔ _; rw [ok_if, ok_ok]
theorem k_putS {ks : List Key} {ds : List D} {n : Str} : Ok (putA i S (.dic ks ds) d (.str n)) QS ↔ (ks.Nodup ∧ ks.length < sizeLine) ∧ QS (.nx, S.set i (some ⟨true, .dic (putL ks ds (.inr n) d).1 (putL ks ds (.inr n) d).2⟩)) := by
  show Ok (if _ then _ else _) QS ↔ _; rw [ok_if, ok_ok]
theorem keyT_2 {a b : Int} : keyT (.tup [.int a, .int b]) = some [.inl a, .inl b] := by
  show (if 1 < 2 ∧ 2 < 4 ∧ ([.int a, .int b] : List D).all isStrD = false then keysD [.int a, .int b] else none) = _
  rw [if_pos (by refine ⟨?_, ?_, rfl⟩ <;> decide)]; rfl
theorem k_putT2 {ks : List (List Key)} {ds : List D} {a b : Int} : Ok (putA i S (.dit ks ds) d (.tup [.int a, .int b])) QS ↔ (ks.Nodup ∧ ks.length < sizeLine) ∧ QS (.nx, S.set i (some ⟨true, .dit (putL ks ds [.inl a, .inl b] d).1 (putL ks ds [.inl a, .inl b] d).2⟩)) := by
  unfold putA
  simp only [keyT_2]
  rw [ok_if, ok_ok]
theorem k_addT {a b : List D} : Ok (addD (.tup a) (.tup b)) Q ↔ a.length + b.length ≤ sizeLine ∧ Q (.tup (a ++ b)) := by show Ok (if _ then _ else _) Q ↔ _; rw [ok_if, ok_ok]
theorem k_addLL {a b : List D} : Ok (addD (.lst a) (.lst b)) Q ↔ a.length + b.length ≤ sizeLine ∧ Q (.lst (a ++ b)) := by show Ok (if _ then _ else _) Q ↔ _; rw [ok_if, ok_ok]
theorem k_CX {o : List D → R D} : Ok (eCX o fa S) Q ↔ Ok (fa S) fun xs => Ok (o xs) Q := by unfold eCX; simp only [ok_bind]
theorem k_CXK {o : List D → R D} : Ok (eCXK o fa fk S) Q ↔ Ok (fa S) fun xs => Ok (fk S) fun ys => Ok (o (xs ++ ys)) Q := by unfold eCXK; simp only [ok_bind]
theorem k_MX {den : List D → R D} : Ok (eMX ci den f fa S) Q ↔ Ok (f S) fun o => o.isObj ci = true ∧ Ok (fa S) fun ds => Ok (den (o :: ds)) Q := by unfold eMX; simp only [ok_bind, ok_if]
theorem k_lstL {xs : List D} : Ok (lstD (.lst xs)) Q ↔ Q (.lst xs) := ok_ok
theorem k_lstT {xs : List D} : Ok (lstD (.tup xs)) Q ↔ Q (.lst xs) := ok_ok
theorem k_boolL {xs : List D} : Ok (boolD (.lst xs)) Q ↔ Q (.bl (!xs.isEmpty)) := ok_ok
theorem k_boolT {xs : List D} : Ok (boolD (.tup xs)) Q ↔ Q (.bl (!xs.isEmpty)) := ok_ok
theorem k_lstE {out : List D} : Ok (lstE out) Q ↔ out.length ≤ sizeLine ∧ Q (.lst out) := by unfold lstE; rw [ok_if, ok_ok]
theorem k_LM {den : List D → R (List D)} : Ok (eLM ci den f fa S) Q ↔ Ok (f S) fun o => o.isObj ci = true ∧ Ok (fa S) fun ds => Ok (den (o :: ds)) fun out => Ok (lstE out) Q := by
  unfold eLM; simp only [ok_bind, ok_if, ok_nox]
theorem k_hasB {n b : Bool} : Ok (hasB n (.bl b)) Q ↔ Q (.bl (b != n)) := ok_ok
theorem k_eHas {den : List D → R D} {n : Bool} : Ok (eHas ci den n f g S) Q ↔ Ok (f S) fun x => Ok (g S) fun o => o.isObj ci = true ∧ Ok (den [o, x]) fun d => Ok (hasB n d) Q := by
  unfold eHas; simp only [ok_bind, ok_if, ok_nox]
theorem k_parO : Ok (sParO i j f g S) QS ↔ Ok (f S) fun d => Ok (g S) fun e => QS (.nx, (S.set i (some ⟨true, d⟩)).set j (some ⟨true, e⟩)) := by unfold sParO; simp only [ok_bind, ok_ok]
end
def seqD (t : Bool) (xs : List D) : D := if t then .tup xs else .lst xs
theorem k_itemsQ {t : Bool} {xs : List D} {QL : List D → Prop} : Ok (itemsD (seqD t xs)) QL ↔ QL xs := by cases t <;> exact ok_ok
theorem k_lenQ {t : Bool} {xs : List D} {Q : D → Prop} : Ok (lenD (seqD t xs)) Q ↔ Q (.int xs.length) := by cases t <;> exact ok_ok
theorem k_ixQ {t : Bool} {xs : List D} {n : Int} {Q : D → Prop} : Ok (ixA (seqD t xs) (.int n)) Q ↔ ∃ d, L2.atI xs n = some d ∧ Q d := by
  cases t
  · exact k_ixL
  · exact k_ixT
theorem k_srtQ {t : Bool} {l : List Int} {Q : D → Prop} : Ok (srtAD (seqD t (l.map .int))) Q ↔ Q (.lst ((l.mergeSort ile).map .int)) := by
  cases t
  · exact k_srtI
  · exact k_srtIT
theorem tup_seqD (xs : List D) : D.tup xs = seqD true xs := rfl
theorem atI_0 {α : Type} {x : α} {xs : List α} : L2.atI (x :: xs) 0 = some x := by
  unfold L2.atI ixN
  rw [if_pos (by decide), if_pos (by rw [List.length_cons]; omega)]; rfl
theorem atI_last {α : Type} {xs : List α} (h : xs ≠ []) : ∃ a, L2.atI xs (-1) = some a ∧ a ∈ xs := by
  have hl : 0 < xs.length := List.length_pos_iff.mpr h
  have e : ∃ a, L2.atI xs (-1) = some a := by
    unfold L2.atI ixN
    rw [if_neg (by decide), if_pos (by omega)]
    exact ⟨xs[(-1 + (xs.length : Int)).toNat]'(by omega), List.getElem?_eq_getElem _⟩
  obtain ⟨a, e⟩ := e
  exact ⟨a, e, atI_mem e⟩
theorem lc2_typed {α β : Type} {ga : FG} {t : FT} {fi1 : FI} {ga1 : FG} {t1 : FT} {fe : FE} {vs vs1 : List Nat} {S : M.Env} (f : α → D) (f1 : β → D) (inner : α → List β) (p : α → Bool) (p1 : α → β → Bool) (g : α → β → D) : ∀ (xs : List α),
    (∀ x ∈ xs, Ok (ga (f x) S) fun S1 => unown S1 vs = true ∧ Ok (t S1) fun b => b = p x ∧ (p x = true → Ok (fi1 S1) fun ds => ds = (inner x).map f1 ∧ ∀ y ∈ inner x, Ok (ga1 (f1 y) (wipeS S1 vs1)) fun S2 => Ok (t1 S2) fun b => b = p1 x y ∧ (p1 x y = true → Ok (fe S2) fun z => z = g x y))) →
    lc2F ga t fi1 ga1 t1 fe vs vs1 S (xs.map f) = .ok ((xs.filter p).flatMap fun x => ((inner x).filter (p1 x)).map (g x))
  | [], _ => rfl
  | x :: xs, h => by
    have ih := lc2_typed f f1 inner p p1 g xs fun y hy => h y (List.mem_cons_of_mem _ hy)
    obtain ⟨S1, e1, hu, b, e2, hb, k⟩ := h x (List.mem_cons_self ..)
    rw [List.map_cons, lc2F, e1, R.nox_ok, R.ok_bind, if_pos hu, e2, R.nox_ok, R.ok_bind]
    by_cases hp : p x = true
    · obtain ⟨ds, e3, rfl, hy⟩ := k hp
      rw [hb, if_pos hp, e3, R.nox_ok, R.ok_bind, lc_typed f1 (p1 x) (g x) (inner x) hy, R.ok_bind, ih, R.ok_bind, List.filter_cons_of_pos hp, List.flatMap_cons]
    · rw [hb, if_neg hp, ih, List.filter_cons_of_neg hp]
theorem k_Sl {f : FE} {l h : FO} {S : M.Env} {Q : D → Prop} : Ok (eSl f l h S) Q ↔ Ok (f S) fun x => Ok (l S) fun lo => Ok (h S) fun hi => Ok (slD x lo hi) Q := by
  unfold eSl; simp only [ok_bind, ok_nox]
theorem k_oN {S : M.Env} {Q : Option Int → Prop} : Ok (oN S) Q ↔ Q none := ok_ok
theorem k_oS {f : FE} {S : M.Env} {Q : Option Int → Prop} : Ok (oS f S) Q ↔ Ok (f S) fun d => Ok (toI d) Q := by unfold oS; rw [ok_bind]
theorem k_toI {i : Int} {Q : Option Int → Prop} : Ok (toI (.int i)) Q ↔ Q (some i) := ok_ok
theorem k_slL {xs : List D} {lo hi : Option Int} {Q : D → Prop} : Ok (slD (.lst xs) lo hi) Q ↔ Q (.lst (M.cutL xs lo hi)) := ok_ok
theorem k_slT {xs : List D} {lo hi : Option Int} {Q : D → Prop} : Ok (slD (.tup xs) lo hi) Q ↔ Q (.tup (M.cutL xs lo hi)) := ok_ok
theorem cut_map {α β : Type} (f : α → β) (xs : List α) (lo hi : Option Int) : M.cutL (xs.map f) lo hi = (M.cutL xs lo hi).map f := by
  unfold M.cutL
  rw [List.length_map, List.map_take, List.map_drop]
theorem take_mapD {α β : Type} (f : α → β) (xs : List α) (n : Nat) : (xs.map f).take n = (xs.take n).map f := List.map_take.symm
theorem drop_mapD {α β : Type} (f : α → β) (xs : List α) (n : Nat) : (xs.map f).drop n = (xs.drop n).map f := List.map_drop.symm
theorem dec_self {α : Type} [DecidableEq α] (a : α) : decide (a = a) = true := decide_eq_true rfl
theorem k_deqS {d : D} (h : dok 60 d = true) {Q : D → Prop} : Ok (eqD d d) Q ↔ Q (.bl true) := by
  have e : eqD d d = .ok (.bl true) := by unfold eqD; rw [h, deq_self 60 d h]; rfl
  rw [e, ok_ok]
theorem sz0 : (0 ≤ sizeLine) = True := eq_true (Nat.le_trans (by omega) size_ge)
theorem sz1 : (1 ≤ sizeLine) = True := eq_true (Nat.le_trans (by omega) size_ge)
theorem sz2 : (2 ≤ sizeLine) = True := eq_true (Nat.le_trans (by omega) size_ge)
theorem sz3 : (3 ≤ sizeLine) = True := eq_true (Nat.le_trans (by omega) size_ge)
theorem sz4 : (4 ≤ sizeLine) = True := eq_true (Nat.le_trans (by omega) size_ge)
theorem sz5 : (5 ≤ sizeLine) = True := eq_true (Nat.le_trans (by omega) size_ge)
theorem sz6 : (6 ≤ sizeLine) = True := eq_true (Nat.le_trans (by omega) size_ge)
theorem sz7 : (7 ≤ sizeLine) = True := eq_true (Nat.le_trans (by omega) size_ge)
theorem sz8 : (8 ≤ sizeLine) = True := eq_true (Nat.le_trans (by omega) size_ge)
theorem sz9 : (9 ≤ sizeLine) = True := eq_true (Nat.le_trans (by omega) size_ge)
end Pf
set_option Elab.async false
set_option linter.all false
set_option maxRecDepth 100000
set_option maxHeartbeats 0
namespace Pf
open PySem L2 M
theorem facts {P : Program} {w : World} {K : PySem.W.Frag} {h : Heap} {mg : Str → Option Value} {f : Addr} (X : K.In h) (Gn : h.Ns mainGlobals mg) (hfa : mg ("law" : Str) = some (.ref f)) (cz : SaysV fv fn w K) :
    ∃ fd : FuncData, (∀ (s : Shared) (v : Value), BindsTo s fd ⟨[v], []⟩ [("_law_script", v)]) ∧ ∀ base : Heap, K.In base → base.Ns mainGlobals mg → FnOk P w K mg base CX0 8 f fd ["_law_script"] (SpF ⟨K, clK K⟩ false 1 d_law) := by
  have cv := cz
  have cz := cv.z
  have c := cz.y
  have B : Bt mg := ⟨He.free_ok X Gn (c.fact 31 (f := .free "abs") rfl), He.free_ok X Gn (c.fact 32 (f := .free "any") rfl), He.free_ok X Gn (c.fact 33 (f := .free "bool") rfl), He.free_ok X Gn (c.fact 34 (f := .free "enumerate") rfl), He.free_ok X Gn (c.fact 35 (f := .free "int") rfl), He.free_ok X Gn (c.fact 36 (f := .free "isinstance") rfl), He.free_ok X Gn (c.fact 37 (f := .free "len") rfl), He.free_ok X Gn (c.fact 38 (f := .free "list") rfl), He.free_ok X Gn (c.fact 39 (f := .free "max") rfl), He.free_ok X Gn (c.fact 40 (f := .free "min") rfl), He.free_ok X Gn (c.fact 41 (f := .free "range") rfl), He.free_ok X Gn (c.fact 42 (f := .free "set") rfl), He.free_ok X Gn (c.fact 43 (f := .free "sorted") rfl), He.free_ok X Gn (c.fact 44 (f := .free "sum") rfl), He.free_ok X Gn (c.fact 45 (f := .free "tuple") rfl), He.free_ok X Gn (c.fact 46 (f := .free "zip") rfl)⟩
  have q_Task : mg "Task" = some (.ref (He.ga K "Task")) := He.glo_ok X Gn (c.fact 47 (f := .glo "Task") rfl)
  have k_Task : clK K 4 = some (He.ga K "Task", (["nodes", "edges", "steady", "caps"] : List Str)) := rfl
  have cc_Task : Cls K (He.ga K "Task") := He.cls_ok (c.fact 48 (f := .cls "Task") rfl)
  have mk_Task : Mk K (He.ga K "Task") (He.ma K (He.ga K "Task") "__init__") := He.mkr_ok (c.fact 49 (f := .mkr "Task") rfl)
  have C_Task : ClsI K ⟨K, clK K⟩ 4 (["nodes", "edges", "steady", "caps"] : List Str) := ⟨⟨_, k_Task, cc_Task, fun z hz => by
    simp only [List.mem_cons, List.not_mem_nil, or_false] at hz
    rcases hz with rfl | rfl | rfl | rfl
    · exact He.noat_ok (c.fact 50 (f := .noat "Task" "nodes") rfl)
    · exact He.noat_ok (c.fact 51 (f := .noat "Task" "edges") rfl)
    · exact He.noat_ok (c.fact 52 (f := .noat "Task" "steady") rfl)
    · exact He.noat_ok (c.fact 53 (f := .noat "Task" "caps") rfl)⟩, by decide +kernel, by decide⟩
  have g_Task : Gc mg ⟨K, clK K⟩ "Task" (.cls 4) := gcls_ok q_Task k_Task
  have q_Choice : mg "Choice" = some (.ref (He.ga K "Choice")) := He.glo_ok X Gn (c.fact 54 (f := .glo "Choice") rfl)
  have k_Choice : clK K 5 = some (He.ga K "Choice", (["order", "rules"] : List Str)) := rfl
  have cc_Choice : Cls K (He.ga K "Choice") := He.cls_ok (c.fact 55 (f := .cls "Choice") rfl)
  have mk_Choice : Mk K (He.ga K "Choice") (He.ma K (He.ga K "Choice") "__init__") := He.mkr_ok (c.fact 56 (f := .mkr "Choice") rfl)
  have C_Choice : ClsI K ⟨K, clK K⟩ 5 (["order", "rules"] : List Str) := ⟨⟨_, k_Choice, cc_Choice, fun z hz => by
    simp only [List.mem_cons, List.not_mem_nil, or_false] at hz
    rcases hz with rfl | rfl
    · exact He.noat_ok (c.fact 57 (f := .noat "Choice" "order") rfl)
    · exact He.noat_ok (c.fact 58 (f := .noat "Choice" "rules") rfl)⟩, by decide +kernel, by decide⟩
  have g_Choice : Gc mg ⟨K, clK K⟩ "Choice" (.cls 5) := gcls_ok q_Choice k_Choice
  have q_Supply : mg "Supply" = some (.ref (He.ga K "Supply")) := He.glo_ok X Gn (c.fact 59 (f := .glo "Supply") rfl)
  have k_Supply : clK K 3 = some (He.ga K "Supply", (["size", "steps", "starts", "moves"] : List Str)) := rfl
  have cc_Supply : Cls K (He.ga K "Supply") := He.cls_ok (c.fact 60 (f := .cls "Supply") rfl)
  have mk_Supply : Mk K (He.ga K "Supply") (He.ma K (He.ga K "Supply") "__init__") := He.mkr_ok (c.fact 61 (f := .mkr "Supply") rfl)
  have C_Supply : ClsI K ⟨K, clK K⟩ 3 (["size", "steps", "starts", "moves"] : List Str) := ⟨⟨_, k_Supply, cc_Supply, fun z hz => by
    simp only [List.mem_cons, List.not_mem_nil, or_false] at hz
    rcases hz with rfl | rfl | rfl | rfl
    · exact He.noat_ok (c.fact 62 (f := .noat "Supply" "size") rfl)
    · exact He.noat_ok (c.fact 63 (f := .noat "Supply" "steps") rfl)
    · exact He.noat_ok (c.fact 64 (f := .noat "Supply" "starts") rfl)
    · exact He.noat_ok (c.fact 65 (f := .noat "Supply" "moves") rfl)⟩, by decide +kernel, by decide⟩
  have g_Supply : Gc mg ⟨K, clK K⟩ "Supply" (.cls 3) := gcls_ok q_Supply k_Supply
  have q_Core : mg "Core" = some (.ref (He.ga K "Core")) := He.glo_ok X Gn (c.fact 66 (f := .glo "Core") rfl)
  have k_Core : clK K 6 = some (He.ga K "Core", (["supply", "tasks", "choice", "door", "guard", "weight", "parties"] : List Str)) := rfl
  have cc_Core : Cls K (He.ga K "Core") := He.cls_ok (c.fact 67 (f := .cls "Core") rfl)
  have mk_Core : Mk K (He.ga K "Core") (He.ma K (He.ga K "Core") "__init__") := He.mkr_ok (c.fact 68 (f := .mkr "Core") rfl)
  have C_Core : ClsI K ⟨K, clK K⟩ 6 (["supply", "tasks", "choice", "door", "guard", "weight", "parties"] : List Str) := ⟨⟨_, k_Core, cc_Core, fun z hz => by
    simp only [List.mem_cons, List.not_mem_nil, or_false] at hz
    rcases hz with rfl | rfl | rfl | rfl | rfl | rfl | rfl
    · exact He.noat_ok (c.fact 69 (f := .noat "Core" "supply") rfl)
    · exact He.noat_ok (c.fact 70 (f := .noat "Core" "tasks") rfl)
    · exact He.noat_ok (c.fact 71 (f := .noat "Core" "choice") rfl)
    · exact He.noat_ok (c.fact 72 (f := .noat "Core" "door") rfl)
    · exact He.noat_ok (c.fact 73 (f := .noat "Core" "guard") rfl)
    · exact He.noat_ok (c.fact 74 (f := .noat "Core" "weight") rfl)
    · exact He.noat_ok (c.fact 75 (f := .noat "Core" "parties") rfl)⟩, by decide +kernel, by decide⟩
  have g_Core : Gc mg ⟨K, clK K⟩ "Core" (.cls 6) := gcls_ok q_Core k_Core
  have q_InvalidChoice : mg "InvalidChoice" = some (.ref (He.ga K "InvalidChoice")) := He.glo_ok X Gn (c.fact 88 (f := .glo "InvalidChoice") rfl)
  have k_InvalidChoice : clK K 205 = some (He.ga K "InvalidChoice", ([] : List Str)) := rfl
  have g_InvalidChoice : Gc mg ⟨K, clK K⟩ "InvalidChoice" (.cls 205) := gcls_ok q_InvalidChoice k_InvalidChoice
  have q_InvalidSupply : mg "InvalidSupply" = some (.ref (He.ga K "InvalidSupply")) := He.glo_ok X Gn (c.fact 89 (f := .glo "InvalidSupply") rfl)
  have k_InvalidSupply : clK K 202 = some (He.ga K "InvalidSupply", ([] : List Str)) := rfl
  have g_InvalidSupply : Gc mg ⟨K, clK K⟩ "InvalidSupply" (.cls 202) := gcls_ok q_InvalidSupply k_InvalidSupply
  have R_InvalidChoice : RaO K mg ⟨K, clK K⟩ "InvalidChoice" 205 := raO_ok (c.fact 90 (f := .exc "InvalidChoice") rfl) q_InvalidChoice k_InvalidChoice
  have R_InvalidSupply : RaO K mg ⟨K, clK K⟩ "InvalidSupply" 202 := raO_ok (c.fact 91 (f := .exc "InvalidSupply") rfl) q_InvalidSupply k_InvalidSupply
  have h0 : clK K xix = none := by rfl
  have hd_Supply : ∀ Gd, RDs ⟨K, clK K⟩ Gd [.tup [.int 0]] [.ref (kwAt (.met "Supply" "__init__") "starts" K)] := fun Gd => (.cons (dfl_ok (cv.xf 0 (f := .dfl (.met "Supply" "__init__") "starts" (.tup [.int 0])) rfl) Gd) .nil)
  have hd_Core : ∀ Gd, RDs ⟨K, clK K⟩ Gd [.non, .str "shut", .str "cut"] [.non, .str "shut", .str "cut"] := fun Gd => (.cons .non (.cons (.str _) (.cons (.str _) .nil)))
  have g_MOST_NODES : Gc mg ⟨K, clK K⟩ "MOST_NODES" gv_MOST_NODES := gB_ok X Gn (c.gc 0 (f := ("MOST_NODES", gv_MOST_NODES)) rfl)
  have g_LONGEST_PLAN : Gc mg ⟨K, clK K⟩ "LONGEST_PLAN" gv_LONGEST_PLAN := gB_ok X Gn (c.gc 1 (f := ("LONGEST_PLAN", gv_LONGEST_PLAN)) rfl)
  have g_ENTRIES : Gc mg ⟨K, clK K⟩ "ENTRIES" gv_ENTRIES := gB_ok X Gn (c.gc 2 (f := ("ENTRIES", gv_ENTRIES)) rfl)
  have g_LONGEST_TIME : Gc mg ⟨K, clK K⟩ "LONGEST_TIME" gv_LONGEST_TIME := gB_ok X Gn (c.gc 3 (f := ("LONGEST_TIME", gv_LONGEST_TIME)) rfl)
  have g_ORDERS : Gc mg ⟨K, clK K⟩ "ORDERS" gv_ORDERS := gB_ok X Gn (c.gc 4 (f := ("ORDERS", gv_ORDERS)) rfl)
  have g_RULES : Gc mg ⟨K, clK K⟩ "RULES" gv_RULES := gB_ok X Gn (c.gc 5 (f := ("RULES", gv_RULES)) rfl)
  have g_MOST_STATES : Gc mg ⟨K, clK K⟩ "MOST_STATES" gv_MOST_STATES := gB_ok X Gn (c.gc 6 (f := ("MOST_STATES", gv_MOST_STATES)) rfl)
  have g_MOST_TASKS : Gc mg ⟨K, clK K⟩ "MOST_TASKS" gv_MOST_TASKS := gB_ok X Gn (c.gc 7 (f := ("MOST_TASKS", gv_MOST_TASKS)) rfl)
  have g_DOORS : Gc mg ⟨K, clK K⟩ "DOORS" gv_DOORS := gB_ok X Gn (c.gc 8 (f := ("DOORS", gv_DOORS)) rfl)
  have g_GUARDS : Gc mg ⟨K, clK K⟩ "GUARDS" gv_GUARDS := gB_ok X Gn (c.gc 9 (f := ("GUARDS", gv_GUARDS)) rfl)
  have g_MOST_WEIGHT : Gc mg ⟨K, clK K⟩ "MOST_WEIGHT" gv_MOST_WEIGHT := gB_ok X Gn (c.gc 10 (f := ("MOST_WEIGHT", gv_MOST_WEIGHT)) rfl)
  obtain ⟨fd_check_nodes, F_check_nodes⟩ := c.def_ 0 (d := dd_check_nodes) rfl
  obtain ⟨fd_check_edges, F_check_edges⟩ := c.def_ 1 (d := dd_check_edges) rfl
  obtain ⟨fd_Task, F_Task⟩ := c.def_ 2 (d := dd_Task) rfl
  obtain ⟨fd_Task_cap, F_Task_cap⟩ := c.def_ 3 (d := dd_Task_cap) rfl
  obtain ⟨fd_Task_unfinished, F_Task_unfinished⟩ := c.def_ 4 (d := dd_Task_unfinished) rfl
  obtain ⟨fd_Task_allows, F_Task_allows⟩ := c.def_ 5 (d := dd_Task_allows) rfl
  obtain ⟨fd_Task_held, F_Task_held⟩ := c.def_ 6 (d := dd_Task_held) rfl
  obtain ⟨fd_Task_needed, F_Task_needed⟩ := c.def_ 7 (d := dd_Task_needed) rfl
  obtain ⟨fd_uses, F_uses⟩ := c.def_ 8 (d := dd_uses) rfl
  obtain ⟨fd_Choice, F_Choice⟩ := c.def_ 9 (d := dd_Choice) rfl
  obtain ⟨fd_Choice_levels, F_Choice_levels⟩ := c.def_ 10 (d := dd_Choice_levels) rfl
  obtain ⟨fd_Choice_ceiling, F_Choice_ceiling⟩ := c.def_ 11 (d := dd_Choice_ceiling) rfl
  obtain ⟨fd_Choice_urgent, F_Choice_urgent⟩ := c.def_ 12 (d := dd_Choice_urgent) rfl
  obtain ⟨fd_blocked_by, F_blocked_by⟩ := c.def_ 13 (d := dd_blocked_by) rfl
  obtain ⟨fd_Choice_blocker, F_Choice_blocker⟩ := c.def_ 14 (d := dd_Choice_blocker) rfl
  obtain ⟨fd_Choice___call__, F_Choice___call__⟩ := c.def_ 15 (d := dd_Choice___call__) rfl
  obtain ⟨fd_check_supply, F_check_supply⟩ := c.def_ 16 (d := dd_check_supply) rfl
  obtain ⟨fd_moves_of, F_moves_of⟩ := c.def_ 17 (d := dd_moves_of) rfl
  obtain ⟨fd_Supply, F_Supply⟩ := c.def_ 18 (d := dd_Supply) rfl
  obtain ⟨fd_weight_of, F_weight_of⟩ := c.def_ 19 (d := dd_weight_of) rfl
  obtain ⟨fd_Core, F_Core⟩ := c.def_ 20 (d := dd_Core) rfl
  obtain ⟨fd_Core_arrived, F_Core_arrived⟩ := c.def_ 21 (d := dd_Core_arrived) rfl
  obtain ⟨fd_Core_chosen, F_Core_chosen⟩ := c.def_ 22 (d := dd_Core_chosen) rfl
  obtain ⟨fd__law_cell, F__law_cell⟩ := c.def_ 23 (d := dd__law_cell) rfl
  obtain ⟨fd__law_draws, F__law_draws⟩ := c.def_ 24 (d := dd__law_draws) rfl
  obtain ⟨fd__law_choice, F__law_choice⟩ := c.def_ 25 (d := dd__law_choice) rfl
  obtain ⟨fd__law_core, F__law_core⟩ := c.def_ 26 (d := dd__law_core) rfl
  obtain ⟨fd__law_cap, F__law_cap⟩ := c.def_ 27 (d := dd__law_cap) rfl
  obtain ⟨fd__law_open, F__law_open⟩ := c.def_ 28 (d := dd__law_open) rfl
  obtain ⟨fd__law_allows, F__law_allows⟩ := c.def_ 29 (d := dd__law_allows) rfl
  obtain ⟨fd__law_held, F__law_held⟩ := c.def_ 30 (d := dd__law_held) rfl
  obtain ⟨fd__law_needed, F__law_needed⟩ := c.def_ 31 (d := dd__law_needed) rfl
  obtain ⟨fd__law_blocked, F__law_blocked⟩ := c.def_ 32 (d := dd__law_blocked) rfl
  obtain ⟨fd__law_levels, F__law_levels⟩ := c.def_ 33 (d := dd__law_levels) rfl
  obtain ⟨fd__law_users, F__law_users⟩ := c.def_ 34 (d := dd__law_users) rfl
  obtain ⟨fd__law_blocker, F__law_blocker⟩ := c.def_ 35 (d := dd__law_blocker) rfl
  obtain ⟨fd__law_urgent, F__law_urgent⟩ := c.def_ 36 (d := dd__law_urgent) rfl
  obtain ⟨fd__law_chosen, F__law_chosen⟩ := c.def_ 37 (d := dd__law_chosen) rfl
  obtain ⟨fd__law_arrived, F__law_arrived⟩ := c.def_ 38 (d := dd__law_arrived) rfl
  obtain ⟨fd__law_states, F__law_states⟩ := c.def_ 39 (d := dd__law_states) rfl
  obtain ⟨fd__law_start, F__law_start⟩ := c.def_ 40 (d := dd__law_start) rfl
  obtain ⟨fd__law_may_ask, F__law_may_ask⟩ := c.def_ 41 (d := dd__law_may_ask) rfl
  obtain ⟨fd__law_after, F__law_after⟩ := c.def_ 42 (d := dd__law_after) rfl
  obtain ⟨fd__law_any_row, F__law_any_row⟩ := c.def_ 43 (d := dd__law_any_row) rfl
  obtain ⟨fd__law_lock_task, F__law_lock_task⟩ := c.def_ 44 (d := dd__law_lock_task) rfl
  obtain ⟨fd__law_is_number, F__law_is_number⟩ := c.def_ 45 (d := dd__law_is_number) rfl
  obtain ⟨fd_law, F_law⟩ := c.def_ 46 (d := dd_law) rfl
  have e := hfa.symm.trans (He.glo_ok X Gn (c.fact 30 (f := .glo "law") rfl))
  cases e
  have b := FunD.bindsA (ps := ["_law_script"]) F_law fun _ _ _ _ _ _ us hl => match us, hl with | [_], _ => rfl
  refine ⟨fd_law, fun s v => b s [v] rfl, fun base _ _ => ?_⟩
  have h_check_nodes : Callee P w K mg base ⟨K, clK K⟩ 1 "check_nodes" 1 false d_check_nodes := ok_check_nodes F_check_nodes (He.glo_ok X Gn (c.fact 0 (f := .glo "check_nodes") rfl)) B g_MOST_NODES g_LONGEST_PLAN g_ENTRIES g_LONGEST_TIME
  have h_check_edges : Callee P w K mg base ⟨K, clK K⟩ 1 "check_edges" 2 false d_check_edges := ok_check_edges F_check_edges (He.glo_ok X Gn (c.fact 1 (f := .glo "check_edges") rfl)) B g_LONGEST_TIME
  have h_Task : MakeK P w K mg base ⟨K, clK K⟩ 2 "Task" 4 2 ["steady"] d_Task := ok_Task F_Task k_Task mk_Task q_Task B C_Task h_check_nodes h_check_edges
  have h_Task_cap : Method P w K mg base ⟨K, clK K⟩ 1 4 "cap" 2 false d_Task_cap := ok_Task_cap F_Task_cap k_Task cc_Task (He.meth_ok (c.fact 76 (f := .meth "Task" "cap") rfl)) B C_Task
  have h_Task_unfinished : Method P w K mg base ⟨K, clK K⟩ 1 4 "unfinished" 2 false d_Task_unfinished := ok_Task_unfinished F_Task_unfinished k_Task cc_Task (He.meth_ok (c.fact 77 (f := .meth "Task" "unfinished") rfl)) B C_Task
  have h_Task_allows : Method P w K mg base ⟨K, clK K⟩ 1 4 "allows" 3 false d_Task_allows := ok_Task_allows F_Task_allows k_Task cc_Task (He.meth_ok (c.fact 78 (f := .meth "Task" "allows") rfl)) B C_Task
  have h_Task_held : Method P w K mg base ⟨K, clK K⟩ 1 4 "held" 2 false d_Task_held := ok_Task_held F_Task_held k_Task cc_Task (He.meth_ok (c.fact 79 (f := .meth "Task" "held") rfl)) B C_Task
  have h_Task_needed : Method P w K mg base ⟨K, clK K⟩ 2 4 "needed" 2 false d_Task_needed := ok_Task_needed F_Task_needed k_Task cc_Task (He.meth_ok (c.fact 80 (f := .meth "Task" "needed") rfl)) B C_Task h_Task_held
  have h_uses : Callee P w K mg base ⟨K, clK K⟩ 1 "uses" 2 false d_uses := ok_uses F_uses (He.glo_ok X Gn (c.fact 2 (f := .glo "uses") rfl)) B C_Task
  have mS_Choice_ : MakerXS P w K mg base ⟨K, clK K⟩ 1 "Choice" 5 1 [] [] [] d_Choice := okS_Choice_ (fun _ => .nil) F_Choice k_Choice mk_Choice q_Choice B g_ORDERS R_InvalidChoice g_RULES C_Choice
  have h_Choice_levels : Method P w K mg base ⟨K, clK K⟩ 1 5 "levels" 2 false d_Choice_levels := ok_Choice_levels F_Choice_levels k_Choice cc_Choice (He.meth_ok (c.fact 81 (f := .meth "Choice" "levels") rfl)) B C_Choice C_Task
  have h_Choice_ceiling : Method P w K mg base ⟨K, clK K⟩ 2 5 "ceiling" 3 false d_Choice_ceiling := ok_Choice_ceiling F_Choice_ceiling k_Choice cc_Choice (He.meth_ok (c.fact 82 (f := .meth "Choice" "ceiling") rfl)) B h_Choice_levels h_uses
  have h_Choice_urgent : Method P w K mg base ⟨K, clK K⟩ 2 5 "urgent" 4 false d_Choice_urgent := ok_Choice_urgent F_Choice_urgent k_Choice cc_Choice (He.meth_ok (c.fact 83 (f := .meth "Choice" "urgent") rfl)) B h_Task_unfinished C_Choice C_Task
  have h_blocked_by : Callee P w K mg base ⟨K, clK K⟩ 3 "blocked_by" 3 false d_blocked_by := ok_blocked_by F_blocked_by (He.glo_ok X Gn (c.fact 3 (f := .glo "blocked_by") rfl)) B h_Task_needed h_Task_held
  have h_Choice_blocker : Method P w K mg base ⟨K, clK K⟩ 4 5 "blocker" 4 false d_Choice_blocker := ok_Choice_blocker F_Choice_blocker k_Choice cc_Choice (He.meth_ok (c.fact 84 (f := .meth "Choice" "blocker") rfl)) B h_blocked_by C_Choice h_Task_needed h_Task_held h_Choice_ceiling h_Choice_levels
  have hc_Choice : CallO P w K mg base ⟨K, clK K⟩ 5 5 4 d_Choice___call__ := ok_Choice___call__ F_Choice___call__ k_Choice cc_Choice (He.meth_ok (c.fact 85 (f := .meth "Choice" "__call__") rfl)) B h_Choice_urgent h_Choice_blocker C_Choice
  have h_check_supply : CalleeX P w K mg base ⟨K, clK K⟩ 1 "check_supply" 3 false d_check_supply := ok_check_supply F_check_supply (He.glo_ok X Gn (c.fact 4 (f := .glo "check_supply") rfl)) B g_MOST_STATES R_InvalidSupply
  have h_moves_of : Callee P w K mg base ⟨K, clK K⟩ 1 "moves_of" 1 true d_moves_of := ok_moves_of F_moves_of (He.glo_ok X Gn (c.fact 5 (f := .glo "moves_of") rfl)) B 
  have mx_Supply : MakerXK P w K mg base ⟨K, clK K⟩ 2 "Supply" 3 2 ["starts"] d_Supply := okk_Supply hd_Supply F_Supply k_Supply mk_Supply q_Supply B C_Supply h_check_supply h_moves_of
  have m_Supply : MakerXD P w K mg base ⟨K, clK K⟩ 2 "Supply" 3 2 [.tup [.int 0]] d_Supply := ok_Supply hd_Supply F_Supply k_Supply mk_Supply q_Supply B C_Supply h_check_supply h_moves_of
  have h_weight_of : Callee P w K mg base ⟨K, clK K⟩ 2 "weight_of" 2 false d_weight_of := ok_weight_of F_weight_of (He.glo_ok X Gn (c.fact 6 (f := .glo "weight_of") rfl)) B C_Supply C_Task h_Task_cap
  have mS_Core_111 : MakerXS P w K mg base ⟨K, clK K⟩ 3 "Core" 6 1 [true, true, true] ["choice", "door", "guard"] [.non, .str "shut", .str "cut"] d_Core := okS_Core_111 hd_Core F_Core k_Core mk_Core q_Core B g_MOST_TASKS g_DOORS g_GUARDS C_Core h_weight_of g_MOST_WEIGHT
  have h_Core_arrived : Method P w K mg base ⟨K, clK K⟩ 2 6 "arrived" 3 false d_Core_arrived := ok_Core_arrived F_Core_arrived k_Core cc_Core (He.meth_ok (c.fact 86 (f := .meth "Core" "arrived") rfl)) B C_Core h_Task_unfinished h_Task_allows
  have h_Core_chosen : Method P w K mg base ⟨K, clK K⟩ 6 6 "chosen" 3 false d_Core_chosen := ok_Core_chosen F_Core_chosen k_Core cc_Core (He.meth_ok (c.fact 87 (f := .meth "Core" "chosen") rfl)) B hc_Choice C_Core h_Core_arrived
  have h__law_cell : Callee P w K mg base ⟨K, clK K⟩ 1 "_law_cell" 2 false d__law_cell := ok__law_cell F__law_cell (He.glo_ok X Gn (c.fact 7 (f := .glo "_law_cell") rfl)) B 
  have h__law_draws : Callee P w K mg base ⟨K, clK K⟩ 2 "_law_draws" 3 true d__law_draws := ok__law_draws F__law_draws (He.glo_ok X Gn (c.fact 8 (f := .glo "_law_draws") rfl)) B h__law_cell
  have h__law_choice : Callee P w K mg base ⟨K, clK K⟩ 3 "_law_choice" 1 false d__law_choice := ok__law_choice F__law_choice (He.glo_ok X Gn (c.fact 9 (f := .glo "_law_choice") rfl)) B mS_Choice_
  have h__law_core : Callee P w K mg base ⟨K, clK K⟩ 5 "_law_core" 1 false d__law_core := ok__law_core F__law_core (He.glo_ok X Gn (c.fact 10 (f := .glo "_law_core") rfl)) B mx_Supply h_Task h__law_choice mS_Core_111
  have h__law_cap : Callee P w K mg base ⟨K, clK K⟩ 1 "_law_cap" 2 false d__law_cap := ok__law_cap F__law_cap (He.glo_ok X Gn (c.fact 11 (f := .glo "_law_cap") rfl)) B 
  have h__law_open : Callee P w K mg base ⟨K, clK K⟩ 1 "_law_open" 2 false d__law_open := ok__law_open F__law_open (He.glo_ok X Gn (c.fact 12 (f := .glo "_law_open") rfl)) B 
  have h__law_allows : Callee P w K mg base ⟨K, clK K⟩ 1 "_law_allows" 3 false d__law_allows := ok__law_allows F__law_allows (He.glo_ok X Gn (c.fact 13 (f := .glo "_law_allows") rfl)) B 
  have h__law_held : Callee P w K mg base ⟨K, clK K⟩ 2 "_law_held" 2 false d__law_held := ok__law_held F__law_held (He.glo_ok X Gn (c.fact 14 (f := .glo "_law_held") rfl)) B h__law_open
  have h__law_needed : Callee P w K mg base ⟨K, clK K⟩ 3 "_law_needed" 2 false d__law_needed := ok__law_needed F__law_needed (He.glo_ok X Gn (c.fact 15 (f := .glo "_law_needed") rfl)) B h__law_open h__law_held
  have h__law_blocked : Callee P w K mg base ⟨K, clK K⟩ 4 "_law_blocked" 3 false d__law_blocked := ok__law_blocked F__law_blocked (He.glo_ok X Gn (c.fact 16 (f := .glo "_law_blocked") rfl)) B h__law_needed h__law_held
  have h__law_levels : Callee P w K mg base ⟨K, clK K⟩ 1 "_law_levels" 2 false d__law_levels := ok__law_levels F__law_levels (He.glo_ok X Gn (c.fact 17 (f := .glo "_law_levels") rfl)) B 
  have h__law_users : Callee P w K mg base ⟨K, clK K⟩ 1 "_law_users" 2 false d__law_users := ok__law_users F__law_users (He.glo_ok X Gn (c.fact 18 (f := .glo "_law_users") rfl)) B 
  have h__law_blocker : Callee P w K mg base ⟨K, clK K⟩ 5 "_law_blocker" 3 false d__law_blocker := ok__law_blocker F__law_blocker (He.glo_ok X Gn (c.fact 19 (f := .glo "_law_blocker") rfl)) B h__law_blocked h__law_needed h__law_levels h__law_held h__law_users
  have h__law_urgent : Callee P w K mg base ⟨K, clK K⟩ 2 "_law_urgent" 2 true d__law_urgent := ok__law_urgent F__law_urgent (He.glo_ok X Gn (c.fact 20 (f := .glo "_law_urgent") rfl)) B h__law_open
  have h__law_chosen : Callee P w K mg base ⟨K, clK K⟩ 6 "_law_chosen" 2 false d__law_chosen := ok__law_chosen F__law_chosen (He.glo_ok X Gn (c.fact 21 (f := .glo "_law_chosen") rfl)) B h__law_urgent h__law_blocker
  have h__law_arrived : Callee P w K mg base ⟨K, clK K⟩ 2 "_law_arrived" 3 false d__law_arrived := ok__law_arrived F__law_arrived (He.glo_ok X Gn (c.fact 22 (f := .glo "_law_arrived") rfl)) B h__law_allows h__law_open
  have h__law_states : Callee P w K mg base ⟨K, clK K⟩ 1 "_law_states" 3 false d__law_states := ok__law_states F__law_states (He.glo_ok X Gn (c.fact 23 (f := .glo "_law_states") rfl)) B 
  have h__law_start : Callee P w K mg base ⟨K, clK K⟩ 1 "_law_start" 1 false d__law_start := ok__law_start F__law_start (He.glo_ok X Gn (c.fact 24 (f := .glo "_law_start") rfl)) B 
  have h__law_may_ask : Callee P w K mg base ⟨K, clK K⟩ 1 "_law_may_ask" 2 false d__law_may_ask := ok__law_may_ask F__law_may_ask (He.glo_ok X Gn (c.fact 25 (f := .glo "_law_may_ask") rfl)) B 
  have h__law_after : Callee P w K mg base ⟨K, clK K⟩ 3 "_law_after" 3 false d__law_after := ok__law_after F__law_after (He.glo_ok X Gn (c.fact 26 (f := .glo "_law_after") rfl)) B h__law_arrived h__law_cap h__law_states
  have h__law_any_row : Callee P w K mg base ⟨K, clK K⟩ 7 "_law_any_row" 4 false d__law_any_row := ok__law_any_row F__law_any_row (He.glo_ok X Gn (c.fact 27 (f := .glo "_law_any_row") rfl)) B h__law_arrived h__law_open h__law_blocked h__law_chosen h__law_may_ask
  have h__law_lock_task : Callee P w K mg base ⟨K, clK K⟩ 1 "_law_lock_task" 2 false d__law_lock_task := ok__law_lock_task F__law_lock_task (He.glo_ok X Gn (c.fact 28 (f := .glo "_law_lock_task") rfl)) B 
  have h__law_is_number : Callee P w K mg base ⟨K, clK K⟩ 1 "_law_is_number" 2 false d__law_is_number := ok__law_is_number F__law_is_number (He.glo_ok X Gn (c.fact 29 (f := .glo "_law_is_number") rfl)) B 
  exact ok_law F_law (He.glo_ok X Gn (c.fact 30 (f := .glo "law") rfl)) B h__law_draws h__law_lock_task h__law_core h__law_choice C_Core h__law_start h__law_is_number h_Choice_blocker h__law_blocker hc_Choice h__law_chosen h__law_any_row h__law_arrived h_Core_chosen h__law_after
end Pf
namespace Pf
open M PySem L2
local macro_rules
  | `(tactic| simp? only [$ls,*]) => `(tactic| (try simp only [↓k_guard, k_no, k_I, k_S, k_B, k_N, k_G, k_Y, k_V, k_W, k_O, g0_z, g0_s, gA_z, gA_s, g1_z, g1_s, k_1, k_2, k_n, k_c, k_T, k_L, k_C, k_f1, k_f2, k_App, k_M, k_P, k_3, k_tB, k_tT, k_toB, k_tNo, k_tA, k_tO, k_tY, k_And, k_Or, k_Not, k_eIf, k_nil, k_seq, k_set, k_own, k_drop, k_ret, k_retN, k_retO, k_if, k_fz, fz_z, fz_s, k_gN, k_gsN, k_gsC, k_gT, k_asg, k_for, k_fnil, k_fcons, k_app, oL_z, oL_s, k_par, k_run, k_runN, k_fld, oO_z, k_add, k_addL, k_sub, k_mul, k_div, k_mod, k_pow, k_neg, k_lt, k_le, k_gt, k_ge, k_eqI, k_neI, k_int, k_intB, k_abs, k_lenL, k_lenT, k_lenC, k_tru, k_tupL, k_tupT, k_items_l, k_items_t, k_rng1, k_ixL, k_ixT, k_ixC, k_fldD, ok_nox, ok_ok, ok_bind, List.set_cons_zero, List.set_cons_succ, startS, startN, List.map_cons, List.map_nil, List.cons_append, List.nil_append, List.append_nil, List.length_cons, List.length_nil, List.replicate, Nat.reduceSub, Nat.reduceAdd, Nat.reduceLeDiff, Nat.zero_add, true_and, and_true, false_implies, true_implies, implies_true, forall_const, reduceCtorEq, Bool.not_true, Bool.not_false, Bool.not_eq_true', ↓k_guardX, k_truT, k_truL, k_truI, k_eGet2, k_putA, oD_z, oD_s, k_putK, k_putS, k_putT2, k_addT, k_addLL, k_CX, k_CXK, k_MX, k_lstL, k_lstT, k_boolL, k_boolT, k_LM, k_lstE, k_hasB, k_eHas, k_itemsQ, k_lenQ, k_ixQ, k_srtQ, k_parO, k_aug, bothI_i, k_ext, ixA_l, ixA_t, ixA_c, inA_l, inA_t, inA_s, notInA_l, notInA_t, notInA_s, k_inI, k_inIT, k_ninI, k_ninIT, k_srtI, k_srtIT, k_isL, k_isT, k_isS, List.getElem?_cons_zero, List.getElem?_cons_succ, Option.some.injEq, exists_eq_left', k_Sl, k_oN, k_oS, k_toI, k_slL, k_slT, cut_map, take_mapD, drop_mapD, dec_self, decide_true, decide_false, wipeS, List.length_map, List.set_nil, sz0, sz1, sz2, sz3, sz4, sz5, sz6, sz7, sz8, sz9, $ls,*]))
local macro_rules
  | `(tactic| dsimp? only [$ls,*]) => `(tactic| (try simp only [↓k_guard, k_no, k_I, k_S, k_B, k_N, k_G, k_Y, k_V, k_W, k_O, g0_z, g0_s, gA_z, gA_s, g1_z, g1_s, k_1, k_2, k_n, k_c, k_T, k_L, k_C, k_f1, k_f2, k_App, k_M, k_P, k_3, k_tB, k_tT, k_toB, k_tNo, k_tA, k_tO, k_tY, k_And, k_Or, k_Not, k_eIf, k_nil, k_seq, k_set, k_own, k_drop, k_ret, k_retN, k_retO, k_if, k_fz, fz_z, fz_s, k_gN, k_gsN, k_gsC, k_gT, k_asg, k_for, k_fnil, k_fcons, k_app, oL_z, oL_s, k_par, k_run, k_runN, k_fld, oO_z, k_add, k_addL, k_sub, k_mul, k_div, k_mod, k_pow, k_neg, k_lt, k_le, k_gt, k_ge, k_eqI, k_neI, k_int, k_intB, k_abs, k_lenL, k_lenT, k_lenC, k_tru, k_tupL, k_tupT, k_items_l, k_items_t, k_rng1, k_ixL, k_ixT, k_ixC, k_fldD, ok_nox, ok_ok, ok_bind, List.set_cons_zero, List.set_cons_succ, startS, startN, List.map_cons, List.map_nil, List.cons_append, List.nil_append, List.append_nil, List.length_cons, List.length_nil, List.replicate, Nat.reduceSub, Nat.reduceAdd, Nat.reduceLeDiff, Nat.zero_add, true_and, and_true, false_implies, true_implies, implies_true, forall_const, reduceCtorEq, Bool.not_true, Bool.not_false, Bool.not_eq_true', $ls,*]))
set_option Elab.async false
set_option linter.all false
set_option maxRecDepth 100000
open M PySem L2
abbrev Node := List Str × Int
abbrev Edge := Int × Int × Int
def ndD (n : Node) : D := nodeD n.1 n.2
def edD (e : Edge) : D := edgeD e.1 e.2.1 e.2.2
def elt (a b : Edge) : Prop := a.1 < b.1 ∨ a.1 = b.1 ∧ a.2.1 < b.2.1
structure TaskV (ns : List Node) (es : List Edge) (st : Bool) : Prop where
  n1 : 1 ≤ ns.length
  n2 : ns.length ≤ 2
  nd : ∀ n ∈ ns, Nd n.1 n.2
  ed : ∀ e ∈ es, 0 ≤ e.1 ∧ e.1 < ns.length ∧ 0 ≤ e.2.1 ∧ e.2.1 < ns.length ∧ e.2.2 ≤ 8 ∧ ∃ n, L2.atI ns e.1 = some n ∧ n.2 ≤ e.2.2
  so : es.Pairwise elt
  le : es.length ≤ 4
  st : st = true → ns.length = 1 ∧ es.length = 1
def lawD (ns : List Node) (es : List Edge) (st : Bool) : D := .tup [.lst (ns.map ndD), .lst (es.map edD), .bl st]
def taskO (ns : List Node) (es : List Edge) (st : Bool) (caps : D) : D := .obj 4 [.tup (ns.map ndD), .tup (es.map edD), .bl st, caps]
theorem k_gv1 : gv_MOST_NODES = .int 2 := rfl
theorem k_gv2 : gv_LONGEST_PLAN = .int 4 := rfl
theorem k_gv3 : gv_LONGEST_TIME = .int 8 := rfl
theorem notin_en {e : Str} (h : e ∈ EN) : notInA (.str e) gv_ENTRIES = .ok (.bl false) := by
  simp only [EN, List.mem_cons, List.not_mem_nil, or_false] at h
  rcases h with rfl | rfl | rfl | rfl | rfl | rfl | rfl | rfl <;> kernel_rfl
theorem k_gnd {n : Node} {r : FGs} {S : M.Env} {QE : M.Env → Prop} : Ok (gT 2 r (ndD n) S) QE ↔ Ok (r [planD n.1, .int n.2] S) QE := by
  show Ok (gT 2 r (.tup [planD n.1, .int n.2]) S) QE ↔ _
  rw [k_gT]; simp
theorem k_ged {n : Edge} {r : FGs} {S : M.Env} {QE : M.Env → Prop} : Ok (gT 3 r (edD n) S) QE ↔ Ok (r [.int n.1, .int n.2.1, .int n.2.2] S) QE := by
  show Ok (gT 3 r (.tup [.int n.1, .int n.2.1, .int n.2.2]) S) QE ↔ _
  rw [k_gT]; simp
theorem k_lenP {p : List Str} {Q : D → Prop} : Ok (lenD (planD p)) Q ↔ Q (.int p.length) := by
  show Ok (lenD (.tup (p.map .str))) Q ↔ _
  rw [k_lenT, List.length_map]
theorem k_itP {p : List Str} {Q : List D → Prop} : Ok (itemsD (planD p)) Q ↔ Q (p.map .str) := ok_ok
theorem p_check_nodes {ns : List Node} (h1 : 1 ≤ ns.length) (h2 : ns.length ≤ 2) (nd : ∀ n ∈ ns, Nd n.1 n.2) : Ok (d_check_nodes [.tup (ns.map ndD)]) fun d => d = .non := by
  have hs := size_ge
  unfold d_check_nodes m_check_nodes
  rw [ok_nox, k_run]
  have c1 : decide (1 ≤ (ns.length : Int)) = true := decide_eq_true (by omega)
  have c2 : decide ((ns.length : Int) ≤ 2) = true := decide_eq_true (by omega)
  simp? only [k_gv1, List.length_map, c1, c2]
  refine for_typed ndD (fun _ S => ∃ a b, S = [(some (Sl.mk false (.tup (ns.map ndD)))), a, b, none]) ns _ ⟨none, none, rfl⟩ ?_ ?_
  · rintro done x rest S e ⟨a, b, rfl⟩
    obtain ⟨ne, le, lo, hi, en⟩ := nd x (by rw [e]; simp)
    have c3 : decide (1 ≤ (x.1.length : Int)) = true := decide_eq_true (by omega)
    have c4 : decide ((x.1.length : Int) ≤ 4) = true := decide_eq_true (by omega)
    have c5 : decide ((x.1.length : Int) ≤ x.2) = true := decide_eq_true (by omega)
    have c6 : decide (x.2 ≤ 8) = true := decide_eq_true (by omega)
    simp? only [k_gnd, k_gv2, k_gv3, k_lenP, c3, c4, c5, c6]
    refine k_lcM D.str (fun _ => .bl false) x.1 (by simp? only [k_itP]) (by omega) ?_ ?_
    · intro e he
      simp? only [wipeS]
      rw [notin_en (en e he), ok_ok]
    · simp? only [k_any]
      exact ⟨by simp, _, _, rfl⟩
  · rintro S ⟨a, b, rfl⟩
    trivial
theorem nub_len : ∀ (ks acc : List (List Int)), ks.Nodup → (∀ k ∈ ks, k ∉ acc) → (ks.foldl nubT acc).length = acc.length + ks.length
  | [], acc, _, _ => by simp
  | k :: ks, acc, h, d => by
    rw [List.nodup_cons] at h
    have hk : k ∉ acc := d k (List.mem_cons_self ..)
    rw [List.foldl_cons, nubT, if_neg hk, nub_len ks (k :: acc) h.2 fun x hx hm => by
      rcases List.mem_cons.mp hm with rfl | hm
      · exact h.1 hx
      · exact d x (List.mem_cons_of_mem _ hx) hm]
    simp only [List.length_cons]; omega
theorem asTs_map {α : Type} (f : α → List Int) : ∀ xs : List α, asTs (xs.map fun x => .tup ((f x).map .int)) = some (xs.map f)
  | [] => rfl
  | x :: xs => by
    simp only [List.map_cons, asTs, asTs_map f xs]
    have : asT (.tup ((f x).map .int)) = some (f x) := by
      simp only [asT]
      have := asI_mapf (fun i : Int => i) (f x)
      simpa using this
    simp [this]
theorem k_ixnd {n : Node} {Q : D → Prop} : Ok (ixD (ndD n) (.int 1)) Q ↔ Q (.int n.2) := ok_ok
theorem ixA_nd {n : Node} {y : D} : ixA (ndD n) y = ixD (ndD n) y := rfl
theorem elt_ne {a b : Edge} (h : elt a b) : [a.1, a.2.1] ≠ [b.1, b.2.1] := by
  intro e
  simp only [List.cons.injEq, and_true] at e
  rcases h with h | h <;> omega
theorem p_check_edges {ns : List Node} {es : List Edge} {st : Bool} (v : TaskV ns es st) : Ok (d_check_edges [.tup (ns.map ndD), .tup (es.map edD)]) fun d => d = .non := by
  have hs := size_ge
  have hle := v.le
  unfold d_check_edges m_check_edges
  rw [ok_nox, k_run]
  refine Ok.mono (P := fun z => z.1 = .nx) ?_ fun z h => by rw [h]
  refine seq_cut (fun S => ∃ a b c, S = [(some (Sl.mk false (.tup (ns.map ndD)))), (some (Sl.mk false (.tup (es.map edD)))), a, b, c]) ?_ ?_
  · simp? only []
    refine for_typed edD (fun _ S => ∃ a b c, S = [(some (Sl.mk false (.tup (ns.map ndD)))), (some (Sl.mk false (.tup (es.map edD)))), a, b, c]) es _ ⟨none, none, none, rfl⟩ ?_ ?_
    · rintro done x rest S e ⟨a, b, c, rfl⟩
      obtain ⟨u0, u1, v0, v1, g8, n, hn, hg⟩ := v.ed x (by rw [e]; simp)
      have c1 : decide (0 ≤ x.1) = true := decide_eq_true u0
      have c2 : decide (x.1 < (ns.length : Int)) = true := decide_eq_true u1
      have c3 : decide (0 ≤ x.2.1) = true := decide_eq_true v0
      have c4 : decide (x.2.1 < (ns.length : Int)) = true := decide_eq_true v1
      have c5 : decide (n.2 ≤ x.2.2) = true := decide_eq_true hg
      have c6 : decide (x.2.2 ≤ 8) = true := decide_eq_true g8
      simp? only [k_ged, List.length_map, c1, c2, c3, c4, k_gv3]
      refine ⟨ndD n, by rw [atI_map, hn]; rfl, ?_⟩
      simp? only [ixA_nd, k_ixnd, c5, c6]
      exact ⟨_, _, _, rfl⟩
    · rintro S h
      exact ⟨rfl, h⟩
  · rintro S ⟨a, b, c, rfl⟩
    simp? only [List.length_map]
    have L : lenSc (fun S => (eV 1) S >>= itemsD) (gT 3 (gsC (gN 2) (gsC (gN 3) (gsC (gN 4) gsN)))) tY (eT (aC (eV 2) (aC (eV 3) aN))) [2, 3, 4] [(some (Sl.mk false (.tup (ns.map ndD)))), (some (Sl.mk false (.tup (es.map edD)))), a, b, c] = .ok (.int es.length) := by
      have e1 : lcF (gT 3 (gsC (gN 2) (gsC (gN 3) (gsC (gN 4) gsN)))) tY (eT (aC (eV 2) (aC (eV 3) aN))) (wipeS [(some (Sl.mk false (.tup (ns.map ndD)))), (some (Sl.mk false (.tup (es.map edD)))), a, b, c] [2, 3, 4]) (es.map edD) = .ok (es.map fun e => .tup ([e.1, e.2.1].map .int)) := by
        have := lc_typed (ga := gT 3 (gsC (gN 2) (gsC (gN 3) (gsC (gN 4) gsN)))) (t := tY) (fe := eT (aC (eV 2) (aC (eV 3) aN))) (S := wipeS [(some (Sl.mk false (.tup (ns.map ndD)))), (some (Sl.mk false (.tup (es.map edD)))), a, b, c] [2, 3, 4]) edD (fun _ => true) (fun e => .tup ([e.1, e.2.1].map .int)) es (fun x hx => by
          simp? only [k_ged, wipeS])
        rwa [filter_true fun _ _ => rfl] at this
      unfold lenSc
      show (if (es.map edD).length < 60 then _ else _) = _
      rw [if_pos (by rw [List.length_map]; omega), e1, R.ok_bind, asTs_map]
      show R.ok (D.int (nub (es.map fun e => [e.1, e.2.1])).length) = _
      unfold nub
      rw [nub_len _ [] ?_ (by simp)]
      · simp
      · rw [List.Nodup, List.pairwise_map]
        exact v.so.imp fun h => elt_ne h
    rw [L, ok_ok]
    simp? only []
    simp
set_option Elab.async false
set_option linter.all false
set_option maxRecDepth 100000
open M PySem L2
theorem dlt_ed {a b : Edge} (h : elt a b) : dlt (edD b) (edD a) = false := by
  unfold dlt edD edgeD
  simp only [D.toP, D.toPs, PySem.W.dataLt, PySem.W.keyToks, PySem.W.keyToksAll, List.cons_append, List.nil_append]
  rw [PyProof.Rows.lex_self]
  rcases h with h | ⟨h1, h2⟩
  · rw [PyProof.Rows.lex_diff (by intro e; injection e; omega)]
    exact decide_eq_false (by omega)
  · rw [h1, PyProof.Rows.lex_self, PyProof.Rows.lex_self, PyProof.Rows.lex_diff (by intro e; injection e; omega)]
    exact decide_eq_false (by omega)
theorem srt_ed {es : List Edge} (h : es.Pairwise elt) : srt (es.map edD) = es.map edD := by
  unfold srt
  refine List.mergeSort_of_pairwise ?_
  rw [List.pairwise_map]
  exact h.imp fun h => by unfold dle; rw [dlt_ed h]; rfl
theorem doks_ed : ∀ (es : List Edge), doks 59 (es.map edD) = true
  | [] => by simp [doks]
  | e :: es => by simp [doks, dok, edD, edgeD, doks_ed es]
theorem srtOk_ed (es : List Edge) : srtOk (es.map edD) = true := by
  unfold srtOk
  rw [doks_ed]
  simp [List.all_eq_true, edD, edgeD, alikeD, alikeDs, srtItem]
theorem k_srt {es : List Edge} (h : es.Pairwise elt) {Q : D → Prop} : Ok (srtAD (.lst (es.map edD))) Q ↔ Q (.lst (es.map edD)) := by
  have e : srtAD (.lst (es.map edD)) = .ok (.lst (es.map edD)) := by
    simp only [srtAD, srtOk_ed, if_true, srt_ed h]
  rw [e, ok_ok]
def enumP (n : Nat) : List Node → List (Nat × Node)
  | [] => []
  | x :: xs => (n, x) :: enumP (n + 1) xs
theorem enum_ns : ∀ (n : Nat) (ns : List Node), enumAt n (ns.map ndD) = (enumP n ns).map fun q => .tup [.int q.1, ndD q.2]
  | n, [] => rfl
  | n, x :: xs => by simp only [List.map_cons, enumAt, enumP, enum_ns (n + 1) xs]
theorem enumP_len : ∀ (n : Nat) (ns : List Node), (enumP n ns).length = ns.length
  | n, [] => rfl
  | n, x :: xs => by simp only [enumP, List.length_cons, enumP_len (n + 1) xs]
def capOf (es : List Edge) (q : Nat × Node) : Int := maxL (q.2.2 :: (es.filter fun e => decide (e.1 = (q.1 : Int))).map (·.2.2))
def capsOf (ns : List Node) (es : List Edge) : List Int := (enumP 0 ns).map (capOf es)
theorem p_Task {ns : List Node} {es : List Edge} {st : Bool} (v : TaskV ns es st) : Ok (d_Task [.lst (ns.map ndD), .lst (es.map edD), .bl st]) fun d => d = taskO ns es st (.tup ((capsOf ns es).map .int)) := by
  have hs := size_ge
  have hle := v.le
  have hn2 := v.n2
  unfold d_Task m_Task
  rw [ok_nox, k_runN]
  refine Ok.mono (P := fun z => z.1 = .nx ∧ ∃ S, z.2 = (some (Sl.mk true (taskO ns es st (.tup ((capsOf ns es).map .int))))) :: S) ?_ fun z ⟨h, S, hz⟩ => by rw [h, hz]; rfl
  refine seq_cut (fun S => S = [(some (Sl.mk true (.obj 4 [.tup (ns.map ndD)]))), (some (Sl.mk false (.lst (ns.map ndD)))), (some (Sl.mk false (.lst (es.map edD)))), (some (Sl.mk false (.bl st))), none, none, none, none, none, none, none]) ?_ ?_
  · simp? only []
    refine k_lcM ndD ndD ns (by simp? only []) (by omega) ?_ ?_
    · intro x hx
      simp? only [k_gnd, wipeS, planD]
      first | trivial | rfl | exact ⟨by omega, rfl⟩
    · simp? only []
  rintro S rfl
  refine seq_cut (fun S => S = [(some (Sl.mk true (.obj 4 [.tup (ns.map ndD), .tup (es.map edD)]))), (some (Sl.mk false (.lst (ns.map ndD)))), (some (Sl.mk false (.lst (es.map edD)))), (some (Sl.mk false (.bl st))), none, none, none, none, none, none, none]) ?_ ?_
  · simp? only []
    refine k_lcM edD edD es (by simp? only []) (by omega) ?_ ?_
    · intro x hx
      simp? only [wipeS]
      exact ok_ok.mpr rfl
    · simp? only [k_srt v.so]
  rintro S rfl
  refine seq_cut (fun S => S = [(some (Sl.mk true (.obj 4 [.tup (ns.map ndD), .tup (es.map edD), .bl st]))), (some (Sl.mk false (.lst (ns.map ndD)))), (some (Sl.mk false (.lst (es.map edD)))), (some (Sl.mk false (.bl st))), none, none, none, none, none, none, none]) (by simp? only []) ?_
  rintro S rfl
  refine seq_cut (fun S => S = [(some (Sl.mk true (.obj 4 [.tup (ns.map ndD), .tup (es.map edD), .bl st]))), (some (Sl.mk false (.lst (ns.map ndD)))), (some (Sl.mk false (.lst (es.map edD)))), (some (Sl.mk false (.bl st))), none, none, none, none, none, none, none]) ?_ ?_
  · simp? only []
    refine (p_check_nodes v.n1 v.n2 v.nd).mono fun d h => trivial
  rintro S rfl
  refine seq_cut (fun S => S = [(some (Sl.mk true (.obj 4 [.tup (ns.map ndD), .tup (es.map edD), .bl st]))), (some (Sl.mk false (.lst (ns.map ndD)))), (some (Sl.mk false (.lst (es.map edD)))), (some (Sl.mk false (.bl st))), none, none, none, none, none, none, none]) ?_ ?_
  · simp? only []
    refine (p_check_edges v).mono fun d h => trivial
  rintro S rfl
  refine seq_cut (fun S => S = [(some (Sl.mk true (.obj 4 [.tup (ns.map ndD), .tup (es.map edD), .bl st]))), (some (Sl.mk false (.lst (ns.map ndD)))), (some (Sl.mk false (.lst (es.map edD)))), (some (Sl.mk false (.bl st))), none, none, none, none, none, none, none]) ?_ ?_
  · simp? only []
    refine fun h => ?_
    obtain ⟨q1, q2⟩ := v.st h
    simp [q1, q2]
  rintro S rfl
  simp? only []
  refine k_lcM (fun q : Nat × Node => .tup [.int q.1, ndD q.2]) (fun q => .int (capOf es q)) (enumP 0 ns) ?_ (by rw [enumP_len]; omega) ?_ ?_
  · simp? only []
    refine ⟨_, rfl, ?_⟩
    exact enum_ns 0 ns
  · intro q hq
    simp? only [wipeS, k_gnd]
    refine k_lcT edD (fun e => decide (e.1 = (q.1 : Int))) (fun e => .int e.2.2) es ?_ (by omega) ?_ ?_
    · simp? only []
    · intro x hx
      simp? only [k_ged, wipeS]
    · simp? only [List.length_map]
      have hf : (es.filter fun e => decide (e.1 = (q.1 : Int))).length ≤ es.length := List.length_filter_le ..
      refine ⟨by omega, ?_⟩
      rw [k_maxc]
      rfl
  · simp? only []
    unfold taskO capsOf
    rw [List.map_map]
    exact ⟨_, rfl⟩
set_option Elab.async false
set_option linter.all false
set_option maxRecDepth 100000
open M PySem L2
abbrev Sts := Int × Int × Int × Int
def stD (s : Sts) : D := .tup [.int s.1, .int s.2.1, .int s.2.2.1, .int s.2.2.2]
def nodeAt (ns : List Node) (i : Int) : Node := (L2.atI ns i).getD ([], 0)
theorem nodeAt_ok {ns : List Node} {i : Int} (h0 : 0 ≤ i) (h1 : i < ns.length) : L2.atI ns i = some (nodeAt ns i) := by
  obtain ⟨n, hn⟩ := atI_lt (xs := ns) h0 h1
  rw [nodeAt, hn]; rfl
theorem nodeAt_D {ns : List Node} {i : Int} (h0 : 0 ≤ i) (h1 : i < ns.length) : L2.atI (ns.map ndD) i = some (ndD (nodeAt ns i)) := by
  rw [atI_map, nodeAt_ok h0 h1]; rfl
theorem k_st0 {s : Sts} {Q : D → Prop} : Ok (ixA (stD s) (.int 0)) Q ↔ Q (.int s.1) := ok_ok
theorem k_st1 {s : Sts} {Q : D → Prop} : Ok (ixA (stD s) (.int 1)) Q ↔ Q (.int s.2.1) := ok_ok
theorem k_st2 {s : Sts} {Q : D → Prop} : Ok (ixA (stD s) (.int 2)) Q ↔ Q (.int s.2.2.1) := ok_ok
theorem k_st3 {s : Sts} {Q : D → Prop} : Ok (ixA (stD s) (.int 3)) Q ↔ Q (.int s.2.2.2) := ok_ok
theorem k_gst {s : Sts} {r : FGs} {S : M.Env} {QE : M.Env → Prop} : Ok (gT 4 r (stD s) S) QE ↔ Ok (r [.int s.1, .int s.2.1, .int s.2.2.1, .int s.2.2.2] S) QE := by
  show Ok (gT 4 r (.tup [.int s.1, .int s.2.1, .int s.2.2.1, .int s.2.2.2]) S) QE ↔ _
  rw [k_gT]; simp
theorem k_law_nd0 {n : Node} {Q : D → Prop} : Ok (ixA (ndD n) (.int 0)) Q ↔ Q (planD n.1) := ok_ok
theorem k_law_nd1 {n : Node} {Q : D → Prop} : Ok (ixA (ndD n) (.int 1)) Q ↔ Q (.int n.2) := ok_ok
abbrev Tk := List Node × List Edge × Bool
def TkOk (t : Tk) : Prop := TaskV t.1 t.2.1 t.2.2
def tkL (t : Tk) : D := lawD t.1 t.2.1 t.2.2
def tkO (t : Tk) : D := taskO t.1 t.2.1 t.2.2 (.tup ((capsOf t.1 t.2.1).map .int))
def tAt (ts : List Tk) (i : Nat) : Tk := ts.getD i ([], [], false)
theorem rngL_0 (n : Nat) : rngL 0 n = (List.range n).map fun (i : Nat) => .int (i : Int) := by
  unfold rngL
  exact List.map_congr_left fun i _ => by rw [Int.zero_add]
theorem enum_gen {α : Type} (f : α → D) (d0 : α) : ∀ (k : Nat) (xs : List α), enumAt k (xs.map f) = (List.range xs.length).map fun (i : Nat) => .tup [.int ((k + i : Nat) : Int), f (xs.getD i d0)]
  | k, [] => rfl
  | k, x :: xs => by
    rw [List.map_cons, enumAt, enum_gen f d0 (k + 1) xs, List.length_cons, List.range_succ_eq_map, List.map_cons, List.map_map]
    congr 1
    refine List.map_congr_left fun i _ => ?_
    show D.tup [.int ((k + 1 + i : Nat) : Int), f (xs.getD i d0)] = D.tup [.int ((k + (i + 1) : Nat) : Int), f ((x :: xs).getD (i + 1) d0)]
    rw [show k + 1 + i = k + (i + 1) by omega]; rfl
theorem enum_tk (f : Tk → D) (ts : List Tk) : enumAt 0 (ts.map f) = (List.range ts.length).map fun (i : Nat) => .tup [.int (i : Int), f (tAt ts i)] := by
  rw [enum_gen f ([], [], false) 0 ts]
  exact List.map_congr_left fun i _ => by rw [Nat.zero_add]; rfl
theorem tAt_ok {ts : List Tk} {i : Nat} (h : i < ts.length) : ts[i]? = some (tAt ts i) := by
  unfold tAt
  rw [List.getD_eq_getElem?_getD, List.getElem?_eq_getElem h]; rfl
theorem tAt_mem {ts : List Tk} {i : Nat} (h : i < ts.length) : tAt ts i ∈ ts := List.mem_of_getElem? (tAt_ok h)
theorem atI_nat {α : Type} {xs : List α} {i : Nat} : L2.atI xs (i : Int) = xs[i]? := by
  unfold L2.atI ixN
  rw [if_pos (by omega)]
  by_cases h : i < xs.length
  · rw [if_pos (by omega)]; simp
  · rw [if_neg (by omega)]; exact (List.getElem?_eq_none (by omega)).symm
theorem tAt_D {ts : List Tk} (f : Tk → D) {i : Nat} (h : i < ts.length) : L2.atI (ts.map f) (i : Int) = some (f (tAt ts i)) := by
  rw [atI_nat, List.getElem?_map, tAt_ok h]; rfl
theorem k_eqC {a b : Str} {v : Bool} (h : eqD (.str a) (.str b) = .ok (.bl v)) {Q : D → Prop} : Ok (eqD (.str a) (.str b)) Q ↔ Q (.bl v) := ok_eq h
theorem q_first_first {Q : D → Prop} : Ok (eqD (.str "first") (.str "first")) Q ↔ Q (.bl true) := k_eqC (by kernel_rfl)
theorem q_first_last {Q : D → Prop} : Ok (eqD (.str "first") (.str "last")) Q ↔ Q (.bl false) := k_eqC (by kernel_rfl)
theorem q_first_dues {Q : D → Prop} : Ok (eqD (.str "first") (.str "dues")) Q ↔ Q (.bl false) := k_eqC (by kernel_rfl)
theorem q_last_first {Q : D → Prop} : Ok (eqD (.str "last") (.str "first")) Q ↔ Q (.bl false) := k_eqC (by kernel_rfl)
theorem q_last_last {Q : D → Prop} : Ok (eqD (.str "last") (.str "last")) Q ↔ Q (.bl true) := k_eqC (by kernel_rfl)
theorem q_last_dues {Q : D → Prop} : Ok (eqD (.str "last") (.str "dues")) Q ↔ Q (.bl false) := k_eqC (by kernel_rfl)
theorem q_dues_first {Q : D → Prop} : Ok (eqD (.str "dues") (.str "first")) Q ↔ Q (.bl false) := k_eqC (by kernel_rfl)
theorem q_dues_last {Q : D → Prop} : Ok (eqD (.str "dues") (.str "last")) Q ↔ Q (.bl false) := k_eqC (by kernel_rfl)
theorem q_dues_dues {Q : D → Prop} : Ok (eqD (.str "dues") (.str "dues")) Q ↔ Q (.bl true) := k_eqC (by kernel_rfl)
theorem q_cut {Q : D → Prop} : Ok (eqD (.str "cut") (.str "after")) Q ↔ Q (.bl false) := k_eqC (by kernel_rfl)
theorem q_after {Q : D → Prop} : Ok (eqD (.str "after") (.str "after")) Q ↔ Q (.bl true) := k_eqC (by kernel_rfl)
theorem q_trust {Q : D → Prop} : Ok (eqD (.str "trust") (.str "after")) Q ↔ Q (.bl false) := k_eqC (by kernel_rfl)
theorem k_minM {α : Type} (f : α → Int) {xs : List α} (hn : xs ≠ []) {Q : D → Prop} : Ok (minD (.lst (xs.map fun x => .int (f x)))) Q ↔ Q (.int (minL (xs.map f))) := by
  have e : minD (.lst (xs.map fun x => .int (f x))) = .ok (.int (minL (xs.map f))) := by
    cases xs with
    | nil => exact absurd rfl hn
    | cons x r => unfold minD; simp only [asI_mapf]; rfl
  rw [e, ok_ok]
theorem k_isI1 {i : Int} {Q : D → Prop} : Ok (isiD (.int i) (.ty "int")) Q ↔ Q (.bl true) := by
  rw [show isiD (.int i) (.ty "int") = .ok (.bl true) by kernel_rfl, ok_ok]
theorem k_isI2 {i : Int} {Q : D → Prop} : Ok (isiD (.int i) (.ty "bool")) Q ↔ Q (.bl false) := by
  rw [show isiD (.int i) (.ty "bool") = .ok (.bl false) by kernel_rfl, ok_ok]
def least (t : Tk) : Int := minL (t.1.map (·.2))
def p2 (q : Int × Nat) : D := .tup [.int q.1, .int (q.2 : Int)]
def prs (ts : List Tk) : List (Int × Nat) := (List.range ts.length).map fun i => (least (tAt ts i), i)
theorem doks_p2 (n : Nat) (l : List (Int × Nat)) : doks (n + 1) (l.map p2) = true := doks_map _ _ _ fun x _ => by cases n <;> simp [p2, dok, doks]
theorem srtOk_p2 (l : List (Int × Nat)) : srtOk (l.map p2) = true := by
  unfold srtOk
  rw [doks_p2]
  simp [List.all_eq_true, p2, alikeD, alikeDs, srtItem]
theorem srt_p2 (ts : List Tk) : ∃ p : List (Int × Nat), srtAD (.lst ((prs ts).map p2)) = .ok (.lst (p.map p2)) ∧ (p.map (·.2)).Perm (List.range ts.length) := by
  refine ⟨(prs ts).mergeSort fun a b => dle (p2 a) (p2 b), ?_, ?_⟩
  · simp only [srtAD, srtOk_p2, if_true, srt_map]
  · have h := (List.mergeSort_perm (prs ts) fun a b => dle (p2 a) (p2 b)).map (·.2)
    have e : (prs ts).map (·.2) = List.range ts.length := by
      unfold prs
      rw [List.map_map]
      exact List.map_id _
    rwa [e] at h
theorem enum_seq {b : Bool} {xs : List D} {Q : List D → Prop} : Ok (enumerateF [seqD b xs]) Q ↔ Q (enumAt 0 xs) := by cases b <;> exact ok_ok
theorem perms3 {p : List (Int × Nat)} {n : Nat} (h1 : 1 ≤ n) (h3 : n ≤ 3) (h : (p.map (·.2)).Perm (List.range n)) : (∃ a, p = [(a, 0)] ∧ n = 1) ∨ (∃ a b, (p = [(a, 0), (b, 1)] ∨ p = [(a, 1), (b, 0)]) ∧ n = 2) ∨ (∃ a b c, (p = [(a, 0), (b, 1), (c, 2)] ∨ p = [(a, 0), (b, 2), (c, 1)] ∨ p = [(a, 1), (b, 0), (c, 2)] ∨ p = [(a, 1), (b, 2), (c, 0)] ∨ p = [(a, 2), (b, 0), (c, 1)] ∨ p = [(a, 2), (b, 1), (c, 0)]) ∧ n = 3) := by
  have hl := h.length_eq
  rw [List.length_map, List.length_range] at hl
  have hnd : (p.map (·.2)).Nodup := h.nodup_iff.mpr List.nodup_range
  have hm : ∀ x ∈ p, x.2 < n := fun x hx => List.mem_range.mp (h.mem_iff.mp (List.mem_map_of_mem hx))
  obtain rfl | rfl | rfl : n = 1 ∨ n = 2 ∨ n = 3 := by omega
  · match p, hl with
    | [(a, i)], _ =>
      have := hm (a, i) (by simp)
      obtain rfl : i = 0 := by dsimp only at this; omega
      exact .inl ⟨a, rfl, rfl⟩
  · match p, hl with
    | [(a, i), (b, j)], _ =>
      have h1 := hm (a, i) (by simp)
      have h2 := hm (b, j) (by simp)
      have h3 : i ≠ j := by simpa using hnd
      dsimp only at h1 h2
      refine .inr (.inl ⟨a, b, ?_, rfl⟩)
      obtain ⟨rfl, rfl⟩ | ⟨rfl, rfl⟩ : (i = 0 ∧ j = 1) ∨ (i = 1 ∧ j = 0) := by omega
      all_goals simp
  · match p, hl with
    | [(a, i), (b, j), (c, k)], _ =>
      have h1 := hm (a, i) (by simp)
      have h2 := hm (b, j) (by simp)
      have h3 := hm (c, k) (by simp)
      have h4 : (¬ i = j ∧ ¬ i = k) ∧ ¬ j = k := by simpa using hnd
      dsimp only at h1 h2 h3
      refine .inr (.inr ⟨a, b, c, ?_, rfl⟩)
      obtain ⟨rfl, rfl, rfl⟩ | ⟨rfl, rfl, rfl⟩ | ⟨rfl, rfl, rfl⟩ | ⟨rfl, rfl, rfl⟩ | ⟨rfl, rfl, rfl⟩ | ⟨rfl, rfl, rfl⟩ : (i = 0 ∧ j = 1 ∧ k = 2) ∨ (i = 0 ∧ j = 2 ∧ k = 1) ∨ (i = 1 ∧ j = 0 ∧ k = 2) ∨ (i = 1 ∧ j = 2 ∧ k = 0) ∨ (i = 2 ∧ j = 0 ∧ k = 1) ∨ (i = 2 ∧ j = 1 ∧ k = 0) := by omega
      all_goals simp
def chO (w : Str) (r : D) : D := .obj 5 [.str w, r]
theorem k_ch0 {w : Str} {r : D} {Q : D → Prop} : Ok (fldD 5 0 (chO w r)) Q ↔ Q (.str w) := ok_ok
theorem k_ch1 {w : Str} {r : D} {Q : D → Prop} : Ok (fldD 5 1 (chO w r)) Q ↔ Q r := ok_ok
def rgN (n : Nat) : List Int := (List.range n).map fun (i : Nat) => (i : Int)
theorem rgD_N (n : Nat) : rgD 0 (n : Int) = (rgN n).map .int := by
  unfold rgD rgN
  rw [List.map_map, show ((n : Int) - 0).toNat = n by omega]
  refine List.map_congr_left fun i _ => ?_
  rw [Int.zero_add]; rfl
theorem k_lstRgN {n : Nat} (h : n ≤ 1000) {Q : D → Prop} {f : FE} {S : M.Env} (hf : Ok (f S) fun d => d = .int n) (q : Q (.lst ((rgN n).map .int))) : Ok (eLstRg (rg1 f) S) Q := by
  obtain ⟨d, e, rfl⟩ := hf
  unfold eLstRg rg1
  rw [e, R.ok_bind, R.ok_bind]
  dsimp only
  rw [if_pos (by refine ⟨?_, ?_, ?_, ?_, ?_⟩ <;> omega), ok_ok, rgD_N]
  exact q
theorem k_tupRgN {n : Nat} (h : n ≤ 1000) {Q : D → Prop} {f : FE} {S : M.Env} (hf : Ok (f S) fun d => d = .int n) (q : Q (.tup ((rgN n).map .int))) : Ok (eTupRg (rg1 f) S) Q := by
  obtain ⟨d, e, rfl⟩ := hf
  unfold eTupRg rg1
  rw [e, R.ok_bind, R.ok_bind]
  dsimp only
  rw [if_pos (by refine ⟨?_, ?_, ?_, ?_, ?_⟩ <;> omega), ok_ok, rgD_N]
  exact q
def rvN (n : Nat) : List Int := (List.range n).map fun (i : Nat) => (n : Int) - 1 - i
def retD (r : R (Fl × M.Env)) : R D := r >>= fun z => match z.1 with
  | .rt d => .ok d
  | _ => .fail
theorem ok_ret {r : R (Fl × M.Env)} {d : D} (h : retD r = .ok d) {QS : Fl × M.Env → Prop} (q : ∀ S, QS (.rt d, S)) : Ok r QS := by
  unfold retD at h
  cases r with
  | ok z =>
    obtain ⟨fl, S⟩ := z
    rw [R.ok_bind] at h
    cases fl with
    | rt e => cases h; exact ok_ok.mpr (q S)
    | _ => cases h
  | exc x => cases h
  | fail => cases h
def lvA : FS := (sSeq (sOwn 5 (e2 mulL (eL (aC (eI (0)) aN)) (eW 2)))
    (sSeq (sFor (fun S => (aC (eV 4) aN) S >>= enumerateF) (gT 2 (gsC (gN 6) (gsC (gT 2 (gsC (gN 7) (gsC (gN 3) gsN))) gsN))) (sSub 5 (eW 3) (eV 6)))
    (sRet (eC (f1 tupD) (aC (eW 5) aN)))))
def lvB : FS := (sRet (lcE (fun S => (aC (eW 2) aN) S >>= rng1) (gN 4) tY (eIdx (lcE (fun S => (eV 3) S >>= itemsD) (gN 6) tY (e2 ixA (eW 6) (eI (1))) [6]) (eW 4)) [4]))
def envA (x y : Option Sl) (n : Int) (p : List (Int × Nat)) : M.Env := [x, y, (some (Sl.mk false (.int n))), none, (some (Sl.mk false (.lst (p.map p2)))), none, none, none, none, none, none]
def envB (x y : Option Sl) (n : Int) (p : List (Int × Nat)) : M.Env := [x, y, (some (Sl.mk false (.int n))), (some (Sl.mk false (.lst (p.map p2)))), none, none, none]
theorem lv_dues {p : List (Int × Nat)} {n : Nat} (h1 : 1 ≤ n) (h3 : n ≤ 3) (h : (p.map (·.2)).Perm (List.range n)) : ∃ L : List Int, L.length = n ∧ (∀ z ∈ L, 0 ≤ z ∧ z < 3) ∧ (∀ x y, retD (lvA (envA x y n p)) = .ok (.tup (L.map .int))) ∧ ∀ x y, retD (lvB (envB x y n p)) = .ok (.lst (L.map .int)) := by
  rcases perms3 h1 h3 h with ⟨a, rfl, rfl⟩ | ⟨a, b, rfl | rfl, rfl⟩ | ⟨a, b, c, rfl | rfl | rfl | rfl | rfl | rfl, rfl⟩
  · exact ⟨[0], rfl, by decide, fun x y => by kernel_rfl, fun x y => by kernel_rfl⟩
  · exact ⟨[0, 1], rfl, by decide, fun x y => by kernel_rfl, fun x y => by kernel_rfl⟩
  · exact ⟨[1, 0], rfl, by decide, fun x y => by kernel_rfl, fun x y => by kernel_rfl⟩
  · exact ⟨[0, 1, 2], rfl, by decide, fun x y => by kernel_rfl, fun x y => by kernel_rfl⟩
  · exact ⟨[0, 2, 1], rfl, by decide, fun x y => by kernel_rfl, fun x y => by kernel_rfl⟩
  · exact ⟨[1, 0, 2], rfl, by decide, fun x y => by kernel_rfl, fun x y => by kernel_rfl⟩
  · exact ⟨[2, 0, 1], rfl, by decide, fun x y => by kernel_rfl, fun x y => by kernel_rfl⟩
  · exact ⟨[1, 2, 0], rfl, by decide, fun x y => by kernel_rfl, fun x y => by kernel_rfl⟩
  · exact ⟨[2, 1, 0], rfl, by decide, fun x y => by kernel_rfl, fun x y => by kernel_rfl⟩
def ordW (w : Str) : Prop := w = "first" ∨ w = "last" ∨ w = "dues"
theorem k_gtk {i : Int} {d : D} {r : FGs} {S : M.Env} {QE : M.Env → Prop} : Ok (gT 2 r (.tup [.int i, d]) S) QE ↔ Ok (r [.int i, d] S) QE := by rw [k_gT]; simp
theorem k_lawt0 {t : Tk} {Q : D → Prop} : Ok (ixA (tkL t) (.int 0)) Q ↔ Q (.lst (t.1.map ndD)) := ok_ok
theorem k_tkO0 {t : Tk} {Q : D → Prop} : Ok (fldD 4 0 (tkO t)) Q ↔ Q (.tup (t.1.map ndD)) := ok_ok
theorem ne_nil {α : Type} {l : List α} (h : 1 ≤ l.length) : l ≠ [] := by rintro rfl; simp at h
set_option Elab.async false
set_option linter.all false
set_option maxRecDepth 100000
open M PySem L2
def usS (c : Nat) (s : Str) : Bool := decide (c ∈ s.cps.toList)
def usP (c : Nat) (p : List Str) : Bool := p.any (usS c)
def us (c : Nat) (t : Tk) : Bool := t.1.any fun n => usP c n.1
theorem k_inS3 {c : Nat} {z : Str} {Q : D → Prop} : Ok (inD (.str (sg c)) (.str z)) Q ↔ Q (.bl (usS c z)) := ok_ok
theorem k_lc2 {fi : FI} {ga : FG} {t : FT} {fi1 : FI} {ga1 : FG} {t1 : FT} {fe : FE} {vs vs1 : List Nat} {S : M.Env} {Q : D → Prop} : Ok (lc2E fi ga t fi1 ga1 t1 fe vs vs1 S) Q ↔ Ok (fi S) fun ds => Ok (lc2F ga t fi1 ga1 t1 fe vs vs1 (wipeS S vs) ds) fun ys => ys.length ≤ sizeLine ∧ Q (.lst ys) := by
  unfold lc2E; simp only [ok_bind, ok_if, ok_ok]
theorem len_fm {α β : Type} (f : α → List β) (m : Nat) : ∀ (xs : List α), (∀ x ∈ xs, (f x).length ≤ m) → (xs.flatMap f).length ≤ xs.length * m
  | [], _ => by simp
  | x :: xs, h => by
    have h1 := h x (by simp)
    have h2 := len_fm f m xs fun y hy => h y (by simp [hy])
    rw [List.flatMap_cons, List.length_append, List.length_cons, Nat.succ_mul]; omega
theorem p_uses {t : Tk} (ht : TkOk t) (c : Nat) : d_uses [tkO t, .str (sg c)] = .ok (.bl (us c t)) := by
  have hs := size_ge
  apply Ok.eq
  unfold d_uses m_uses
  rw [ok_nox, k_run]
  simp? only [k_lc2, k_tkO0]
  rw [lc2_typed ndD D.str (fun n => n.1) (fun _ => true) (fun _ _ => true) (fun n s => .bl (usS c s)) t.1 ?_]
  · rw [ok_ok, filter_true fun _ _ => rfl]
    have e : (t.1.flatMap fun x => (x.1.filter fun _ => true).map fun s => D.bl (usS c s)) = (t.1.flatMap fun x => x.1).map fun s => .bl (usS c s) := by
      rw [List.map_flatMap]
      congr 1
      funext x
      rw [filter_true fun _ _ => rfl]
    have l : (t.1.flatMap fun x => x.1).length ≤ 2 * 4 := by
      refine Nat.le_trans (len_fm (fun x : Node => x.1) 4 t.1 fun x hx => (ht.nd x hx).le) ?_
      have := ht.n2
      omega
    rw [e]
    refine ⟨by rw [List.length_map]; omega, ?_⟩
    simp? only [k_any]
    unfold us
    rw [List.any_flatMap]; rfl
  · intro n hn
    simp? only [k_gnd, unown]
    refine ⟨by first | rfl | trivial | simp [unown], ?_⟩
    simp? only [k_itP, k_inS3]
theorem mem_joinL (c : Nat) : ∀ l : List (List Nat), c ∈ TL.joinL [] l ↔ ∃ s ∈ l, c ∈ s
  | [] => by simp [TL.joinL]
  | [p] => by simp [TL.joinL]
  | p :: q :: r => by
    have := mem_joinL c (q :: r)
    simp only [TL.joinL, List.nil_append, List.mem_append, this]
    simp
theorem join_us (c : Nat) (p : List Str) : usS c (Txt.join "" p) = usP c p := by
  have h := TL.tl_join "" p
  have e : (Txt.join "" p).cps.toList = TL.joinL [] (p.map TL.tl) := by rw [TL.join_eq]; exact h
  unfold usS usP
  rw [e]
  rw [show (p.any (usS c)) = decide (∃ s ∈ p, c ∈ s.cps.toList) from by
    rw [Bool.eq_iff_iff, List.any_eq_true, decide_eq_true_eq]
    simp only [usS, decide_eq_true_eq]]
  refine decide_eq_decide.mpr ?_
  rw [mem_joinL]
  constructor
  · rintro ⟨s, hs, hc⟩
    obtain ⟨x, hx, rfl⟩ := List.mem_map.mp hs
    exact ⟨x, hx, hc⟩
  · rintro ⟨x, hx, hc⟩
    exact ⟨_, List.mem_map_of_mem hx, hc⟩
theorem k_joinT {p : List Str} (hl : p.length ≤ 4) (hp : ∀ s ∈ p, s.length ≤ 10) {Q : D → Prop} : Ok (joinD (.str "") (.tup (p.map .str))) Q ↔ Q (.str (Txt.join "" p)) := by
  have e : joinD (.str "") (.tup (p.map .str)) = .ok (.str (Txt.join "" p)) := by
    have hsum : ∀ q : List Str, (∀ s ∈ q, s.length ≤ 10) → (q.map (·.length)).sum ≤ 10 * q.length := by
      intro q
      induction q with
      | nil => intro _; simp
      | cons x q ih =>
        intro h
        have h1 := h x (by simp)
        have h2 := ih fun s hs => h s (by simp [hs])
        simp only [List.map_cons, List.sum_cons, List.length_cons]; omega
    have h3 := hsum p hp
    unfold joinD
    simp only [asS_map]
    rw [if_pos (by show _ + p.length * 0 ≤ _; omega)]
  rw [e, ok_ok]
theorem en_len : ∀ s ∈ EN, s.length ≤ 10 := by decide +kernel
theorem p_users {ts : List Tk} (h3 : ts.length ≤ 3) (ht : ∀ t ∈ ts, TkOk t) (c : Nat) : d__law_users [.lst (ts.map tkL), .str (sg c)] = .ok (.lst (((List.range ts.length).filter fun i => us c (tAt ts i)).map fun (i : Nat) => .int (i : Int))) := by
  have hs := size_ge
  apply Ok.eq
  unfold d__law_users m__law_users
  rw [ok_nox, k_run]
  simp? only []
  refine k_lcT (fun i : Nat => .int (i : Int)) (fun i => us c (tAt ts i)) (fun (i : Nat) => .int (i : Int)) (List.range ts.length) ?_ (by rw [List.length_range]; omega) ?_ ?_
  · simp? only []
    exact ⟨⟨by omega, by omega⟩, rngL_0 _⟩
  · intro i hi
    have hi := List.mem_range.mp hi
    have t1 := ht _ (tAt_mem hi)
    have n2 := t1.n2
    simp? only []
    refine k_lcT ndD (fun n => usP c n.1) ndD (tAt ts i).1 (by simp? only [tAt_D tkL hi, k_lawt0]) (by omega) ?_ ?_
    · intro n hn
      simp? only [k_law_nd0, k_eM1]
      refine ⟨rfl, ?_⟩
      show Ok (joinD (.str "") (.tup (n.1.map .str))) _
      rw [k_joinT (t1.nd n hn).le fun s hs => en_len s ((t1.nd n hn).en s hs)]
      simp? only [k_inS3, join_us]
    · simp? only []
      unfold us
      rw [Bool.eq_iff_iff, decide_eq_true_eq, List.any_eq_true]
      constructor
      · intro h
        obtain ⟨n, hn⟩ := List.length_pos_iff_exists_mem.mp (by omega : 0 < ((tAt ts i).1.filter fun n => usP c n.1).length)
        exact ⟨n, (List.mem_filter.mp hn).1, (List.mem_filter.mp hn).2⟩
      · rintro ⟨n, hn, hp⟩
        have := List.length_pos_of_mem (List.mem_filter (p := fun n : Node => usP c n.1).mpr ⟨hn, hp⟩)
        omega
  · rfl
set_option Elab.async false
set_option linter.all false
set_option maxRecDepth 100000
open M PySem L2
theorem en_len3 : ∀ e ∈ EN, e.cps.toList.length ≤ 3 := by decide +kernel
theorem en_ok : ∀ e ∈ EN, ∀ c ∈ e.cps.toList, c < 0x110000 := by decide +kernel
theorem k_s0 {s : Sts} {Q : D → Prop} : Ok (ixA (stD s) (.int 0)) Q ↔ Q (.int s.1) := ok_ok
theorem k_s1 {s : Sts} {Q : D → Prop} : Ok (ixA (stD s) (.int 1)) Q ↔ Q (.int s.2.1) := ok_ok
theorem k_s2 {s : Sts} {Q : D → Prop} : Ok (ixA (stD s) (.int 2)) Q ↔ Q (.int s.2.2.1) := ok_ok
theorem k_s3 {s : Sts} {Q : D → Prop} : Ok (ixA (stD s) (.int 3)) Q ↔ Q (.int s.2.2.2) := ok_ok
theorem k_t0 {ns : List Node} {es : List Edge} {st : Bool} {cp : D} {Q : D → Prop} : Ok (fldD 4 0 (taskO ns es st cp)) Q ↔ Q (.tup (ns.map ndD)) := ok_ok
theorem k_t1 {ns : List Node} {es : List Edge} {st : Bool} {cp : D} {Q : D → Prop} : Ok (fldD 4 1 (taskO ns es st cp)) Q ↔ Q (.tup (es.map edD)) := ok_ok
theorem k_l0 {ns : List Node} {es : List Edge} {st : Bool} {Q : D → Prop} : Ok (ixA (lawD ns es st) (.int 0)) Q ↔ Q (.lst (ns.map ndD)) := ok_ok
theorem k_l1 {ns : List Node} {es : List Edge} {st : Bool} {Q : D → Prop} : Ok (ixA (lawD ns es st) (.int 1)) Q ↔ Q (.lst (es.map edD)) := ok_ok
theorem k_e0 {e : Edge} {Q : D → Prop} : Ok (ixA (edD e) (.int 0)) Q ↔ Q (.int e.1) := ok_ok
theorem k_e1 {e : Edge} {Q : D → Prop} : Ok (ixA (edD e) (.int 1)) Q ↔ Q (.int e.2.1) := ok_ok
theorem k_e2 {e : Edge} {Q : D → Prop} : Ok (ixA (edD e) (.int 2)) Q ↔ Q (.int e.2.2) := ok_ok
theorem k_ixP {p : List Str} {i : Int} {Q : D → Prop} : Ok (ixA (planD p) (.int i)) Q ↔ ∃ x, L2.atI p i = some x ∧ Q (.str x) := by
  show Ok (ixD (.tup (p.map .str)) (.int i)) Q ↔ _
  rw [k_ixT, atI_map]
  constructor
  · rintro ⟨d, hd, q⟩
    obtain ⟨x, hx, rfl⟩ := Option.map_eq_some_iff.mp hd
    exact ⟨x, hx, q⟩
  · rintro ⟨x, hx, q⟩
    exact ⟨_, by rw [hx]; rfl, q⟩
theorem k_nT {ns : List Node} {v : Int} {n : Node} (h : L2.atI ns v = some n) {Q : D → Prop} : Ok (ixD (.tup (ns.map ndD)) (.int v)) Q ↔ Q (ndD n) := by
  rw [k_ixT, atI_map, h]
  exact ⟨fun ⟨d, hd, q⟩ => (by cases hd; exact q), fun q => ⟨_, rfl, q⟩⟩
theorem k_nL {ns : List Node} {v : Int} {n : Node} (h : L2.atI ns v = some n) {Q : D → Prop} : Ok (ixD (.lst (ns.map ndD)) (.int v)) Q ↔ Q (ndD n) := by
  rw [k_ixL, atI_map, h]
  exact ⟨fun ⟨d, hd, q⟩ => (by cases hd; exact q), fun q => ⟨_, rfl, q⟩⟩
inductive StV (ns : List Node) : Sts → Prop where
  | none : StV ns (-1, 0, 0, 0)
  | job (v a d o : Int) (n : Node) : L2.atI ns v = some n → 0 ≤ v → 0 ≤ d → d ≤ n.1.length → (o = 0 ∨ o = 1 ∧ d = n.1.length) → StV ns (v, a, d, o)
def lenN (ns : List Node) (v : Int) : Int := match L2.atI ns v with
  | some n => n.1.length
  | none => 0
def unfS (ns : List Node) (s : Sts) : Bool := decide (0 ≤ s.1) && (decide (s.2.2.2 = 1) || decide (s.2.2.1 < lenN ns s.1))
def alwS (ns : List Node) (es : List Edge) (s : Sts) (v : Int) : Bool := if s.1 < 0 then decide (0 ≤ v) && decide (v < ns.length) else es.any fun e => decide (e.1 = s.1) && (decide (e.2.1 = v) && decide (e.2.2 ≤ s.2.1))
def heldP (p : List Str) (d : Int) : List Nat := match L2.atI p d, L2.atI p (d - 1) with
  | some x, some y => x.cps.toList.filter fun c => decide (c ∈ y.cps.toList)
  | _, _ => []
def heldC (ns : List Node) (s : Sts) : List Nat := match L2.atI ns s.1 with
  | some n => if s.1 < 0 ∨ s.2.2.2 = 1 ∨ s.2.2.1 = 0 ∨ s.2.2.1 = n.1.length then [] else heldP n.1 s.2.2.1
  | none => []
def needC (ns : List Node) (s : Sts) : List Nat := match L2.atI ns s.1 with
  | some n => if s.1 < 0 ∨ s.2.2.2 = 1 ∨ s.2.2.1 = n.1.length then [] else match L2.atI n.1 s.2.2.1 with
    | some x => x.cps.toList.filter fun c => !decide (c ∈ heldC ns s)
    | none => []
  | none => []
theorem lenN_of {ns : List Node} {v : Int} {n : Node} (h : L2.atI ns v = some n) : lenN ns v = n.1.length := by unfold lenN; rw [h]
theorem any_filter {α : Type} (p : α → Bool) : ∀ (xs : List α), decide (0 < ((xs.filter p).length : Int)) = xs.any p
  | [] => rfl
  | x :: xs => by
    cases hp : p x with
    | true => rw [List.filter_cons_of_pos hp, List.any_cons, hp]; simp
    | false => rw [List.filter_cons_of_neg (by simp [hp]), List.any_cons, hp, any_filter p xs]; rfl
section
variable {ns : List Node} {es : List Edge} {st : Bool} (V : TaskV ns es st)
include V
theorem p_unf (cp : D) {s : Sts} (h : StV ns s) : Ok (d_Task_unfinished [taskO ns es st cp, stD s]) fun d => d = .bl (unfS ns s) := by
  unfold d_Task_unfinished m_Task_unfinished
  rw [ok_nox, k_run]
  cases h with
  | none => simp? only [k_gst, k_t0]; exact ⟨fun h => absurd h (by decide), fun _ => rfl⟩
  | job v a d o n hn hv hd hl ho =>
    simp? only [k_gst, k_t0, k_nT hn, k_law_nd0, k_lenP]
    have e : unfS ns (v, a, d, o) = (decide (0 ≤ v) && (decide (o = 1) || decide (d < n.1.length))) := by unfold unfS; rw [lenN_of hn]
    rw [e]
    cases h1 : decide (0 ≤ v) <;> cases h2 : decide (o = 1) <;> simp
theorem p_open {s : Sts} (h : StV ns s) : Ok (d__law_open [lawD ns es st, stD s]) fun d => d = .bl (unfS ns s) := by
  unfold d__law_open m__law_open
  rw [ok_nox, k_run]
  cases h with
  | none => simp? only [k_s0, k_s1, k_s2, k_s3, k_l0]; exact ⟨fun h => absurd h (by decide), fun _ => rfl⟩
  | job v a d o n hn hv hd hl ho =>
    simp? only [k_s0, k_s1, k_s2, k_s3, k_l0, k_nL hn, k_law_nd0, k_lenP]
    have e : unfS ns (v, a, d, o) = (decide (0 ≤ v) && (decide (o = 1) || decide (d < n.1.length))) := by unfold unfS; rw [lenN_of hn]
    rw [e]
    cases h1 : decide (0 ≤ v) <;> cases h2 : decide (o = 1) <;> simp
theorem p_alw (cp : D) (s : Sts) (v : Int) : Ok (d_Task_allows [taskO ns es st cp, stD s, .int v]) fun d => d = .bl (alwS ns es s v) := by
  have hs := size_ge
  have hle := V.le
  unfold d_Task_allows m_Task_allows
  rw [ok_nox, k_run]
  by_cases h0 : s.1 < 0
  · have c0 : decide (s.1 < 0) = true := decide_eq_true h0
    simp? only [k_s0, k_t0, c0, List.length_map]
    unfold alwS
    rw [if_pos h0]
    cases h1 : decide (0 ≤ v) <;> simp
  · have c0 : decide (s.1 < 0) = false := decide_eq_false h0
    simp? only [k_s0, k_t0, c0]
    refine k_lcM edD (fun e => .bl (decide (e.1 = s.1) && (decide (e.2.1 = v) && decide (e.2.2 ≤ s.2.1)))) es (by simp? only [k_t1]) (by omega) ?_ ?_
    · intro e he
      simp? only [wipeS, k_ged, k_s0, k_s1]
      cases decide (e.1 = s.1) <;> cases decide (e.2.1 = v) <;> simp
    · simp? only [k_any]
      unfold alwS
      rw [if_neg h0]
theorem p_lalw (s : Sts) (v : Int) : Ok (d__law_allows [lawD ns es st, stD s, .int v]) fun d => d = .bl (alwS ns es s v) := by
  have hs := size_ge
  have hle := V.le
  unfold d__law_allows m__law_allows
  rw [ok_nox, k_run]
  by_cases h0 : s.1 < 0
  · have c0 : decide (s.1 < 0) = true := decide_eq_true h0
    simp? only [k_s0, k_l0, c0, List.length_map]
    unfold alwS
    rw [if_pos h0]
    cases h1 : decide (0 ≤ v) <;> simp
  · have c0 : decide (s.1 < 0) = false := decide_eq_false h0
    simp? only [k_s0, k_l0, c0]
    refine k_lcT edD (fun e => decide (e.1 = s.1) && (decide (e.2.1 = v) && decide (e.2.2 ≤ s.2.1))) edD es (by simp? only [k_l1]) (by omega) ?_ ?_
    · intro e he
      simp? only [wipeS, k_s0, k_s1, k_e0, k_e1, k_e2]
      cases decide (e.1 = s.1) <;> cases decide (e.2.1 = v) <;> simp
    · simp? only [List.length_map]
      unfold alwS
      rw [if_neg h0, any_filter]
end
theorem tx_toList (cs : List Nat) : (tx cs).cps.toList = cs := rfl
theorem filt_len {α : Type} {p : α → Bool} {l : List α} {n : Nat} (h : l.length ≤ n) : (l.filter p).length ≤ n := Nat.le_trans (List.length_filter_le ..) h
section
variable {ns : List Node} {es : List Edge} {st : Bool} (V : TaskV ns es st)
include V
theorem join_lc {f : FE} {t : FT} {fi : FI} {i : Nat} {S : M.Env} {Q : D → Prop} (x : Str) (hx : x ∈ EN) (p : Nat → Bool) (hi : Ok (fi S) fun ds => ds = x.cps.toList.map fun c => .str (sg c))
    (h : ∀ c ∈ x.cps.toList, Ok (gN i (.str (sg c)) (wipeS S [i])) fun S1 => Ok (t S1) fun b => b = p c ∧ (p c = true → Ok (f S1) fun y => y = .str (sg c))) (q : Q (.str (tx (x.cps.toList.filter p)))) :
    Ok (eM1 joinD (eS "") (lcE fi (gN i) t f [i]) S) Q := by
  have hs := size_ge
  have h3 := en_len3 x hx
  rw [k_eM1, k_S]
  refine ⟨rfl, ?_⟩
  refine k_lcT (fun c => .str (sg c)) p (fun c => .str (sg c)) x.cps.toList hi (by omega) h ?_
  rw [k_join _ (Nat.le_trans (filt_len h3) (by omega))]
  exact q
theorem p_held (cp : D) {s : Sts} (h : StV ns s) : Ok (d_Task_held [taskO ns es st cp, stD s]) fun d => d = .str (tx (heldC ns s)) := by
  have hs := size_ge
  unfold d_Task_held m_Task_held
  rw [ok_nox, k_run]
  cases h with
  | none =>
    have c0 : decide ((-1 : Int) < 0) = true := by decide
    simp? only [k_gst, k_t0, c0]
    unfold heldC
    cases L2.atI ns (-1) with
    | none => rfl
    | some n => dsimp only; rw [if_pos (by left; decide)]; rfl
  | job v a d o n hn hv hd hl ho =>
    obtain ⟨n1, n4, nlo, nhi, nen⟩ := V.nd n (atI_mem hn)
    refine Ok.mono (P := fun z => z.1 = .rt (.str (tx (heldC ns (v, a, d, o))))) ?_ fun z h => by rw [h]
    refine seq_cut (fun S => S = [(some (Sl.mk false (taskO ns es st cp))), (some (Sl.mk false (stD (v, a, d, o)))), (some (Sl.mk false (.int v))), (some (Sl.mk false (.int a))), (some (Sl.mk false (.int d))), (some (Sl.mk false (.int o))), none, none]) (by simp? only [k_gst]) ?_
    rintro S rfl
    have eh : heldC ns (v, a, d, o) = if v < 0 ∨ o = 1 ∨ d = 0 ∨ d = n.1.length then [] else heldP n.1 d := by unfold heldC; rw [hn]
    rw [eh]
    by_cases hc : v < 0 ∨ o = 1 ∨ d = 0 ∨ d = n.1.length
    · rw [if_pos hc, k_seq]
      refine Ok.mono (P := fun z => z.1 = .rt (.str "")) ?_ fun z h => by rw [h]; rfl
      simp? only [k_t0, k_nT hn, k_law_nd0, k_lenP]
      intro q1 q2 q3 q4
      have := of_decide_eq_false q1
      have := of_decide_eq_false q2
      have := of_decide_eq_false q3
      have := of_decide_eq_false q4
      omega
    · rw [if_neg hc]
      have c1 : decide (v < 0) = false := decide_eq_false (by omega)
      have c2 : decide (o = 1) = false := decide_eq_false (by omega)
      have c3 : decide (d = 0) = false := decide_eq_false (by omega)
      have c4 : decide (d = (n.1.length : Int)) = false := decide_eq_false (by omega)
      refine seq_cut (fun S => S = [(some (Sl.mk false (taskO ns es st cp))), (some (Sl.mk false (stD (v, a, d, o)))), (some (Sl.mk false (.int v))), (some (Sl.mk false (.int a))), (some (Sl.mk false (.int d))), (some (Sl.mk false (.int o))), none, none]) (by simp? only [k_t0, k_nT hn, k_law_nd0, k_lenP, c1, c2, c3, c4]) ?_
      rintro S rfl
      refine seq_cut (fun S => S = [(some (Sl.mk false (taskO ns es st cp))), (some (Sl.mk false (stD (v, a, d, o)))), (some (Sl.mk false (.int v))), (some (Sl.mk false (.int a))), (some (Sl.mk false (.int d))), (some (Sl.mk false (.int o))), (some (Sl.mk false (planD n.1))), none]) (by simp? only [k_t0, k_nT hn, k_law_nd0]) ?_
      rintro S rfl
      obtain ⟨x, hx⟩ := atI_lt (xs := n.1) (i := d) hd (by omega)
      obtain ⟨y, hy⟩ := atI_lt (xs := n.1) (i := d - 1) (by omega) (by omega)
      rw [k_ret]
      refine join_lc V x (nen x (atI_mem hx)) (fun c => decide (c ∈ y.cps.toList)) ?_ ?_ ?_
      · simp? only [k_ixP]
        exact ⟨x, hx, by simp? only [k_itS]⟩
      · intro c hc
        simp? only [wipeS, k_ixP]
        exact ⟨y, hy, by simp? only [k_inS]⟩
      · unfold heldP
        rw [hx, hy]
theorem p_lheld {s : Sts} (h : StV ns s) : Ok (d__law_held [lawD ns es st, stD s]) fun d => d = .str (tx (heldC ns s)) := by
  have hs := size_ge
  unfold d__law_held m__law_held
  rw [ok_nox, k_run]
  have ho := p_open V h
  cases h with
  | none =>
    simp? only []
    refine ho.mono ?_
    rintro d rfl
    have c0 : unfS ns (-1, 0, 0, 0) = false := rfl
    simp? only [c0]
    unfold heldC
    cases L2.atI ns (-1) with
    | none => rfl
    | some n => dsimp only; rw [if_pos (by left; decide)]; rfl
  | job v a d o n hn hv hd hl ho' =>
    obtain ⟨n1, n4, nlo, nhi, nen⟩ := V.nd n (atI_mem hn)
    refine Ok.mono (P := fun z => z.1 = .rt (.str (tx (heldC ns (v, a, d, o))))) ?_ fun z h => by rw [h]
    have eh : heldC ns (v, a, d, o) = if v < 0 ∨ o = 1 ∨ d = 0 ∨ d = n.1.length then [] else heldP n.1 d := by unfold heldC; rw [hn]
    have eu : unfS ns (v, a, d, o) = (decide (0 ≤ v) && (decide (o = 1) || decide (d < n.1.length))) := by unfold unfS; rw [lenN_of hn]
    rw [eh]
    by_cases hc : v < 0 ∨ o = 1 ∨ d = 0 ∨ d = n.1.length
    · rw [if_pos hc, k_seq]
      refine Ok.mono (P := fun z => z.1 = .rt (.str "")) ?_ fun z h => by rw [h]; rfl
      simp? only []
      refine ho.mono ?_
      rintro z rfl
      simp? only [k_s3, k_s2]
      intro q1 q2 q3
      have q2 := of_decide_eq_false q2
      have q3 := of_decide_eq_false q3
      rw [eu] at q1
      have hd2 : d = n.1.length := by omega
      rw [decide_eq_false q2, decide_eq_false (show ¬ d < (n.1.length : Int) by omega)] at q1
      simp at q1
    · rw [if_neg hc]
      have cu : unfS ns (v, a, d, o) = true := by
        rw [eu, decide_eq_true (show (0 : Int) ≤ v by omega), decide_eq_true (show d < (n.1.length : Int) by omega)]; simp
      have c2 : decide (o = 1) = false := decide_eq_false (by omega)
      have c3 : decide (d = 0) = false := decide_eq_false (by omega)
      refine seq_cut (fun S => S = [(some (Sl.mk false (lawD ns es st))), (some (Sl.mk false (stD (v, a, d, o)))), none, none]) ?_ ?_
      · simp? only []
        refine ho.mono ?_
        rintro z rfl
        simp? only [k_s3, k_s2, cu, c2, c3]
      rintro S rfl
      refine seq_cut (fun S => S = [(some (Sl.mk false (lawD ns es st))), (some (Sl.mk false (stD (v, a, d, o)))), (some (Sl.mk false (planD n.1))), none]) (by simp? only [k_l0, k_s0, k_nL hn, k_law_nd0]) ?_
      rintro S rfl
      obtain ⟨x, hx⟩ := atI_lt (xs := n.1) (i := d) hd (by omega)
      obtain ⟨y, hy⟩ := atI_lt (xs := n.1) (i := d - 1) (by omega) (by omega)
      rw [k_ret]
      refine join_lc V x (nen x (atI_mem hx)) (fun c => decide (c ∈ y.cps.toList)) ?_ ?_ ?_
      · simp? only [k_s2, k_ixP]
        exact ⟨x, hx, by simp? only [k_itS]⟩
      · intro c hc
        simp? only [wipeS, k_s2, k_ixP]
        exact ⟨y, hy, by simp? only [k_inS]⟩
      · unfold heldP
        rw [hx, hy]
end
section
variable {ns : List Node} {es : List Edge} {st : Bool} (V : TaskV ns es st)
include V
omit V in
theorem isO4 (cp : D) : (taskO ns es st cp).isObj 4 = true := rfl
theorem p_need (cp : D) {s : Sts} (h : StV ns s) : Ok (d_Task_needed [taskO ns es st cp, stD s]) fun d => d = .str (tx (needC ns s)) := by
  have hs := size_ge
  unfold d_Task_needed m_Task_needed
  rw [ok_nox, k_run]
  have hh := p_held V cp h
  cases h with
  | none =>
    have c0 : decide ((-1 : Int) < 0) = true := by decide
    simp? only [k_gst, k_t0, c0]
    unfold needC
    cases L2.atI ns (-1) with
    | none => rfl
    | some n => dsimp only; rw [if_pos (by left; decide)]; rfl
  | job v a d o n hn hv hd hl ho =>
    obtain ⟨n1, n4, nlo, nhi, nen⟩ := V.nd n (atI_mem hn)
    refine Ok.mono (P := fun z => z.1 = .rt (.str (tx (needC ns (v, a, d, o))))) ?_ fun z h => by rw [h]
    refine seq_cut (fun S => S = [(some (Sl.mk false (taskO ns es st cp))), (some (Sl.mk false (stD (v, a, d, o)))), (some (Sl.mk false (.int v))), (some (Sl.mk false (.int a))), (some (Sl.mk false (.int d))), (some (Sl.mk false (.int o))), none, none]) (by simp? only [k_gst]) ?_
    rintro S rfl
    by_cases hc : v < 0 ∨ o = 1 ∨ d = n.1.length
    · have eh : needC ns (v, a, d, o) = [] := by unfold needC; rw [hn]; dsimp only; rw [if_pos hc]
      rw [eh, k_seq]
      refine Ok.mono (P := fun z => z.1 = .rt (.str "")) ?_ fun z h => by rw [h]; rfl
      simp? only [k_t0, k_nT hn, k_law_nd0, k_lenP]
      intro q1 q2 q4
      have := of_decide_eq_false q1
      have := of_decide_eq_false q2
      have := of_decide_eq_false q4
      omega
    · have c1 : decide (v < 0) = false := decide_eq_false (by omega)
      have c2 : decide (o = 1) = false := decide_eq_false (by omega)
      have c4 : decide (d = (n.1.length : Int)) = false := decide_eq_false (by omega)
      obtain ⟨x, hx⟩ := atI_lt (xs := n.1) (i := d) hd (by omega)
      have eh : needC ns (v, a, d, o) = x.cps.toList.filter fun c => !decide (c ∈ heldC ns (v, a, d, o)) := by unfold needC; rw [hn]; dsimp only; rw [if_neg hc, hx]
      rw [eh]
      refine seq_cut (fun S => S = [(some (Sl.mk false (taskO ns es st cp))), (some (Sl.mk false (stD (v, a, d, o)))), (some (Sl.mk false (.int v))), (some (Sl.mk false (.int a))), (some (Sl.mk false (.int d))), (some (Sl.mk false (.int o))), none, none]) (by simp? only [k_t0, k_nT hn, k_law_nd0, k_lenP, c1, c2, c4]) ?_
      rintro S rfl
      refine seq_cut (fun S => S = [(some (Sl.mk false (taskO ns es st cp))), (some (Sl.mk false (stD (v, a, d, o)))), (some (Sl.mk false (.int v))), (some (Sl.mk false (.int a))), (some (Sl.mk false (.int d))), (some (Sl.mk false (.int o))), (some (Sl.mk false (.str (tx (heldC ns (v, a, d, o)))))), none]) ?_ ?_
      · simp? only [isO4]
        exact hh.mono fun z hz => by rw [hz]
      rintro S rfl
      rw [k_ret]
      refine join_lc V x (nen x (atI_mem hx)) (fun c => !decide (c ∈ heldC ns (v, a, d, o))) ?_ ?_ rfl
      · simp? only [k_t0, k_nT hn, k_law_nd0, k_ixP]
        exact ⟨x, hx, by simp? only [k_itS]⟩
      · intro c hc
        simp? only [wipeS, k_notInS, tx_toList]
        exact congrArg _ (decide_eq_decide.mpr Iff.rfl)
theorem p_lneed {s : Sts} (h : StV ns s) : Ok (d__law_needed [lawD ns es st, stD s]) fun d => d = .str (tx (needC ns s)) := by
  have hs := size_ge
  unfold d__law_needed m__law_needed
  rw [ok_nox, k_run]
  have hh := p_lheld V h
  have ho := p_open V h
  cases h with
  | none =>
    simp? only []
    refine ho.mono ?_
    rintro d rfl
    have c0 : unfS ns (-1, 0, 0, 0) = false := rfl
    simp? only [c0]
    unfold needC
    cases L2.atI ns (-1) with
    | none => rfl
    | some n => dsimp only; rw [if_pos (by left; decide)]; rfl
  | job v a d o n hn hv hd hl ho' =>
    obtain ⟨n1, n4, nlo, nhi, nen⟩ := V.nd n (atI_mem hn)
    refine Ok.mono (P := fun z => z.1 = .rt (.str (tx (needC ns (v, a, d, o))))) ?_ fun z h => by rw [h]
    have eu : unfS ns (v, a, d, o) = (decide (0 ≤ v) && (decide (o = 1) || decide (d < n.1.length))) := by unfold unfS; rw [lenN_of hn]
    by_cases hc : v < 0 ∨ o = 1 ∨ d = n.1.length
    · have eh : needC ns (v, a, d, o) = [] := by unfold needC; rw [hn]; dsimp only; rw [if_pos hc]
      rw [eh, k_seq]
      refine Ok.mono (P := fun z => z.1 = .rt (.str "")) ?_ fun z h => by rw [h]; rfl
      simp? only []
      refine ho.mono ?_
      rintro z rfl
      simp? only [k_s3]
      intro q1 q2
      have q2 := of_decide_eq_false q2
      rw [eu, decide_eq_false q2, decide_eq_false (show ¬ d < (n.1.length : Int) by omega)] at q1
      simp at q1
    · have cu : unfS ns (v, a, d, o) = true := by
        rw [eu, decide_eq_true (show (0 : Int) ≤ v by omega), decide_eq_true (show d < (n.1.length : Int) by omega)]; simp
      have c2 : decide (o = 1) = false := decide_eq_false (by omega)
      obtain ⟨x, hx⟩ := atI_lt (xs := n.1) (i := d) hd (by omega)
      have eh : needC ns (v, a, d, o) = x.cps.toList.filter fun c => !decide (c ∈ heldC ns (v, a, d, o)) := by unfold needC; rw [hn]; dsimp only; rw [if_neg hc, hx]
      rw [eh]
      refine seq_cut (fun S => S = [(some (Sl.mk false (lawD ns es st))), (some (Sl.mk false (stD (v, a, d, o)))), none, none]) ?_ ?_
      · simp? only []
        refine ho.mono ?_
        rintro z rfl
        simp? only [k_s3, cu, c2]
      rintro S rfl
      refine seq_cut (fun S => S = [(some (Sl.mk false (lawD ns es st))), (some (Sl.mk false (stD (v, a, d, o)))), (some (Sl.mk false (.str (tx (heldC ns (v, a, d, o)))))), none]) ?_ ?_
      · simp? only []
        exact hh.mono fun z hz => by rw [hz]
      rintro S rfl
      rw [k_ret]
      refine join_lc V x (nen x (atI_mem hx)) (fun c => !decide (c ∈ heldC ns (v, a, d, o))) ?_ ?_ rfl
      · simp? only [k_l0, k_s0, k_s2, k_nL hn, k_law_nd0, k_ixP]
        exact ⟨x, hx, by simp? only [k_itS]⟩
      · intro c hc
        simp? only [wipeS, k_notInS, tx_toList]
        exact congrArg _ (decide_eq_decide.mpr Iff.rfl)
omit V in
theorem tx_ok {cs : List Nat} (h : ∀ c ∈ cs, c < 0x110000) : dok 60 (.str (tx cs)) = true := by
  simp only [dok]
  unfold PyData.strOk tx
  simp only [List.all_toArray, List.all_eq_true, decide_eq_true_eq]
  exact h
theorem need_ok (s : Sts) : ∀ c ∈ needC ns s, c < 0x110000 := by
  intro c hc
  unfold needC at hc
  split at hc
  · rename_i n hn
    split at hc
    · cases hc
    · split at hc
      · rename_i x hx
        exact en_ok x ((V.nd n (atI_mem hn)).en x (atI_mem hx)) c (List.mem_filter.mp hc).1
      · cases hc
  · cases hc
theorem p_lcap {v : Int} {n : Node} (hn : L2.atI ns v = some n) (h0 : 0 ≤ v) : Ok (d__law_cap [lawD ns es st, .int v]) fun d => d = .int (capOf es (v.toNat, n)) := by
  have hs := size_ge
  have hle := V.le
  unfold d__law_cap m__law_cap
  rw [ok_nox, k_run]
  simp? only [k_l0, k_nL hn, k_law_nd1]
  refine k_lcT edD (fun e => decide (e.1 = v)) (fun e => .int e.2.2) es (by simp? only [k_l1]) (by omega) ?_ ?_
  · intro e he
    simp? only [wipeS, k_e0, k_e2]
  · have hf : (es.filter fun e => decide (e.1 = v)).length ≤ es.length := List.length_filter_le ..
    simp? only [List.length_map]
    refine ⟨by omega, ?_⟩
    rw [k_maxc]
    unfold capOf
    rw [Int.toNat_of_nonneg h0]
end
set_option Elab.async false
set_option linter.all false
set_option maxRecDepth 100000
open M PySem L2
def sAt (ss : List Sts) (i : Nat) : Sts := ss.getD i (-1, 0, 0, 0)
theorem sAt_D {ss : List Sts} {i : Nat} (h : i < ss.length) : L2.atI (ss.map stD) (i : Int) = some (stD (sAt ss i)) := by
  rw [atI_nat, List.getElem?_map, List.getElem?_eq_getElem h]
  unfold sAt
  rw [List.getD_eq_getElem?_getD, List.getElem?_eq_getElem h]; rfl
def late (g : Str) (s : Sts) : Int := if g = "after" then s.2.2.2 else 0
def place (w : Str) (i : Nat) (t : Tk) (s : Sts) : Int := if w = "last" then -(i : Int) else if w = "dues" then (nodeAt t.1 s.1).2 - s.2.1 else 0
def op (ts : List Tk) (ss : List Sts) (i : Nat) : Bool := unfS (tAt ts i).1 (sAt ss i)
def row (w g : Str) (ts : List Tk) (ss : List Sts) (i : Nat) : T3 := (late g (sAt ss i), place w i (tAt ts i) (sAt ss i), (i : Int))
def rows (w g : Str) (ts : List Tk) (ss : List Sts) (l : List Nat) : List T3 := (l.filter (op ts ss)).map (row w g ts ss)
theorem rows_snoc (w g : Str) (ts : List Tk) (ss : List Sts) (l : List Nat) (i : Nat) : rows w g ts ss (l ++ [i]) = rows w g ts ss l ++ if op ts ss i then [row w g ts ss i] else [] := by
  unfold rows
  rw [List.filter_append, List.map_append]
  congr 1
  by_cases h : op ts ss i = true
  · rw [if_pos h, List.filter_cons_of_pos h]; rfl
  · rw [if_neg h, List.filter_cons_of_neg h]; rfl
def urg (w g : Str) (ts : List Tk) (ss : List Sts) : List Int := ((rows w g ts ss (List.range ts.length)).mergeSort tle).map (·.2.2)
def grdW (g : Str) : Prop := g = "cut" ∨ g = "after" ∨ g = "trust"
theorem s_fl : (("first" : Str) = "last") = False := eq_false (by decide +kernel)
theorem s_fd : (("first" : Str) = "dues") = False := eq_false (by decide +kernel)
theorem s_dl : (("dues" : Str) = "last") = False := eq_false (by decide +kernel)
theorem s_ca : (("cut" : Str) = "after") = False := eq_false (by decide +kernel)
theorem s_ta : (("trust" : Str) = "after") = False := eq_false (by decide +kernel)
theorem rows_len (w g : Str) (ts : List Tk) (ss : List Sts) (l : List Nat) : (rows w g ts ss l).length ≤ l.length := by
  unfold rows; rw [List.length_map]; exact List.length_filter_le ..
structure St3 (ts : List Tk) (ss : List Sts) : Prop where
  len : ss.length = ts.length
  ok : ∀ i, i < ts.length → StV (tAt ts i).1 (sAt ss i)
theorem StV.node {ns : List Node} {s : Sts} (h : StV ns s) (h0 : 0 ≤ s.1) : s.1 < ns.length := by
  cases h with
  | none => exact absurd h0 (by decide)
  | job v a d o n hn hv hd hl ho =>
    show v < _
    unfold L2.atI ixN at hn
    rw [if_pos hv] at hn
    by_cases hh : v < ns.length
    · exact hh
    · rw [if_neg (by omega)] at hn; cases hn
theorem node_of {ts : List Tk} {ss : List Sts} (h : St3 ts ss) {i : Nat} (hi : i < ts.length) (ho : op ts ss i = true) : 0 ≤ (sAt ss i).1 ∧ (sAt ss i).1 < (tAt ts i).1.length := by
  have h1 := h.ok i hi
  unfold op unfS at ho
  simp only [Bool.and_eq_true, decide_eq_true_eq] at ho
  exact ⟨ho.1, h1.node ho.1⟩
theorem p_urgent {w g : Str} {ts : List Tk} {ss : List Sts} {r : D} (a b : Bool) (hw : ordW w) (hg : grdW g) (h3 : ts.length ≤ 3) (ht : ∀ t ∈ ts, TkOk t) (hs3 : St3 ts ss) : d_Choice_urgent [chO w r, seqD a (ts.map tkO), seqD b (ss.map stD), .str g] = .ok (.lst ((urg w g ts ss).map .int)) := by
  have hs := size_ge
  apply Ok.eq
  unfold d_Choice_urgent m_Choice_urgent
  rw [ok_nox, k_run]
  refine seq_cut (fun S => S = [(some (Sl.mk false (chO w r))), (some (Sl.mk false (seqD a (ts.map tkO)))), (some (Sl.mk false (seqD b (ss.map stD)))), (some (Sl.mk false (.str g))), (some (Sl.mk true (.lst []))), none, none, none, none, none, none, none, none]) (by simp? only []) ?_
  rintro S rfl
  refine seq_cut (fun S => ∃ o5 o6 o7 o8 o9 o10 o11 o12, S = [(some (Sl.mk false (chO w r))), (some (Sl.mk false (seqD a (ts.map tkO)))), (some (Sl.mk false (seqD b (ss.map stD)))), (some (Sl.mk false (.str g))), (some (Sl.mk true (.lst ((rows w g ts ss (List.range ts.length)).map tD)))), o5, o6, o7, o8, o9, o10, o11, o12]) ?_ ?_
  · rw [k_for]
    simp? only []
    rw [enum_seq, enum_tk]
    refine for_typed (fun (i : Nat) => .tup [.int (i : Int), tkO (tAt ts i)]) (fun done S => ∃ o5 o6 o7 o8 o9 o10 o11 o12, S = [(some (Sl.mk false (chO w r))), (some (Sl.mk false (seqD a (ts.map tkO)))), (some (Sl.mk false (seqD b (ss.map stD)))), (some (Sl.mk false (.str g))), (some (Sl.mk true (.lst ((rows w g ts ss done).map tD)))), o5, o6, o7, o8, o9, o10, o11, o12]) (List.range ts.length) _ ⟨none, none, none, none, none, none, none, none, rfl⟩ ?_ ?_
    · rintro done i rest S hr ⟨o5, o6, o7, o8, o9, o10, o11, o12, rfl⟩
      have hi : i < ts.length := List.mem_range.mp (by rw [hr]; simp)
      have hdl : done.length < 3 := by have := congrArg List.length hr; simp at this; omega
      have hrl := rows_len w g ts ss done
      simp? only [k_gtk]
      refine ⟨rfl, stD (sAt ss i), sAt_D (by rw [hs3.len]; exact hi), ?_⟩
      have eu : d_Task_unfinished [tkO (tAt ts i), stD (sAt ss i)] = .ok (.bl (op ts ss i)) := (p_unf (ht _ (tAt_mem hi)) _ (hs3.ok i hi)).eq
      rw [eu, ok_ok]
      simp? only []
      refine ⟨fun ho => ?_, fun ho => ?_⟩
      · obtain ⟨n0, n1⟩ := node_of hs3 hi ho
        refine ⟨stD (sAt ss i), sAt_D (by rw [hs3.len]; exact hi), ?_⟩
        have e1 := nodeAt_D n0 n1
        have en : ∀ z : T3, z = row w g ts ss i → (rows w g ts ss done).map tD ++ [tD z] = (rows w g ts ss (done ++ [i])).map tD := by
          rintro z rfl
          rw [rows_snoc, if_pos ho, List.map_append]; rfl
        rcases hw with rfl | rfl | rfl <;> rcases hg with rfl | rfl | rfl
        · simp? only [q_first_first, q_first_last, q_first_dues, q_last_first, q_last_last, q_last_dues, q_dues_first, q_dues_last, q_dues_dues, q_cut, q_after, q_trust, k_gst, k_ch0, k_tkO0]
          exact ⟨by omega, _, _, _, _, _, _, _, _, by rw [← en (0, 0, (i : Int)) (by simp [row, late, place, s_fl, s_fd, s_dl, s_ca, s_ta])]; rfl⟩
        · simp? only [q_first_first, q_first_last, q_first_dues, q_last_first, q_last_last, q_last_dues, q_dues_first, q_dues_last, q_dues_dues, q_cut, q_after, q_trust, k_gst, k_ch0, k_tkO0]
          exact ⟨by omega, _, _, _, _, _, _, _, _, by rw [← en ((sAt ss i).2.2.2, 0, (i : Int)) (by simp [row, late, place, s_fl, s_fd, s_dl, s_ca, s_ta])]; rfl⟩
        · simp? only [q_first_first, q_first_last, q_first_dues, q_last_first, q_last_last, q_last_dues, q_dues_first, q_dues_last, q_dues_dues, q_cut, q_after, q_trust, k_gst, k_ch0, k_tkO0]
          exact ⟨by omega, _, _, _, _, _, _, _, _, by rw [← en (0, 0, (i : Int)) (by simp [row, late, place, s_fl, s_fd, s_dl, s_ca, s_ta])]; rfl⟩
        · simp? only [q_first_first, q_first_last, q_first_dues, q_last_first, q_last_last, q_last_dues, q_dues_first, q_dues_last, q_dues_dues, q_cut, q_after, q_trust, k_gst, k_ch0, k_tkO0]
          exact ⟨by omega, _, _, _, _, _, _, _, _, by rw [← en (0, -(i : Int), (i : Int)) (by simp [row, late, place, s_fl, s_fd, s_dl, s_ca, s_ta])]; rfl⟩
        · simp? only [q_first_first, q_first_last, q_first_dues, q_last_first, q_last_last, q_last_dues, q_dues_first, q_dues_last, q_dues_dues, q_cut, q_after, q_trust, k_gst, k_ch0, k_tkO0]
          exact ⟨by omega, _, _, _, _, _, _, _, _, by rw [← en ((sAt ss i).2.2.2, -(i : Int), (i : Int)) (by simp [row, late, place, s_fl, s_fd, s_dl, s_ca, s_ta])]; rfl⟩
        · simp? only [q_first_first, q_first_last, q_first_dues, q_last_first, q_last_last, q_last_dues, q_dues_first, q_dues_last, q_dues_dues, q_cut, q_after, q_trust, k_gst, k_ch0, k_tkO0]
          exact ⟨by omega, _, _, _, _, _, _, _, _, by rw [← en (0, -(i : Int), (i : Int)) (by simp [row, late, place, s_fl, s_fd, s_dl, s_ca, s_ta])]; rfl⟩
        · simp? only [q_first_first, q_first_last, q_first_dues, q_last_first, q_last_last, q_last_dues, q_dues_first, q_dues_last, q_dues_dues, q_cut, q_after, q_trust, k_gst, k_ch0, k_tkO0]
          refine ⟨_, e1, ?_⟩
          simp? only [k_law_nd1]
          exact ⟨by omega, _, _, _, _, _, _, _, _, by rw [← en (0, (nodeAt (tAt ts i).1 (sAt ss i).1).2 - (sAt ss i).2.1, (i : Int)) (by simp [row, late, place, s_fl, s_fd, s_dl, s_ca, s_ta])]; rfl⟩
        · simp? only [q_first_first, q_first_last, q_first_dues, q_last_first, q_last_last, q_last_dues, q_dues_first, q_dues_last, q_dues_dues, q_cut, q_after, q_trust, k_gst, k_ch0, k_tkO0]
          refine ⟨_, e1, ?_⟩
          simp? only [k_law_nd1]
          exact ⟨by omega, _, _, _, _, _, _, _, _, by rw [← en ((sAt ss i).2.2.2, (nodeAt (tAt ts i).1 (sAt ss i).1).2 - (sAt ss i).2.1, (i : Int)) (by simp [row, late, place, s_fl, s_fd, s_dl, s_ca, s_ta])]; rfl⟩
        · simp? only [q_first_first, q_first_last, q_first_dues, q_last_first, q_last_last, q_last_dues, q_dues_first, q_dues_last, q_dues_dues, q_cut, q_after, q_trust, k_gst, k_ch0, k_tkO0]
          refine ⟨_, e1, ?_⟩
          simp? only [k_law_nd1]
          exact ⟨by omega, _, _, _, _, _, _, _, _, by rw [← en (0, (nodeAt (tAt ts i).1 (sAt ss i).1).2 - (sAt ss i).2.1, (i : Int)) (by simp [row, late, place, s_fl, s_fd, s_dl, s_ca, s_ta])]; rfl⟩
      · refine ⟨_, _, _, _, _, _, _, _, by rw [rows_snoc, if_neg (by simp [ho]), List.append_nil]⟩
    · rintro S h
      exact ⟨rfl, h⟩
  · rintro S ⟨o5, o6, o7, o8, o9, o10, o11, o12, rfl⟩
    simp? only [k_srtT]
    refine k_lcM tD (fun z => .int z.2.2) ((rows w g ts ss (List.range ts.length)).mergeSort tle) (by simp? only [k_srtT]) ?_ ?_ ?_
    · rw [List.length_mergeSort]
      have := rows_len w g ts ss (List.range ts.length)
      rw [List.length_range] at this; omega
    · intro z hz
      simp? only [k_gT3]
    · unfold urg
      rw [List.map_map]; rfl
structure SpOk (sp : D) (ts : List Tk) (w g : Str) : Prop where
  t : ∀ {Q : D → Prop}, Ok (ixA sp (.str "tasks")) Q ↔ Q (.lst (ts.map tkL))
  o : ∀ {Q : D → Prop}, Ok (ixA sp (.str "order")) Q ↔ Q (.str w)
  g : ∀ {Q : D → Prop}, Ok (ixA sp (.str "guard")) Q ↔ Q (.str g)
theorem p_lurgent {w g : Str} {ts : List Tk} {ss : List Sts} {r sp : D} (b : Bool) (hsp : SpOk sp ts w g) (hw : ordW w) (hg : grdW g) (h3 : ts.length ≤ 3) (ht : ∀ t ∈ ts, TkOk t) (hs3 : St3 ts ss) : d__law_urgent [sp, seqD b (ss.map stD)] = .ok (.lst ((urg w g ts ss).map .int)) := by
  have hs := size_ge
  apply Ok.eq
  unfold d__law_urgent m__law_urgent
  rw [ok_nox]
  refine k_runT ?_
  have q0 : ∀ {Q : D → Prop}, Ok (ixA sp (.str "tasks")) Q ↔ Q (.lst (ts.map tkL)) := hsp.t
  have q1 : ∀ {Q : D → Prop}, Ok (ixA sp (.str "order")) Q ↔ Q (.str w) := hsp.o
  have q3 : ∀ {Q : D → Prop}, Ok (ixA sp (.str "guard")) Q ↔ Q (.str g) := hsp.g
  refine seq_cut (fun S => S = [(some (Sl.mk false (sp))), (some (Sl.mk false (seqD b (ss.map stD)))), (some (Sl.mk true (.lst []))), none, none, none, none, none, none]) (by simp? only []) ?_
  rintro S rfl
  refine seq_cut (fun S => ∃ o3 o4 o5 o6 o7 o8, S = [(some (Sl.mk false (sp))), (some (Sl.mk false (seqD b (ss.map stD)))), (some (Sl.mk true (.lst ((rows w g ts ss (List.range ts.length)).map tD)))), o3, o4, o5, o6, o7, o8]) ?_ ?_
  · simp? only [q0]
    refine ⟨⟨by omega, by omega⟩, ?_⟩
    rw [rngL_0]
    refine for_typed (fun (i : Nat) => .int (i : Int)) (fun done S => ∃ o3 o4 o5 o6 o7 o8, S = [(some (Sl.mk false (sp))), (some (Sl.mk false (seqD b (ss.map stD)))), (some (Sl.mk true (.lst ((rows w g ts ss done).map tD)))), o3, o4, o5, o6, o7, o8]) (List.range ts.length) _ ⟨none, none, none, none, none, none, rfl⟩ ?_ ?_
    · rintro done i rest S hr ⟨o3, o4, o5, o6, o7, o8, rfl⟩
      have hi : i < ts.length := List.mem_range.mp (by rw [hr]; simp)
      have hdl : done.length < 3 := by have := congrArg List.length hr; simp at this; omega
      have hrl := rows_len w g ts ss done
      simp? only [putS, q0, tAt_D tkL hi, sAt_D (show i < ss.length by rw [hs3.len]; exact hi)]
      have eu : d__law_open [tkL (tAt ts i), stD (sAt ss i)] = .ok (.bl (op ts ss i)) := (p_open (ht _ (tAt_mem hi)) (hs3.ok i hi)).eq
      rw [eu, ok_ok]
      simp? only []
      refine ⟨fun ho => ?_, fun ho => ?_⟩
      · obtain ⟨n0, n1⟩ := node_of hs3 hi ho
        have e1 := nodeAt_D n0 n1
        have en : ∀ z : T3, z = row w g ts ss i → (rows w g ts ss done).map tD ++ [tD z] = (rows w g ts ss (done ++ [i])).map tD := by
          rintro z rfl
          rw [rows_snoc, if_pos ho, List.map_append]; rfl
        rcases hw with rfl | rfl | rfl <;> rcases hg with rfl | rfl | rfl
        · simp? only [q_first_first, q_first_last, q_first_dues, q_last_first, q_last_last, q_last_dues, q_dues_first, q_dues_last, q_dues_dues, q_cut, q_after, q_trust, q1, q3, k_st3]
          exact ⟨by omega, _, _, _, _, _, _, by rw [← en (0, 0, (i : Int)) (by simp [row, late, place, s_fl, s_fd, s_dl, s_ca, s_ta])]; rfl⟩
        · simp? only [q_first_first, q_first_last, q_first_dues, q_last_first, q_last_last, q_last_dues, q_dues_first, q_dues_last, q_dues_dues, q_cut, q_after, q_trust, q1, q3, k_st3]
          exact ⟨by omega, _, _, _, _, _, _, by rw [← en ((sAt ss i).2.2.2, 0, (i : Int)) (by simp [row, late, place, s_fl, s_fd, s_dl, s_ca, s_ta])]; rfl⟩
        · simp? only [q_first_first, q_first_last, q_first_dues, q_last_first, q_last_last, q_last_dues, q_dues_first, q_dues_last, q_dues_dues, q_cut, q_after, q_trust, q1, q3, k_st3]
          exact ⟨by omega, _, _, _, _, _, _, by rw [← en (0, 0, (i : Int)) (by simp [row, late, place, s_fl, s_fd, s_dl, s_ca, s_ta])]; rfl⟩
        · simp? only [q_first_first, q_first_last, q_first_dues, q_last_first, q_last_last, q_last_dues, q_dues_first, q_dues_last, q_dues_dues, q_cut, q_after, q_trust, q1, q3, k_st3]
          exact ⟨by omega, _, _, _, _, _, _, by rw [← en (0, -(i : Int), (i : Int)) (by simp [row, late, place, s_fl, s_fd, s_dl, s_ca, s_ta])]; rfl⟩
        · simp? only [q_first_first, q_first_last, q_first_dues, q_last_first, q_last_last, q_last_dues, q_dues_first, q_dues_last, q_dues_dues, q_cut, q_after, q_trust, q1, q3, k_st3]
          exact ⟨by omega, _, _, _, _, _, _, by rw [← en ((sAt ss i).2.2.2, -(i : Int), (i : Int)) (by simp [row, late, place, s_fl, s_fd, s_dl, s_ca, s_ta])]; rfl⟩
        · simp? only [q_first_first, q_first_last, q_first_dues, q_last_first, q_last_last, q_last_dues, q_dues_first, q_dues_last, q_dues_dues, q_cut, q_after, q_trust, q1, q3, k_st3]
          exact ⟨by omega, _, _, _, _, _, _, by rw [← en (0, -(i : Int), (i : Int)) (by simp [row, late, place, s_fl, s_fd, s_dl, s_ca, s_ta])]; rfl⟩
        · simp? only [q_first_first, q_first_last, q_first_dues, q_last_first, q_last_last, q_last_dues, q_dues_first, q_dues_last, q_dues_dues, q_cut, q_after, q_trust, q1, q3, k_st3]
          simp? only [k_lawt0, k_st0]
          refine ⟨_, e1, ?_⟩
          simp? only [k_law_nd1, k_st1]
          exact ⟨by omega, _, _, _, _, _, _, by rw [← en (0, (nodeAt (tAt ts i).1 (sAt ss i).1).2 - (sAt ss i).2.1, (i : Int)) (by simp [row, late, place, s_fl, s_fd, s_dl, s_ca, s_ta])]; rfl⟩
        · simp? only [q_first_first, q_first_last, q_first_dues, q_last_first, q_last_last, q_last_dues, q_dues_first, q_dues_last, q_dues_dues, q_cut, q_after, q_trust, q1, q3, k_st3]
          simp? only [k_lawt0, k_st0]
          refine ⟨_, e1, ?_⟩
          simp? only [k_law_nd1, k_st1]
          exact ⟨by omega, _, _, _, _, _, _, by rw [← en ((sAt ss i).2.2.2, (nodeAt (tAt ts i).1 (sAt ss i).1).2 - (sAt ss i).2.1, (i : Int)) (by simp [row, late, place, s_fl, s_fd, s_dl, s_ca, s_ta])]; rfl⟩
        · simp? only [q_first_first, q_first_last, q_first_dues, q_last_first, q_last_last, q_last_dues, q_dues_first, q_dues_last, q_dues_dues, q_cut, q_after, q_trust, q1, q3, k_st3]
          simp? only [k_lawt0, k_st0]
          refine ⟨_, e1, ?_⟩
          simp? only [k_law_nd1, k_st1]
          exact ⟨by omega, _, _, _, _, _, _, by rw [← en (0, (nodeAt (tAt ts i).1 (sAt ss i).1).2 - (sAt ss i).2.1, (i : Int)) (by simp [row, late, place, s_fl, s_fd, s_dl, s_ca, s_ta])]; rfl⟩
      · refine ⟨_, _, _, _, _, _, by rw [rows_snoc, if_neg (by simp [ho]), List.append_nil]⟩
    · rintro S h
      exact ⟨rfl, h⟩
  · rintro S ⟨o3, o4, o5, o6, o7, o8, rfl⟩
    simp? only [k_srtT]
    refine k_lcM tD (fun z => .int z.2.2) ((rows w g ts ss (List.range ts.length)).mergeSort tle) (by simp? only [k_srtT]) ?_ ?_ ?_
    · rw [List.length_mergeSort]
      have := rows_len w g ts ss (List.range ts.length)
      rw [List.length_range] at this; omega
    · intro z hz
      simp? only [ixA_tD, k_t3_2]
    · refine ⟨_, rfl, ?_⟩
      unfold urg
      rw [List.map_map]; rfl
set_option Elab.async false
set_option linter.all false
set_option maxRecDepth 100000
open M PySem L2
theorem for_first {α : Type} {ga : FG} {s : FS} {QS : Fl × M.Env → Prop} (f : α → D) (p : α → Option Nat) (P : M.Env → Prop) : ∀ (xs : List α) (S : M.Env), P S →
    (∀ x ∈ xs, ∀ S, P S → Ok (ga (f x) S) fun S1 => Ok (s S1) fun z => (∀ j : Nat, p x = some j → z.1 = .rt (.int (j : Int))) ∧ (p x = none → z.1 = .nx ∧ P z.2)) →
    (∀ j : Nat, xs.findSome? p = some j → ∀ S, QS (.rt (.int (j : Int)), S)) → (xs.findSome? p = none → ∀ S, P S → QS (.nx, S)) → Ok (forF ga s (xs.map f) S) QS
  | [], S, h0, _, _, q => by
    rw [List.map_nil, k_fnil]
    exact q rfl S h0
  | x :: xs, S, h0, h, q1, q2 => by
    rw [List.map_cons, k_fcons]
    refine (h x (List.mem_cons_self ..) S h0).mono fun S1 h1 => h1.mono ?_
    rintro ⟨fl, S2⟩ ⟨z1, z2⟩
    cases hp : p x with
    | some j =>
      have e : fl = .rt (.int (j : Int)) := z1 j hp
      subst e
      exact q1 j (by rw [List.findSome?_cons, hp]) S2
    | none =>
      obtain ⟨e, hP⟩ := z2 hp
      have e : fl = .nx := e
      subst e
      have e2 : (x :: xs).findSome? p = xs.findSome? p := by rw [List.findSome?_cons, hp]
      exact for_first f p P xs S2 hP (fun y hy => h y (List.mem_cons_of_mem _ hy)) (by rw [← e2]; exact q1) (by rw [← e2]; exact q2)
def hdC (ts : List Tk) (ss : List Sts) (i : Nat) : List Nat := heldC (tAt ts i).1 (sAt ss i)
def ndC (ts : List Tk) (ss : List Sts) (i : Nat) : List Nat := needC (tAt ts i).1 (sAt ss i)
def holds (ts : List Tk) (ss : List Sts) (i c j : Nat) : Bool := decide (j ≠ i) && decide (c ∈ hdC ts ss j)
def hldN (ts : List Tk) (ss : List Sts) (i c : Nat) : Option Nat := (List.range ts.length).findSome? fun j => if holds ts ss i c j = true then some j else none
def blkN (ts : List Tk) (ss : List Sts) (i : Nat) : Option Nat := (ndC ts ss i).findSome? (hldN ts ss i)
def blkI (o : Option Nat) : Int := match o with
  | some j => (j : Int)
  | none => -1
section
variable {ts : List Tk} {ss : List Sts}
theorem e_held (ht : ∀ t ∈ ts, TkOk t) (h : St3 ts ss) {i : Nat} (hi : i < ts.length) : d_Task_held [tkO (tAt ts i), stD (sAt ss i)] = .ok (.str (tx (hdC ts ss i))) := (p_held (ht _ (tAt_mem hi)) _ (h.ok i hi)).eq
theorem e_need (ht : ∀ t ∈ ts, TkOk t) (h : St3 ts ss) {i : Nat} (hi : i < ts.length) : d_Task_needed [tkO (tAt ts i), stD (sAt ss i)] = .ok (.str (tx (ndC ts ss i))) := (p_need (ht _ (tAt_mem hi)) _ (h.ok i hi)).eq
theorem e_lheld (ht : ∀ t ∈ ts, TkOk t) (h : St3 ts ss) {i : Nat} (hi : i < ts.length) : d__law_held [tkL (tAt ts i), stD (sAt ss i)] = .ok (.str (tx (hdC ts ss i))) := (p_lheld (ht _ (tAt_mem hi)) (h.ok i hi)).eq
theorem e_lneed (ht : ∀ t ∈ ts, TkOk t) (h : St3 ts ss) {i : Nat} (hi : i < ts.length) : d__law_needed [tkL (tAt ts i), stD (sAt ss i)] = .ok (.str (tx (ndC ts ss i))) := (p_lneed (ht _ (tAt_mem hi)) (h.ok i hi)).eq
theorem k_itX {cs : List Nat} {Q : List D → Prop} : Ok (itemsD (.str (tx cs))) Q ↔ Q (cs.map fun c => .str (sg c)) := ok_ok
theorem k_inX {c : Nat} {cs : List Nat} {Q : D → Prop} : Ok (inD (.str (sg c)) (.str (tx cs))) Q ↔ Q (.bl (decide (c ∈ cs))) := ok_ok
theorem s_len (h : St3 ts ss) {i : Nat} (hi : i < ts.length) : i < ss.length := by rw [h.len]; exact hi
theorem dec_nat {i j : Nat} : decide ((j : Int) = (i : Int)) = decide (j = i) := decide_eq_decide.mpr ⟨fun h => by omega, fun h => by omega⟩
theorem p_blocked_by (a b : Bool) (h3 : ts.length ≤ 3) (ht : ∀ t ∈ ts, TkOk t) (h : St3 ts ss) {i : Nat} (hi : i < ts.length) : d_blocked_by [seqD a (ts.map tkO), seqD b (ss.map stD), .int (i : Int)] = .ok (.int (blkI (blkN ts ss i))) := by
  have hs := size_ge
  apply Ok.eq
  unfold d_blocked_by m_blocked_by
  rw [ok_nox, k_run, k_seq, k_for]
  simp? only [tAt_D tkO hi, sAt_D (s_len h hi), e_need ht h hi, k_itX]
  refine ⟨rfl, ?_⟩
  refine for_first (fun c => .str (sg c)) (hldN ts ss i) (fun S => ∃ o3 o4 o5, S = [(some (Sl.mk false (seqD a (ts.map tkO)))), (some (Sl.mk false (seqD b (ss.map stD)))), (some (Sl.mk false (.int (i : Int)))), o3, o4, o5]) (ndC ts ss i) _ ⟨none, none, none, rfl⟩ ?_ ?_ ?_
  · rintro c hc S ⟨o3, o4, o5, rfl⟩
    refine Ok.mono (P := fun S1 => S1 = [(some (Sl.mk false (seqD a (ts.map tkO)))), (some (Sl.mk false (seqD b (ss.map stD)))), (some (Sl.mk false (.int (i : Int)))), (some (Sl.mk false (.str (sg c)))), o4, o5]) (by simp? only []) ?_
    rintro S1 rfl
    rw [k_for]
    simp? only []
    rw [enum_seq, enum_tk]
    refine for_first (fun (j : Nat) => .tup [.int (j : Int), tkO (tAt ts j)]) (fun j => if holds ts ss i c j = true then some j else none) (fun S => ∃ o4 o5, S = [(some (Sl.mk false (seqD a (ts.map tkO)))), (some (Sl.mk false (seqD b (ss.map stD)))), (some (Sl.mk false (.int (i : Int)))), (some (Sl.mk false (.str (sg c)))), o4, o5]) (List.range ts.length) _ ⟨o4, o5, rfl⟩ ?_ ?_ ?_
    · rintro j hj S ⟨o4, o5, rfl⟩
      have hj := List.mem_range.mp hj
      simp? only [k_gtk, sAt_D (s_len h hj), e_held ht h hj, k_inX, dec_nat]
      have hd : holds ts ss i c j = (!decide (j = i) && decide (c ∈ hdC ts ss j)) := by unfold holds; simp
      refine ⟨fun h1 => ⟨rfl, fun h2 => ?_, fun h2 => ?_⟩, fun h1 => ?_⟩
      · have e : (if holds ts ss i c j = true then some j else none) = some j := if_pos (by rw [hd, h1, h2]; rfl)
        rw [e]
        exact ⟨fun k hk => (by cases hk; rfl), fun hk => nomatch hk⟩
      · have e : (if holds ts ss i c j = true then some j else none) = none := if_neg (by rw [hd, h1, h2]; decide)
        rw [e]
        exact ⟨fun k hk => (nomatch hk), fun _ => ⟨_, _, rfl⟩⟩
      · have e : (if holds ts ss i c j = true then some j else none) = none := if_neg (by rw [hd, h1]; simp)
        rw [e]
        exact ⟨fun k hk => (nomatch hk), fun _ => ⟨_, _, rfl⟩⟩
    · intro j hj S
      exact ⟨fun k hk => by rw [show hldN ts ss i c = some j from hj] at hk; cases hk; rfl, fun hk => by rw [show hldN ts ss i c = some j from hj] at hk; cases hk⟩
    · rintro hn S ⟨o4, o5, rfl⟩
      exact ⟨fun k hk => (by rw [show hldN ts ss i c = none from hn] at hk; cases hk), fun _ => ⟨rfl, _, _, _, rfl⟩⟩
  · intro j hj S
    unfold blkN
    rw [hj]
    rfl
  · rintro hn S ⟨o3, o4, o5, rfl⟩
    simp? only []
    unfold blkN
    rw [hn]
    rfl
theorem p_lblocked (b : Bool) (h3 : ts.length ≤ 3) (ht : ∀ t ∈ ts, TkOk t) (h : St3 ts ss) {i : Nat} (hi : i < ts.length) : d__law_blocked [.lst (ts.map tkL), seqD b (ss.map stD), .int (i : Int)] = .ok (.int (blkI (blkN ts ss i))) := by
  have hs := size_ge
  apply Ok.eq
  unfold d__law_blocked m__law_blocked
  rw [ok_nox, k_run, k_seq, k_for]
  simp? only [tAt_D tkL hi, sAt_D (s_len h hi), e_lneed ht h hi, k_itX]
  refine for_first (fun c => .str (sg c)) (hldN ts ss i) (fun S => ∃ o3 o4, S = [(some (Sl.mk false (.lst (ts.map tkL)))), (some (Sl.mk false (seqD b (ss.map stD)))), (some (Sl.mk false (.int (i : Int)))), o3, o4]) (ndC ts ss i) _ ⟨none, none, rfl⟩ ?_ ?_ ?_
  · rintro c hc S ⟨o3, o4, rfl⟩
    refine Ok.mono (P := fun S1 => S1 = [(some (Sl.mk false (.lst (ts.map tkL)))), (some (Sl.mk false (seqD b (ss.map stD)))), (some (Sl.mk false (.int (i : Int)))), (some (Sl.mk false (.str (sg c)))), o4]) (by simp? only []) ?_
    rintro S1 rfl
    rw [k_for]
    simp? only []
    refine ⟨⟨by omega, by omega⟩, ?_⟩
    rw [rngL_0]
    refine for_first (fun (j : Nat) => .int (j : Int)) (fun j => if holds ts ss i c j = true then some j else none) (fun S => ∃ o4, S = [(some (Sl.mk false (.lst (ts.map tkL)))), (some (Sl.mk false (seqD b (ss.map stD)))), (some (Sl.mk false (.int (i : Int)))), (some (Sl.mk false (.str (sg c)))), o4]) (List.range ts.length) _ ⟨o4, rfl⟩ ?_ ?_ ?_
    · rintro j hj S ⟨o4, rfl⟩
      have hj := List.mem_range.mp hj
      simp? only [tAt_D tkL hj, sAt_D (s_len h hj), e_lheld ht h hj, k_inX, dec_nat]
      have hd : holds ts ss i c j = (!decide (j = i) && decide (c ∈ hdC ts ss j)) := by unfold holds; simp
      refine ⟨fun h1 => ⟨fun h2 => ?_, fun h2 => ?_⟩, fun h1 => ?_⟩
      · have e : (if holds ts ss i c j = true then some j else none) = some j := if_pos (by rw [hd, h1, h2]; rfl)
        rw [e]
        exact ⟨fun k hk => (by cases hk; rfl), fun hk => nomatch hk⟩
      · have e : (if holds ts ss i c j = true then some j else none) = none := if_neg (by rw [hd, h1, h2]; decide)
        rw [e]
        exact ⟨fun k hk => (nomatch hk), fun _ => ⟨_, rfl⟩⟩
      · have e : (if holds ts ss i c j = true then some j else none) = none := if_neg (by rw [hd, h1]; simp)
        rw [e]
        exact ⟨fun k hk => (nomatch hk), fun _ => ⟨_, rfl⟩⟩
    · intro j hj S
      exact ⟨fun k hk => by rw [show hldN ts ss i c = some j from hj] at hk; cases hk; rfl, fun hk => by rw [show hldN ts ss i c = some j from hj] at hk; cases hk⟩
    · rintro hn S ⟨o4, rfl⟩
      exact ⟨fun k hk => (by rw [show hldN ts ss i c = none from hn] at hk; cases hk), fun _ => ⟨rfl, _, _, rfl⟩⟩
  · intro j hj S
    unfold blkN
    rw [hj]
    rfl
  · rintro hn S ⟨o3, o4, rfl⟩
    simp? only []
    unfold blkN
    rw [hn]
    rfl
end
set_option Elab.async false
set_option linter.all false
set_option maxRecDepth 100000
open M PySem L2
def ceilS (L : List Int) (us : List Nat) : Int := if us = [] then -1 else minL (us.map fun i => L.getD i 0)
theorem p_ceiling {w : Str} {ts : List Tk} {r : D} {L : List Int} {b : Bool} (h3 : ts.length ≤ 3) (ht : ∀ t ∈ ts, TkOk t) (hL : L.length = ts.length) (e : d_Choice_levels [chO w r, seqD b (ts.map tkO)] = .ok (.tup (L.map .int))) (c : Nat) : d_Choice_ceiling [chO w r, seqD b (ts.map tkO), .str (sg c)] = .ok (.int (ceilS L ((List.range ts.length).filter fun i => us c (tAt ts i)))) := by
  have hs := size_ge
  apply Ok.eq
  unfold d_Choice_ceiling m_Choice_ceiling
  rw [ok_nox, k_run]
  simp? only [e]
  refine ⟨rfl, ?_⟩
  refine k_lcT (fun i : Nat => .tup [.int (i : Int), tkO (tAt ts i)]) (fun i => us c (tAt ts i)) (fun (i : Nat) => .int (L.getD i 0)) (List.range ts.length) ?_ (by rw [List.length_range]; omega) ?_ ?_
  · simp? only []
    rw [enum_seq, enum_tk]
  · intro i hi
    have hi := List.mem_range.mp hi
    simp? only [k_gtk, p_uses (ht _ (tAt_mem hi))]
    intro _
    rw [atI_nat, List.getElem?_map, List.getElem?_eq_getElem (by omega)]
    refine ⟨_, rfl, ?_⟩
    rw [List.getD_eq_getElem?_getD, List.getElem?_eq_getElem (by omega)]; rfl
  · simp? only []
    unfold ceilS
    generalize ((List.range ts.length).filter fun i => us c (tAt ts i)) = l
    cases l with
    | nil => exact ok_ok.mpr rfl
    | cons x l =>
      rw [if_neg (by simp)]
      have : mindD (.lst ((x :: l).map fun (i : Nat) => .int (L.getD i 0))) (.int (-1)) = .ok (.int (minL ((x :: l).map fun i => L.getD i 0))) := by
        unfold mindD
        simp only [asI_mapf]
        rfl
      rw [this, ok_ok]
set_option Elab.async false
set_option linter.all false
set_option maxRecDepth 100000
open M PySem L2
theorem lev_both {w : Str} {ts : List Tk} (b : Bool) (r : D) (hw : ordW w) (h1 : 1 ≤ ts.length) (h3 : ts.length ≤ 3) (ht : ∀ t ∈ ts, TkOk t) : ∃ L : List Int, L.length = ts.length ∧ (∀ z ∈ L, 0 ≤ z ∧ z < 3) ∧ d_Choice_levels [chO w r, seqD b (ts.map tkO)] = .ok (.tup (L.map .int)) ∧ d__law_levels [.str w, .lst (ts.map tkL)] = .ok (.lst (L.map .int)) := by
  have hs := size_ge
  have H : ∀ L : List Int, L.length = ts.length → (∀ z ∈ L, 0 ≤ z ∧ z < 3) → Ok (d_Choice_levels [chO w r, seqD b (ts.map tkO)]) (fun d => d = .tup (L.map .int)) → Ok (d__law_levels [.str w, .lst (ts.map tkL)]) (fun d => d = .lst (L.map .int)) → ∃ L : List Int, L.length = ts.length ∧ (∀ z ∈ L, 0 ≤ z ∧ z < 3) ∧ d_Choice_levels [chO w r, seqD b (ts.map tkO)] = .ok (.tup (L.map .int)) ∧ d__law_levels [.str w, .lst (ts.map tkL)] = .ok (.lst (L.map .int)) := fun L h h2 a b => ⟨L, h, h2, a.eq, b.eq⟩
  rcases hw with rfl | rfl | rfl
  · refine H (rgN ts.length) (by simp [rgN]) (fun z hz => by simp only [rgN, List.mem_map, List.mem_range] at hz; omega) ?_ ?_
    · unfold d_Choice_levels m_Choice_levels
      rw [ok_nox, k_run]
      simp? only [q_first_first, q_first_last, q_first_dues, q_last_first, q_last_last, q_last_dues, q_dues_first, q_dues_last, q_dues_dues, q_cut, q_after, q_trust, k_ch0]
      exact k_tupRgN (by omega) (by simp? only []) rfl
    · unfold d__law_levels m__law_levels
      rw [ok_nox, k_run]
      simp? only [q_first_first, q_first_last, q_first_dues, q_last_first, q_last_last, q_last_dues, q_dues_first, q_dues_last, q_dues_dues, q_cut, q_after, q_trust]
      exact k_lstRgN (by omega) (by simp? only []) rfl
  · refine H (rvN ts.length) (by simp [rvN]) (fun z hz => by simp only [rvN, List.mem_map, List.mem_range] at hz; omega) ?_ ?_
    · unfold d_Choice_levels m_Choice_levels
      rw [ok_nox, k_run]
      simp? only [q_first_first, q_first_last, q_first_dues, q_last_first, q_last_last, q_last_dues, q_dues_first, q_dues_last, q_dues_dues, q_cut, q_after, q_trust, k_ch0]
      refine k_lcM (fun i : Nat => .int (i : Int)) (fun i : Nat => .int ((ts.length : Int) - 1 - i)) (List.range ts.length) ?_ (by rw [List.length_range]; omega) ?_ ?_
      · simp? only []
        exact ⟨⟨by omega, by omega⟩, rngL_0 _⟩
      · intro i hi
        simp? only []
      · simp? only []
        unfold rvN
        rw [List.map_map]; rfl
    · unfold d__law_levels m__law_levels
      rw [ok_nox, k_run]
      simp? only [q_first_first, q_first_last, q_first_dues, q_last_first, q_last_last, q_last_dues, q_dues_first, q_dues_last, q_dues_dues, q_cut, q_after, q_trust]
      refine k_lcM (fun i : Nat => .int (i : Int)) (fun i : Nat => .int ((ts.length : Int) - 1 - i)) (List.range ts.length) ?_ (by rw [List.length_range]; omega) ?_ ?_
      · simp? only []
        exact ⟨⟨by omega, by omega⟩, rngL_0 _⟩
      · intro i hi
        simp? only []
      · unfold rvN
        rw [List.map_map]; rfl
  · obtain ⟨p, ep, hp⟩ := srt_p2 ts
    have ep' : srtAD (.lst ((List.range ts.length).map fun i => p2 (least (tAt ts i), i))) = .ok (.lst (p.map p2)) := by
      rw [← ep]
      unfold prs
      rw [List.map_map]; rfl
    obtain ⟨L, hL, hB, eA, eB⟩ := lv_dues h1 h3 hp
    refine H L hL hB ?_ ?_
    · unfold d_Choice_levels m_Choice_levels
      rw [ok_nox, k_run]
      refine seq_cut (fun S => S = [(some (Sl.mk false (chO "dues" r))), (some (Sl.mk false (seqD b (ts.map tkO)))), (some (Sl.mk false (.int ts.length))), none, none, none, none, none, none, none, none]) (by simp? only []) ?_
      rintro S rfl
      refine pass_if (by simp? only [q_first_first, q_first_last, q_first_dues, q_last_first, q_last_last, q_last_dues, q_dues_first, q_dues_last, q_dues_dues, q_cut, q_after, q_trust, k_ch0]) ?_
      refine pass_if (by simp? only [q_first_first, q_first_last, q_first_dues, q_last_first, q_last_last, q_last_dues, q_dues_first, q_dues_last, q_dues_dues, q_cut, q_after, q_trust, k_ch0]) ?_
      refine seq_cut (fun S => S = envA (some (Sl.mk false (chO "dues" r))) (some (Sl.mk false (seqD b (ts.map tkO)))) ts.length p) ?_ ?_
      · simp? only []
        refine k_lcM (fun i : Nat => .tup [.int (i : Int), tkO (tAt ts i)]) (fun i : Nat => p2 (least (tAt ts i), i)) (List.range ts.length) ?_ (by rw [List.length_range]; omega) ?_ ?_
        · simp? only []
          rw [enum_seq, enum_tk]
        · intro i hi
          have hi := List.mem_range.mp hi
          have t1 := ht _ (tAt_mem hi)
          simp? only [k_gtk, k_tkO0]
          refine k_lcM ndD (fun n => .int n.2) (tAt ts i).1 (by simp? only [k_tkO0]) (by have := t1.n2; omega) ?_ ?_
          · intro n hn
            simp? only [k_gnd]
          · simp? only [k_minM _ (ne_nil t1.n1)]
            rfl
        · simp? only []
          rw [ep', ok_ok]
          rfl
      · rintro S rfl
        exact ok_ret (eA _ _) fun S => rfl
    · unfold d__law_levels m__law_levels
      rw [ok_nox, k_run]
      refine seq_cut (fun S => S = [(some (Sl.mk false (.str "dues"))), (some (Sl.mk false (.lst (ts.map tkL)))), (some (Sl.mk false (.int ts.length))), none, none, none, none]) (by simp? only []) ?_
      rintro S rfl
      refine pass_if (by simp? only [q_first_first, q_first_last, q_first_dues, q_last_first, q_last_last, q_last_dues, q_dues_first, q_dues_last, q_dues_dues, q_cut, q_after, q_trust]) ?_
      refine pass_if (by simp? only [q_first_first, q_first_last, q_first_dues, q_last_first, q_last_last, q_last_dues, q_dues_first, q_dues_last, q_dues_dues, q_cut, q_after, q_trust]) ?_
      refine seq_cut (fun S => S = envB (some (Sl.mk false (.str "dues"))) (some (Sl.mk false (.lst (ts.map tkL)))) ts.length p) ?_ ?_
      · simp? only []
        refine k_lcM (fun i : Nat => .int (i : Int)) (fun i : Nat => p2 (least (tAt ts i), i)) (List.range ts.length) ?_ (by rw [List.length_range]; omega) ?_ ?_
        · simp? only []
          exact ⟨⟨by omega, by omega⟩, rngL_0 _⟩
        · intro i hi
          have hi := List.mem_range.mp hi
          have t1 := ht _ (tAt_mem hi)
          simp? only []
          refine k_lcM ndD (fun n => .int n.2) (tAt ts i).1 (by simp? only [tAt_D tkL hi, k_lawt0]) (by have := t1.n2; omega) ?_ ?_
          · intro n hn
            simp? only [k_law_nd1]
          · simp? only [k_minM _ (ne_nil t1.n1)]
            rfl
        · simp? only []
          rw [ep', ok_ok]
          rfl
      · rintro S rfl
        exact ok_ret (eB _ _) fun S => rfl
set_option Elab.async false
set_option linter.all false
set_option maxRecDepth 100000
open M PySem L2
theorem k_CXS {n : Nat} {mask : List Bool} {dd : List D} {o : List D → R D} {fa fk : FA} {S : M.Env} {Q : D → Prop} : Ok (eCXS n mask dd o fa fk S) Q ↔ Ok (fa S) fun as => Ok (fk S) fun bs => (n ≤ as.length ∧ as.length ≤ sizeLine) ∧ Ok (o (as.take n ++ mergeK mask dd bs ++ [.tup (as.drop n)])) Q := by
  unfold eCXS; simp only [ok_bind, ok_if]
theorem atN {α : Type} {xs : List α} {c : Nat} (h : c < xs.length) : L2.atI xs (c : Int) = some xs[c] := by
  unfold L2.atI ixN
  rw [if_pos (by omega), if_pos (by omega)]
  show xs[(c : Int).toNat]? = _
  rw [Int.toNat_natCast, List.getElem?_eq_getElem h]
theorem mk_nil : mergeK ([] : List Bool) ([] : List D) [] = [] := rfl
theorem tk1 {a : D} {l : List D} : (a :: l).take 1 = [a] := rfl
theorem dp1 {a : D} {l : List D} : (a :: l).drop 1 = l := rfl
theorem at_0 {a : D} {l : List D} : L2.atI (a :: l) 0 = some a := atI_0
theorem at_1 {a b : D} {l : List D} : L2.atI (a :: b :: l) 1 = some b := by
  have := atN (xs := a :: b :: l) (c := 1) (by simp)
  simpa using this
theorem at_2 {a b c : D} {l : List D} : L2.atI (a :: b :: c :: l) 2 = some c := by
  have := atN (xs := a :: b :: c :: l) (c := 2) (by simp)
  simpa using this
theorem dc00 : decide (((0 : Nat) : Int) = 0) = true := rfl
theorem dc01 : decide (((0 : Nat) : Int) = 1) = false := rfl
theorem dc02 : decide (((0 : Nat) : Int) = 2) = false := rfl
theorem dc10 : decide (((1 : Nat) : Int) = 0) = false := rfl
theorem dc11 : decide (((1 : Nat) : Int) = 1) = true := rfl
theorem dc12 : decide (((1 : Nat) : Int) = 2) = false := rfl
theorem dc20 : decide (((2 : Nat) : Int) = 0) = false := rfl
theorem dc21 : decide (((2 : Nat) : Int) = 1) = false := rfl
theorem dc22 : decide (((2 : Nat) : Int) = 2) = true := rfl
theorem dc30 : decide (((3 : Nat) : Int) = 0) = false := rfl
theorem dc31 : decide (((3 : Nat) : Int) = 1) = false := rfl
theorem dc32 : decide (((3 : Nat) : Int) = 2) = false := rfl
def rlW (rs : List D) : Prop := rs = [] ∨ rs = [.str "lend"] ∨ rs = [.str "ceil"] ∨ rs = [.str "lend", .str "ceil"] ∨ rs = [.str "ceil", .str "lend"]
theorem srt_rl {rs : List D} (h : rlW rs) : srtAD (.tup rs) = .ok (.lst (srt rs)) ∧ srtAD (.lst rs) = .ok (.lst (srt rs)) := by
  have e : srtOk rs = true := by rcases h with rfl | rfl | rfl | rfl | rfl <;> kernel_rfl
  simp only [srtAD, e, if_true, and_self]
theorem p_choice {w : Str} {rs : List D} (hw : ordW w) (hr : rlW rs) : d_Choice [.str w, .tup rs] = .ok (chO w (.tup (srt rs))) := by
  apply Ok.eq
  unfold d_Choice m_Choice
  rw [k_runN]
  refine pass_if ⟨false, ?_, rfl⟩ ?_
  · rcases hw with rfl | rfl | rfl <;> kernel_rfl
  refine pass_if ⟨false, ?_, rfl⟩ ?_
  · rcases hr with rfl | rfl | rfl | rfl | rfl <;> kernel_rfl
  simp? only [(srt_rl hr).1]
  all_goals rfl
set_option Elab.async false
set_option linter.all false
set_option maxRecDepth 100000
open M PySem L2
abbrev HR := Int × Nat × Nat
def hrD (r : HR) : D := .tup [.int r.1, .str (sg r.2.1), .int (r.2.2 : Int)]
theorem argBest_le (bt : Nat → Nat → Bool) : ∀ k, PySem.argBest bt k ≤ k
  | 0 => Nat.le_refl _
  | k + 1 => by
    have := argBest_le bt k
    unfold PySem.argBest
    split <;> omega
def minH (rs : List HR) : HR := rs.getD (bestAt (D.toPs (rs.map hrD)) (rs.length - 1)) (0, 0, 0)
theorem minH_lt {rs : List HR} (h : rs ≠ []) : bestAt (D.toPs (rs.map hrD)) (rs.length - 1) < rs.length := by
  have h1 : bestAt (D.toPs (rs.map hrD)) (rs.length - 1) ≤ rs.length - 1 := argBest_le _ _
  have := List.length_pos_iff.mpr h
  omega
theorem minH_mem {rs : List HR} (h : rs ≠ []) : minH rs ∈ rs := by
  unfold minH
  rw [List.getD_eq_getElem?_getD, List.getElem?_eq_getElem (minH_lt h)]
  exact List.getElem_mem _
theorem k_minH {rs : List HR} (h : rs ≠ []) (hc : ∀ r ∈ rs, r.2.1 < 0x110000) {Q : D → Prop} : Ok (minTD (.lst (rs.map hrD))) Q ↔ Q (hrD (minH rs)) := by
  have e : minTD (.lst (rs.map hrD)) = .ok (hrD (minH rs)) := by
    have ok : srtOk (rs.map hrD) = true := by
      unfold srtOk
      rw [doks_map hrD 59 rs fun r hr => by
        simp only [hrD, dok, doks, Bool.and_true, Bool.true_and]
        unfold PyData.strOk sg
        simp [hc r hr]]
      simp [List.all_eq_true, hrD, alikeD, alikeDs, srtItem]
    unfold minTD
    dsimp only
    rw [if_pos ok, List.length_map, List.getElem?_map, List.getElem?_eq_getElem (minH_lt h)]
    unfold minH
    rw [List.getD_eq_getElem?_getD, List.getElem?_eq_getElem (minH_lt h)]; rfl
  rw [e, ok_ok]
theorem k_hr0 {r : HR} {Q : D → Prop} : Ok (ixA (hrD r) (.int 0)) Q ↔ Q (.int r.1) := ok_ok
theorem k_hr2 {r : HR} {Q : D → Prop} : Ok (ixA (hrD r) (.int 2)) Q ↔ Q (.int (r.2.2 : Int)) := ok_ok
def usr (ts : List Tk) (c : Nat) : List Nat := (List.range ts.length).filter fun k => us c (tAt ts k)
def hrOf (L : List Int) (ts : List Tk) (ss : List Sts) (j : Nat) : List HR := (hdC ts ss j).map fun c => (ceilS L (usr ts c), c, j)
def hRows (L : List Int) (ts : List Tk) (ss : List Sts) (i : Nat) : List HR := ((List.range ts.length).filter fun j => decide (j ≠ i)).flatMap (hrOf L ts ss)
section
variable {ts : List Tk} {ss : List Sts}
theorem held_in {ns : List Node} {s : Sts} (V : ∀ n ∈ ns, Nd n.1 n.2) {c : Nat} (hc : c ∈ heldC ns s) : ∃ n ∈ ns, ∃ x ∈ n.1, x ∈ EN ∧ c ∈ x.cps.toList := by
  unfold heldC at hc
  split at hc
  · rename_i n hn
    split at hc
    · cases hc
    · unfold heldP at hc
      split at hc
      · rename_i x y hx hy
        exact ⟨n, atI_mem hn, x, atI_mem hx, (V n (atI_mem hn)).en x (atI_mem hx), (List.mem_filter.mp hc).1⟩
      · cases hc
  · cases hc
theorem hd_us (ht : ∀ t ∈ ts, TkOk t) {j c : Nat} (hj : j < ts.length) (hc : c ∈ hdC ts ss j) : us c (tAt ts j) = true ∧ c < 0x110000 := by
  obtain ⟨n, hn, x, hx, he, h⟩ := held_in (ht _ (tAt_mem hj)).nd hc
  refine ⟨?_, en_ok x he c h⟩
  unfold us
  rw [List.any_eq_true]
  refine ⟨n, hn, ?_⟩
  unfold usP
  rw [List.any_eq_true]
  exact ⟨x, hx, decide_eq_true h⟩
theorem hd_len (ht : ∀ t ∈ ts, TkOk t) {j : Nat} (hj : j < ts.length) : (hdC ts ss j).length ≤ 3 := by
  unfold hdC heldC
  split
  · rename_i n hn
    split
    · simp
    · unfold heldP
      split
      · rename_i x y hx hy
        exact Nat.le_trans (List.length_filter_le ..) (en_len3 x (((ht _ (tAt_mem hj)).nd n (atI_mem hn)).en x (atI_mem hx)))
      · simp
  · simp
theorem usr_ne {j c : Nat} (hj : j < ts.length) (h : us c (tAt ts j) = true) : usr ts c ≠ [] := by
  have : j ∈ usr ts c := List.mem_filter.mpr ⟨List.mem_range.mpr hj, h⟩
  intro e
  rw [e] at this
  cases this
theorem hRows_mem {L : List Int} {i : Nat} {r : HR} (h : r ∈ hRows L ts ss i) : r.2.2 < ts.length ∧ r.2.2 ≠ i ∧ r.2.1 ∈ hdC ts ss r.2.2 := by
  unfold hRows at h
  obtain ⟨j, hj, h⟩ := List.mem_flatMap.mp h
  obtain ⟨c, hc, rfl⟩ := List.mem_map.mp h
  obtain ⟨h1, h2⟩ := List.mem_filter.mp hj
  exact ⟨List.mem_range.mp h1, by simpa using h2, hc⟩
theorem hRows_len (ht : ∀ t ∈ ts, TkOk t) (h3 : ts.length ≤ 3) (L : List Int) (i : Nat) (l : List Nat) (hl : ∀ j ∈ l, j < ts.length) : (l.flatMap (hrOf L ts ss)).length ≤ l.length * 3 := len_fm _ 3 _ fun j hj => by
  unfold hrOf
  rw [List.length_map]
  exact hd_len ht (hl j hj)
end
def ceilR (rs : List D) : Bool := rs.any fun d => match d with | .str s => decide (s = "ceil") | _ => false
def lendR (rs : List D) : Bool := rs.any fun d => match d with | .str s => decide (s = "lend") | _ => false
theorem two_perm {α : Type} {a b : α} {l : List α} (h : l.Perm [a, b]) : l = [a, b] ∨ l = [b, a] := by
  match l, h.length_eq with
  | [x, y], _ =>
    have hx : x ∈ [a, b] := h.mem_iff.mp (by simp)
    simp only [List.mem_cons, List.not_mem_nil, or_false] at hx
    rcases hx with rfl | rfl
    · exact .inl (by rw [List.perm_singleton.mp h.cons_inv])
    · exact .inr (by rw [List.perm_singleton.mp (h.trans (List.Perm.swap _ _ _)).cons_inv])
theorem one_perm {α : Type} {a : α} {l : List α} (h : l.Perm [a]) : l = [a] := List.perm_singleton.mp h
theorem srt_perm (rs : List D) : (srt rs).Perm rs := List.mergeSort_perm _ _
theorem srt_cases {rs : List D} (h : rlW rs) : rlW (srt rs) ∧ ((rs.length = 2) = ((srt rs).length = 2)) := by
  have p := srt_perm rs
  refine ⟨?_, by rw [p.length_eq]⟩
  rcases h with rfl | rfl | rfl | rfl | rfl
  · exact .inl (List.perm_nil.mp p)
  · exact .inr (.inl (one_perm p))
  · exact .inr (.inr (.inl (one_perm p)))
  · rcases two_perm p with e | e
    · exact .inr (.inr (.inr (.inl e)))
    · exact .inr (.inr (.inr (.inr e)))
  · rcases two_perm p with e | e
    · exact .inr (.inr (.inr (.inr e)))
    · exact .inr (.inr (.inr (.inl e)))
theorem any_perm {α : Type} (p : α → Bool) {l r : List α} (h : l.Perm r) : l.any p = r.any p := by
  rw [Bool.eq_iff_iff, List.any_eq_true, List.any_eq_true]
  exact ⟨fun ⟨x, hx, q⟩ => ⟨x, h.mem_iff.mp hx, q⟩, fun ⟨x, hx, q⟩ => ⟨x, h.mem_iff.mpr hx, q⟩⟩
theorem ceilL {rs : List D} (h : rlW rs) : notInD (.str "ceil") (.tup rs) = .ok (.bl (!ceilR rs)) ∧ notInD (.str "ceil") (.lst rs) = .ok (.bl (!ceilR rs)) := by
  rcases h with rfl | rfl | rfl | rfl | rfl
  all_goals exact ⟨by kernel_rfl, by kernel_rfl⟩
theorem lendL {rs : List D} (h : rlW rs) : inD (.str "lend") (.tup rs) = .ok (.bl (lendR rs)) ∧ inD (.str "lend") (.lst rs) = .ok (.bl (lendR rs)) := by
  rcases h with rfl | rfl | rfl | rfl | rfl
  all_goals exact ⟨by kernel_rfl, by kernel_rfl⟩
theorem ceil_rl {rs : List D} (h : rlW rs) : notInD (.str "ceil") (.tup (srt rs)) = .ok (.bl (!ceilR rs)) ∧ notInD (.str "ceil") (.lst rs) = .ok (.bl (!ceilR rs)) := by
  refine ⟨?_, (ceilL h).2⟩
  rw [(ceilL (srt_cases h).1).1, show ceilR (srt rs) = ceilR rs from any_perm _ (srt_perm rs)]
theorem lend_rl {rs : List D} (h : rlW rs) : inD (.str "lend") (.tup (srt rs)) = .ok (.bl (lendR rs)) ∧ inD (.str "lend") (.lst rs) = .ok (.bl (lendR rs)) := by
  refine ⟨?_, (lendL h).2⟩
  rw [(lendL (srt_cases h).1).1, show lendR (srt rs) = lendR rs from any_perm _ (srt_perm rs)]
def blkS (L : List Int) (cl : Bool) (ts : List Tk) (ss : List Sts) (i : Nat) : Option Nat := match blkN ts ss i with
  | some j => some j
  | none => if cl = true ∧ ndC ts ss i ≠ [] ∧ hRows L ts ss i ≠ [] ∧ (minH (hRows L ts ss i)).1 ≤ L.getD i 0 then some (minH (hRows L ts ss i)).2.2 else none
theorem k_truX {cs : List Nat} (h : cs.length ≤ 1000) {QB : Bool → Prop} : Ok (truD (.str (tx cs))) QB ↔ QB (!cs.isEmpty) := by
  have hs := size_ge
  have e : truD (.str (tx cs)) = .ok (!cs.isEmpty) := by
    unfold truD
    have el : (tx cs).length = cs.length := rfl
    dsimp only
    rw [el, if_pos (by omega)]
    cases cs <;> rfl
  rw [e, ok_ok]
theorem k_eqX {cs : List Nat} (h : ∀ c ∈ cs, c < 0x110000) {Q : D → Prop} : Ok (eqD (.str (tx cs)) (.str "")) Q ↔ Q (.bl cs.isEmpty) := by
  have e : eqD (.str (tx cs)) (.str "") = .ok (.bl cs.isEmpty) := by
    unfold eqD
    rw [tx_ok h, show dok 60 (.str "") = true by kernel_rfl]
    cases cs with
    | nil => rfl
    | cons c cs =>
      have : deq (.str (tx (c :: cs))) (.str "") = false := by
        simp only [deq]
        refine decide_eq_false ?_
        intro e
        have := congrArg (fun z : Str => z.length) e
        have e0 : (Str.ofString "").length = 0 := by kernel_rfl
        rw [show ("" : Str) = Str.ofString "" from rfl, e0] at this
        exact absurd this (by show ¬ cs.length + 1 = 0; omega)
      rw [this]; rfl
  rw [e, ok_ok]
set_option Elab.async false
set_option linter.all false
set_option maxRecDepth 100000
open M PySem L2
theorem need_len {ts : List Tk} {ss : List Sts} (ht : ∀ t ∈ ts, TkOk t) {j : Nat} (hj : j < ts.length) : (ndC ts ss j).length ≤ 3 := by
  unfold ndC needC
  split
  · rename_i n hn
    split
    · simp
    · split
      · rename_i x hx
        exact Nat.le_trans (List.length_filter_le ..) (en_len3 x (((ht _ (tAt_mem hj)).nd n (atI_mem hn)).en x (atI_mem hx)))
      · simp
  · simp
theorem blkS_some {L : List Int} {cl : Bool} {ts : List Tk} {ss : List Sts} {i j : Nat} (h : blkN ts ss i = some j) : blkS L cl ts ss i = some j := by unfold blkS; rw [h]
theorem blkS_none {L : List Int} {cl : Bool} {ts : List Tk} {ss : List Sts} {i : Nat} (h : blkN ts ss i = none) : blkS L cl ts ss i = if cl = true ∧ ndC ts ss i ≠ [] ∧ hRows L ts ss i ≠ [] ∧ (minH (hRows L ts ss i)).1 ≤ L.getD i 0 then some (minH (hRows L ts ss i)).2.2 else none := by unfold blkS; rw [h]
theorem L_at {L : List Int} {i : Nat} (h : i < L.length) : L2.atI (L.map D.int) (i : Int) = some (.int (L.getD i 0)) := by
  rw [atI_nat, List.getElem?_map, List.getElem?_eq_getElem h, List.getD_eq_getElem?_getD, List.getElem?_eq_getElem h]; rfl
theorem p_blocker {w : Str} {rs : List D} {L : List Int} {ts : List Tk} {ss : List Sts} (a b : Bool) (hr : rlW rs) (h3 : ts.length ≤ 3) (ht : ∀ t ∈ ts, TkOk t) (h : St3 ts ss) (hL : L.length = ts.length) (eL : d_Choice_levels [chO w (.tup (srt rs)), seqD a (ts.map tkO)] = .ok (.tup (L.map .int))) {i : Nat} (hi : i < ts.length) : d_Choice_blocker [chO w (.tup (srt rs)), seqD a (ts.map tkO), seqD b (ss.map stD), .int (i : Int)] = .ok (.int (blkI (blkS L (ceilR rs) ts ss i))) := by
  have hs := size_ge
  apply Ok.eq
  unfold d_Choice_blocker m_Choice_blocker
  rw [ok_nox, k_run]
  have eb := p_blocked_by a b h3 ht h hi
  refine seq_cut (fun S => S = [(some (Sl.mk false (chO w (.tup (srt rs))))), (some (Sl.mk false (seqD a (ts.map tkO)))), (some (Sl.mk false (seqD b (ss.map stD)))), (some (Sl.mk false (.int (i : Int)))), (some (Sl.mk false (.int (blkI (blkN ts ss i))))), none, none, none, none]) (by simp? only [eb]) ?_
  rintro S rfl
  cases hb : blkN ts ss i with
  | some j =>
    rw [blkS_some hb]
    have c0 : decide ((0 : Int) ≤ blkI (some j)) = true := decide_eq_true (by show (0 : Int) ≤ (j : Int); omega)
    simp? only [c0]
  | none =>
    rw [blkS_none hb]
    have c0 : decide ((0 : Int) ≤ blkI none) = false := rfl
    by_cases hc : ceilR rs = true
    · by_cases hn : ndC ts ss i = []
      · rw [if_neg (by simp [hn])]
        have e1 : (ndC ts ss i).isEmpty = true := by simp [hn]
        simp? only [c0, k_ch1, (ceil_rl hr).1, hc, tAt_D tkO hi, sAt_D (s_len h hi), e_need ht h hi, k_truX (Nat.le_trans (need_len ht hi) (by omega)), e1]
        rfl
      · have e1 : (ndC ts ss i).isEmpty = false := by simpa using hn
        refine pass_if ?_ ?_
        · simp? only [c0, k_ch1, (ceil_rl hr).1, hc, tAt_D tkO hi, sAt_D (s_len h hi), e_need ht h hi, k_truX (Nat.le_trans (need_len ht hi) (by omega)), e1]
          rfl
        have hrl := hRows_len (ss := ss) ht h3 L i ((List.range ts.length).filter fun j => decide (j ≠ i)) fun j hj => List.mem_range.mp (List.mem_filter.mp hj).1
        have hfl := List.length_filter_le (fun j => decide (j ≠ i)) (List.range ts.length)
        rw [List.length_range] at hfl
        have hrl : (hRows L ts ss i).length ≤ 9 := by unfold hRows; omega
        refine seq_cut (fun S => S = [(some (Sl.mk false (chO w (.tup (srt rs))))), (some (Sl.mk false (seqD a (ts.map tkO)))), (some (Sl.mk false (seqD b (ss.map stD)))), (some (Sl.mk false (.int (i : Int)))), (some (Sl.mk false (.int (blkI none)))), (some (Sl.mk false (.lst ((hRows L ts ss i).map hrD)))), none, none, none]) ?_ ?_
        · simp? only [k_lc2]
          rw [enum_seq, enum_tk]
          rw [lc2_typed (fun (j : Nat) => .tup [.int (j : Int), tkO (tAt ts j)]) (fun c => .str (sg c)) (hdC ts ss) (fun j => decide (j ≠ i)) (fun _ _ => true) (fun j c => hrD (ceilS L (usr ts c), c, j)) (List.range ts.length) ?_]
          · rw [ok_ok]
            have e : (((List.range ts.length).filter fun j => decide (j ≠ i)).flatMap fun j => ((hdC ts ss j).filter fun _ => true).map fun c => hrD (ceilS L (usr ts c), c, j)) = (hRows L ts ss i).map hrD := by
              unfold hRows
              rw [List.map_flatMap]
              congr 1
              funext j
              rw [filter_true fun _ _ => rfl]
              unfold hrOf
              rw [List.map_map]; rfl
            rw [e]
            exact ⟨by rw [List.length_map]; omega, rfl⟩
          · intro j hj
            have hj := List.mem_range.mp hj
            simp? only [k_gtk, unown, sAt_D (s_len h hj), e_held ht h hj, k_itX, dec_nat]
            refine ⟨by first | rfl | trivial | simp [unown], by simp, fun _ => ⟨rfl, fun y hy => ⟨rfl, ?_⟩⟩⟩
            rw [p_ceiling h3 ht hL eL y, ok_ok]
            rfl
        rintro S rfl
        have hcm : ∀ r ∈ hRows L ts ss i, r.2.1 < 0x110000 := fun r hr => by
          obtain ⟨q1, q2, q3⟩ := hRows_mem hr
          exact (hd_us ht q1 q3).2
        by_cases he : hRows L ts ss i = []
        · rw [if_neg (by simp [he])]
          simp? only [he]
          exact ⟨fun q => by simp at q, fun _ => rfl⟩
        · have e2 : ((hRows L ts ss i).map hrD).isEmpty = false := by simpa using he
          simp? only [k_minH he hcm, k_hr0, k_hr2, eL, e2, L_at (show i < L.length by omega)]
          refine ⟨rfl, fun q => ?_, fun q => ?_⟩
          · rw [if_pos ⟨hc, hn, he, of_decide_eq_true q⟩]; rfl
          · rw [if_neg (fun z => of_decide_eq_false q z.2.2.2)]; rfl
    · rw [if_neg (by simp [hc])]
      have hc : ceilR rs = false := by simpa using hc
      simp? only [c0, k_ch1, (ceil_rl hr).1, hc]
set_option Elab.async false
set_option linter.all false
set_option maxRecDepth 100000
open M PySem L2
theorem p_lblocker {w g : Str} {rs : List D} {L : List Int} {sp : D} {ts : List Tk} {ss : List Sts} (b : Bool) (hsp : SpOk sp ts w g) (hru : ∀ {Q : D → Prop}, Ok (ixA sp (.str "rules")) Q ↔ Q (.lst rs)) (hr : rlW rs) (h3 : ts.length ≤ 3) (ht : ∀ t ∈ ts, TkOk t) (h : St3 ts ss) (hL : L.length = ts.length) (eL : d__law_levels [.str w, .lst (ts.map tkL)] = .ok (.lst (L.map .int))) {i : Nat} (hi : i < ts.length) : d__law_blocker [sp, seqD b (ss.map stD), .int (i : Int)] = .ok (.int (blkI (blkS L (ceilR rs) ts ss i))) := by
  have hs := size_ge
  apply Ok.eq
  unfold d__law_blocker m__law_blocker
  rw [ok_nox, k_run]
  have q0 : ∀ {Q : D → Prop}, Ok (ixA sp (.str "tasks")) Q ↔ Q (.lst (ts.map tkL)) := hsp.t
  have q1 : ∀ {Q : D → Prop}, Ok (ixA sp (.str "order")) Q ↔ Q (.str w) := hsp.o
  have eb := p_lblocked b h3 ht h hi
  have n1 : (ndC ts ss i).length ≤ 1000 := Nat.le_trans (need_len ht hi) (by omega)
  have n2 : ∀ c ∈ ndC ts ss i, c < 0x110000 := need_ok (ht _ (tAt_mem hi)) _
  refine seq_cut (fun S => S = [(some (Sl.mk false (sp))), (some (Sl.mk false (seqD b (ss.map stD)))), (some (Sl.mk false (.int (i : Int)))), (some (Sl.mk false (.lst (ts.map tkL)))), none, none, none, none, none, none]) (by simp? only [q0]) ?_
  rintro S rfl
  refine seq_cut (fun S => S = [(some (Sl.mk false (sp))), (some (Sl.mk false (seqD b (ss.map stD)))), (some (Sl.mk false (.int (i : Int)))), (some (Sl.mk false (.lst (ts.map tkL)))), (some (Sl.mk false (.int (blkI (blkN ts ss i))))), none, none, none, none, none]) (by simp? only [eb]) ?_
  rintro S rfl
  cases hb : blkN ts ss i with
  | some j =>
    rw [blkS_some hb]
    have c0 : decide ((0 : Int) ≤ blkI (some j)) = true := decide_eq_true (by show (0 : Int) ≤ (j : Int); omega)
    simp? only [c0]
  | none =>
    rw [blkS_none hb]
    have c0 : decide ((0 : Int) ≤ blkI none) = false := rfl
    by_cases hc : ceilR rs = true
    · by_cases hn : ndC ts ss i = []
      · rw [if_neg (by simp [hn])]
        have e1 : (ndC ts ss i).isEmpty = true := by simp [hn]
        simp? only [c0, hru, (ceil_rl hr).2, hc, tAt_D tkL hi, sAt_D (s_len h hi), e_lneed ht h hi, k_eqX n2, e1]
      · have e1 : (ndC ts ss i).isEmpty = false := by simpa using hn
        refine pass_if ?_ ?_
        · simp? only [c0, hru, (ceil_rl hr).2, hc, tAt_D tkL hi, sAt_D (s_len h hi), e_lneed ht h hi, k_eqX n2, e1]
        have hl9 : ∀ l : List Nat, l.length ≤ 3 → (∀ j ∈ l, j < ts.length) → (l.flatMap (hrOf L ts ss)).length ≤ 9 := fun l h1 h2 => by
          have := hRows_len (ss := ss) ht h3 L i l h2
          omega
        refine seq_cut (fun S => S = [(some (Sl.mk false (sp))), (some (Sl.mk false (seqD b (ss.map stD)))), (some (Sl.mk false (.int (i : Int)))), (some (Sl.mk false (.lst (ts.map tkL)))), (some (Sl.mk false (.int (blkI none)))), (some (Sl.mk false (.lst (L.map .int)))), none, none, none, none]) (by simp? only [q1, eL]) ?_
        rintro S rfl
        refine seq_cut (fun S => S = [(some (Sl.mk false (sp))), (some (Sl.mk false (seqD b (ss.map stD)))), (some (Sl.mk false (.int (i : Int)))), (some (Sl.mk false (.lst (ts.map tkL)))), (some (Sl.mk false (.int (blkI none)))), (some (Sl.mk false (.lst (L.map .int)))), (some (Sl.mk true (.lst []))), none, none, none]) (by simp? only []) ?_
        rintro S rfl
        refine seq_cut (fun S => ∃ o7 o8 o9, S = [(some (Sl.mk false (sp))), (some (Sl.mk false (seqD b (ss.map stD)))), (some (Sl.mk false (.int (i : Int)))), (some (Sl.mk false (.lst (ts.map tkL)))), (some (Sl.mk false (.int (blkI none)))), (some (Sl.mk false (.lst (L.map .int)))), (some (Sl.mk true (.lst ((hRows L ts ss i).map hrD)))), o7, o8, o9]) ?_ ?_
        · simp? only []
          refine ⟨⟨by omega, by omega⟩, ?_⟩
          rw [rngL_0]
          refine for_typed (fun (j : Nat) => .int (j : Int)) (fun done S => ∃ o7 o8 o9, S = [(some (Sl.mk false (sp))), (some (Sl.mk false (seqD b (ss.map stD)))), (some (Sl.mk false (.int (i : Int)))), (some (Sl.mk false (.lst (ts.map tkL)))), (some (Sl.mk false (.int (blkI none)))), (some (Sl.mk false (.lst (L.map .int)))), (some (Sl.mk true (.lst (((done.filter fun j => decide (j ≠ i)).flatMap (hrOf L ts ss)).map hrD)))), o7, o8, o9]) (List.range ts.length) _ ⟨none, none, none, rfl⟩ ?_ ?_
          · rintro done j rest S hrr ⟨o7, o8, o9, rfl⟩
            have hj : j < ts.length := List.mem_range.mp (by rw [hrr]; simp)
            have hdl : done.length < 3 := by have := congrArg List.length hrr; simp at this; omega
            have hdm : ∀ k ∈ done.filter (fun j => decide (j ≠ i)), k < ts.length := fun k hk => List.mem_range.mp (by rw [hrr]; exact List.mem_append_left _ (List.mem_filter.mp hk).1)
            have hd9 := hl9 (done.filter fun j => decide (j ≠ i)) (by have := List.length_filter_le (fun j => decide (j ≠ i)) done; omega) hdm
            have hj3 := hd_len (ss := ss) ht hj
            simp? only [dec_nat]
            refine ⟨fun q => ?_, fun q => ?_⟩
            · have hne : j ≠ i := by simpa using q
              refine k_lcM (fun c => .str (sg c)) (fun c => hrD (ceilS L (usr ts c), c, j)) (hdC ts ss j) ?_ (by omega) ?_ ?_
              · simp? only [tAt_D tkL hj, sAt_D (s_len h hj), e_lheld ht h hj, k_itX]
              · intro c hcc
                obtain ⟨u1, u2⟩ := hd_us ht hj hcc
                have une := usr_ne hj u1
                have pu : d__law_users [.lst (ts.map tkL), .str (sg c)] = .ok (.lst ((usr ts c).map fun (i : Nat) => .int (i : Int))) := p_users h3 ht c
                have hU : ∀ k ∈ usr ts c, k < ts.length := fun k hk => List.mem_range.mp (List.mem_filter.mp hk).1
                have hUl : (usr ts c).length ≤ ts.length := by
                  have := List.length_filter_le (fun k => us c (tAt ts k)) (List.range ts.length)
                  rw [List.length_range] at this
                  exact this
                have ec : ceilS L (usr ts c) = minL ((usr ts c).map fun i => L.getD i 0) := if_neg une
                simp? only [pu]
                refine k_lcM (fun (k : Nat) => .int (k : Int)) (fun k => .int (L.getD k 0)) (usr ts c) (by simp? only [pu]) (by omega) ?_ ?_
                · intro k hk
                  simp? only [L_at (show k < L.length by rw [hL]; exact hU k hk)]
                · simp? only [k_minM _ une]
                  rw [← ec]; rfl
              · simp? only []
                have ef : (done ++ [j]).filter (fun j => decide (j ≠ i)) = (done.filter fun j => decide (j ≠ i)) ++ [j] := by
                  rw [List.filter_append, List.filter_cons_of_pos (by simp [hne]), List.filter_nil]
                refine ⟨_, rfl, by rw [List.length_map]; omega, _, _, _, by rw [ef, List.flatMap_append, List.map_append, List.flatMap_singleton]; unfold hrOf; rw [List.map_map]; rfl⟩
            · have hne : j = i := by simpa using q
              have ef : (done ++ [j]).filter (fun j => decide (j ≠ i)) = done.filter fun j => decide (j ≠ i) := by
                rw [List.filter_append, List.filter_cons_of_neg (by simp [hne]), List.filter_nil, List.append_nil]
              exact ⟨_, _, _, by rw [ef]⟩
          · rintro S ⟨o7, o8, o9, rfl⟩
            exact ⟨rfl, _, _, _, rfl⟩
        rintro S ⟨o7, o8, o9, rfl⟩
        have hcm : ∀ r ∈ hRows L ts ss i, r.2.1 < 0x110000 := fun r hr => by
          obtain ⟨q1, q2, q3⟩ := hRows_mem hr
          exact (hd_us ht q1 q3).2
        by_cases he : hRows L ts ss i = []
        · rw [if_neg (by simp [he])]
          simp? only [he]
          exact ⟨fun q => by simp at q, fun _ => rfl⟩
        · have e2 : decide ((0 : Int) < ((hRows L ts ss i).length : Int)) = true := decide_eq_true (by have := List.length_pos_iff.mpr he; omega)
          simp? only [k_minH he hcm, k_hr0, k_hr2, e2, L_at (show i < L.length by omega)]
          refine ⟨fun q => ?_, fun q => ?_⟩
          · rw [if_pos ⟨hc, hn, he, of_decide_eq_true q⟩]; rfl
          · rw [if_neg (fun z => of_decide_eq_false q z.2.2.2)]; rfl
    · rw [if_neg (by simp [hc])]
      have hc : ceilR rs = false := by simpa using hc
      simp? only [c0, hru, (ceil_rl hr).2, hc]
set_option Elab.async false
set_option linter.all false
set_option maxRecDepth 100000
open M PySem L2
abbrev MA := List Nat × Option Nat
def stpM (f : Nat → Option Nat) (ld : Bool) : MA → MA
  | (m, some a) => if ld = true ∧ a ∉ m then (m ++ [a], f a) else (m, some a)
  | (m, none) => (m, none)
def itM (f : Nat → Option Nat) (ld : Bool) : Nat → MA → MA
  | 0, s => s
  | k + 1, s => itM f ld k (stpM f ld s)
theorem stpM_s {f : Nat → Option Nat} {ld : Bool} {m : List Nat} {a : Nat} : stpM f ld (m, some a) = if ld = true ∧ a ∉ m then (m ++ [a], f a) else (m, some a) := rfl
theorem nd_lenN : ∀ (n : Nat) (l : List Nat), l.Nodup → (∀ x ∈ l, x < n) → l.length ≤ n
  | 0, [], _, _ => Nat.le_refl _
  | 0, x :: l, _, h => absurd (h x (List.mem_cons_self ..)) (Nat.not_lt_zero _)
  | n + 1, l, hd, h => by
    by_cases hn : n ∈ l
    · have h1 := nd_lenN n (l.erase n) (hd.erase n) fun x hx => by
        obtain ⟨h2, h3⟩ := (hd.mem_erase_iff).mp hx
        have := h x h3
        omega
      rw [List.length_erase_of_mem hn] at h1
      omega
    · have h1 := nd_lenN n l hd fun x hx => by
        have := h x hx
        have : x ≠ n := fun e => hn (e ▸ hx)
        omega
      omega
theorem itM_stp (f : Nat → Option Nat) (ld : Bool) : ∀ (k : Nat) (s : MA), itM f ld k (stpM f ld s) = stpM f ld (itM f ld k s)
  | 0, s => rfl
  | k + 1, s => itM_stp f ld k (stpM f ld s)
theorem itM_succ (f : Nat → Option Nat) (ld : Bool) (k : Nat) (s : MA) : itM f ld (k + 1) s = stpM f ld (itM f ld k s) := itM_stp f ld k s
theorem itM_fix {f : Nat → Option Nat} {ld : Bool} {s : MA} (h : stpM f ld s = s) : ∀ k, itM f ld k s = s
  | 0 => rfl
  | k + 1 => by rw [itM, h, itM_fix h k]
structure MOk (n : Nat) (s : MA) : Prop where
  ne : s.1 ≠ []
  nd : s.1.Nodup
  lt : ∀ x ∈ s.1, x < n
  al : ∀ a, s.2 = some a → a < n
theorem MOk.len {n : Nat} {s : MA} (h : MOk n s) : s.1.length ≤ n := nd_lenN n s.1 h.nd h.lt
theorem MOk.stp {n : Nat} {f : Nat → Option Nat} {ld : Bool} (hf : ∀ i j, i < n → f i = some j → j < n) {s : MA} (h : MOk n s) : MOk n (stpM f ld s) := by
  obtain ⟨m, a⟩ := s
  cases a with
  | none => exact h
  | some a =>
    rw [stpM_s]
    by_cases hc : ld = true ∧ a ∉ m
    · rw [if_pos hc]
      have ha := h.al a rfl
      refine ⟨by simp, ?_, ?_, fun j hj => hf a j ha hj⟩
      · rw [List.nodup_append]
        exact ⟨h.nd, by simp, fun x hx y hy => by simp at hy; subst hy; rintro rfl; exact hc.2 hx⟩
      · intro x hx
        rcases List.mem_append.mp hx with hx | hx
        · exact h.lt x hx
        · simp at hx; subst hx; exact ha
    · rw [if_neg hc]; exact h
theorem MOk.it {n : Nat} {f : Nat → Option Nat} {ld : Bool} (hf : ∀ i j, i < n → f i = some j → j < n) : ∀ (k : Nat) {s : MA}, MOk n s → MOk n (itM f ld k s)
  | 0, s, h => h
  | k + 1, s, h => MOk.it hf k (h.stp hf)
theorem stpM_or {f : Nat → Option Nat} {ld : Bool} (s : MA) : stpM f ld s = s ∨ (stpM f ld s).1.length = s.1.length + 1 := by
  obtain ⟨m, a⟩ := s
  cases a with
  | none => exact .inl rfl
  | some a =>
    rw [stpM_s]
    by_cases hc : ld = true ∧ a ∉ m
    · rw [if_pos hc]; exact .inr (by simp)
    · rw [if_neg hc]; exact .inl rfl
theorem itM_or {f : Nat → Option Nat} {ld : Bool} : ∀ (k : Nat) (s : MA), stpM f ld (itM f ld k s) = itM f ld k s ∨ (itM f ld k s).1.length = s.1.length + k
  | 0, s => .inr rfl
  | k + 1, s => by
    rcases stpM_or (f := f) (ld := ld) s with h | h
    · rw [itM_fix h]; exact .inl h
    · rcases itM_or (f := f) (ld := ld) k (stpM f ld s) with h2 | h2
      · exact .inl h2
      · exact .inr (by rw [itM, h2, h]; omega)
theorem itM_done {n : Nat} {f : Nat → Option Nat} {ld : Bool} (hf : ∀ i j, i < n → f i = some j → j < n) {s : MA} (h : MOk n s) : stpM f ld (itM f ld n s) = itM f ld n s := by
  rcases itM_or (f := f) (ld := ld) n s with h2 | h2
  · exact h2
  · have h1 := (h.it hf (ld := ld) n).len
    have := List.length_pos_iff.mpr h.ne
    omega
theorem itM_same {n : Nat} {f : Nat → Option Nat} {ld : Bool} (hf : ∀ i j, i < n → f i = some j → j < n) {s : MA} (h : MOk n s) : itM f ld n (stpM f ld s) = itM f ld n s := by
  rw [itM_stp, itM_done hf h]
def chS (f : Nat → Option Nat) (ld : Bool) (n job : Nat) : Option Nat := match itM f ld n ([job], f job) with
  | (m, none) => m.getLast?
  | (_, some _) => none
theorem MOk.one {n job : Nat} {f : Nat → Option Nat} (hf : ∀ i j, i < n → f i = some j → j < n) (h : job < n) : MOk n ([job], f job) := ⟨by simp, by simp, by simpa using h, fun a ha => hf job a h ha⟩
theorem blkS_lt {L : List Int} {cl : Bool} {ts : List Tk} {ss : List Sts} {i j : Nat} (h : blkS L cl ts ss i = some j) : j < ts.length ∧ hdC ts ss j ≠ [] := by
  unfold blkS at h
  split at h
  · rename_i k hk
    cases h
    unfold blkN at hk
    obtain ⟨l1, c, l2, e, hc, _⟩ := List.findSome?_eq_some_iff.mp hk
    unfold hldN at hc
    obtain ⟨_, j', _, e2, hj, _⟩ := List.findSome?_eq_some_iff.mp hc
    split at hj
    · rename_i hh
      cases hj
      unfold holds at hh
      simp only [Bool.and_eq_true, decide_eq_true_eq] at hh
      have hm : j ∈ List.range ts.length := by rw [e2]; simp
      exact ⟨List.mem_range.mp hm, fun e0 => by rw [e0] at hh; exact absurd hh.2 (by simp)⟩
    · cases hj
  · split at h
    · rename_i hc
      cases h
      have hm := hRows_mem (minH_mem hc.2.2.1)
      exact ⟨hm.1, fun e0 => by rw [e0] at hm; exact absurd hm.2.2 (by simp)⟩
    · cases h
theorem held_op {ns : List Node} {s : Sts} (h : StV ns s) (hc : heldC ns s ≠ []) : unfS ns s = true := by
  cases h with
  | none =>
    exfalso
    apply hc
    unfold heldC
    split
    · rw [if_pos (by left; decide)]
    · rfl
  | job v a d o n hn hv hd hl ho =>
    unfold heldC at hc
    rw [show ((v, a, d, o) : Sts).1 = v from rfl, hn] at hc
    dsimp only at hc
    by_cases q : v < 0 ∨ o = 1 ∨ d = 0 ∨ d = n.1.length
    · rw [if_pos q] at hc; exact absurd rfl hc
    · unfold unfS
      dsimp only
      rw [lenN_of hn, decide_eq_true hv, decide_eq_true (show d < (n.1.length : Int) by omega)]
      simp
theorem blkS_op {L : List Int} {cl : Bool} {ts : List Tk} {ss : List Sts} {i j : Nat} (hs3 : St3 ts ss) (h : blkS L cl ts ss i = some j) : j < ts.length ∧ op ts ss j = true := by
  obtain ⟨h1, h2⟩ := blkS_lt h
  exact ⟨h1, held_op (hs3.ok j h1) h2⟩
def urgN (w g : Str) (ts : List Tk) (ss : List Sts) : List Nat := (urg w g ts ss).map Int.toNat
theorem urg_mem {w g : Str} {ts : List Tk} {ss : List Sts} {x : Int} (h : x ∈ urg w g ts ss) : ∃ i : Nat, x = (i : Int) ∧ i < ts.length ∧ op ts ss i = true := by
  unfold urg at h
  obtain ⟨z, hz, rfl⟩ := List.mem_map.mp h
  have hz := List.mem_mergeSort.mp hz
  unfold rows at hz
  obtain ⟨i, hi, rfl⟩ := List.mem_map.mp hz
  obtain ⟨h1, h2⟩ := List.mem_filter.mp hi
  exact ⟨i, rfl, List.mem_range.mp h1, h2⟩
theorem urgN_D (w g : Str) (ts : List Tk) (ss : List Sts) : (urg w g ts ss).map D.int = (urgN w g ts ss).map fun (i : Nat) => .int (i : Int) := by
  unfold urgN
  rw [List.map_map]
  refine List.map_congr_left fun x hx => ?_
  obtain ⟨i, rfl, _⟩ := urg_mem hx
  rfl
theorem urgN_mem {w g : Str} {ts : List Tk} {ss : List Sts} {i : Nat} (h : i ∈ urgN w g ts ss) : i < ts.length ∧ op ts ss i = true := by
  unfold urgN at h
  obtain ⟨x, hx, rfl⟩ := List.mem_map.mp h
  obtain ⟨i, rfl, h2⟩ := urg_mem hx
  exact h2
def choN (f : Nat → Option Nat) (ld : Bool) (w g : Str) (ts : List Tk) (ss : List Sts) : Option Nat := (urgN w g ts ss).findSome? (chS f ld ts.length)
set_option Elab.async false
set_option linter.all false
set_option maxRecDepth 100000
open M PySem L2
def nnL (m : List Nat) : List D := (m.map fun (i : Nat) => (i : Int)).map .int
theorem nnL_snoc (m : List Nat) (a : Nat) : nnL m ++ [.int (a : Int)] = nnL (m ++ [a]) := by unfold nnL; simp
theorem nnL_len (m : List Nat) : (nnL m).length = m.length := by unfold nnL; simp
theorem k_ninN {m : List Nat} {a : Nat} {Q : D → Prop} : Ok (notInD (.int (a : Int)) (.lst (nnL m))) Q ↔ Q (.bl (!decide (a ∈ m))) := by
  unfold nnL
  rw [k_ninI]
  have e : decide ((a : Int) ∈ m.map fun (i : Nat) => (i : Int)) = decide (a ∈ m) := decide_eq_decide.mpr ⟨fun h => by
    obtain ⟨x, hx, e⟩ := List.mem_map.mp h
    have : x = a := by omega
    exact this ▸ hx, fun h => List.mem_map_of_mem h⟩
  rw [e]
theorem nnL_last {m : List Nat} {j : Nat} (h : m.getLast? = some j) : L2.atI (nnL m) (-1) = some (.int (j : Int)) := by
  have hl : 0 < m.length := by cases m with | nil => cases h | cons x m => simp
  unfold L2.atI ixN
  rw [if_neg (by decide), nnL_len, if_pos (by omega)]
  rw [List.getLast?_eq_getElem?] at h
  show (nnL m)[((-1 : Int) + m.length).toNat]? = _
  rw [show ((-1 : Int) + m.length).toNat = m.length - 1 by omega]
  unfold nnL
  rw [List.getElem?_map, List.getElem?_map, h]; rfl
theorem blkI_none : decide ((0 : Int) ≤ blkI none) = false := rfl
theorem blkI_lt0 : decide (blkI none < (0 : Int)) = true := rfl
theorem blkI_lt1 (j : Nat) : decide (blkI (some j) < (0 : Int)) = false := decide_eq_false (by show ¬ (j : Int) < 0; omega)
theorem blkI_j (j : Nat) : D.int (blkI (some j)) = .int (j : Int) := rfl
theorem p_call {w g : Str} {rs : List D} {L : List Int} {ts : List Tk} {ss : List Sts} (b : Bool) (a : Bool) (hw : ordW w) (hg : grdW g) (hr : rlW rs) (h3 : ts.length ≤ 3) (ht : ∀ t ∈ ts, TkOk t) (h : St3 ts ss) (hL : L.length = ts.length) (eL : d_Choice_levels [chO w (.tup (srt rs)), seqD a (ts.map tkO)] = .ok (.tup (L.map .int))) : d_Choice___call__ [chO w (.tup (srt rs)), seqD a (ts.map tkO), seqD b (ss.map stD), .str g] = .ok (.int (blkI (choN (blkS L (ceilR rs) ts ss) (lendR rs) w g ts ss))) := by
  have hs := size_ge
  apply Ok.eq
  unfold d_Choice___call__ m_Choice___call__
  rw [ok_nox, k_run, k_seq, k_for]
  have hf : ∀ i j, i < ts.length → blkS L (ceilR rs) ts ss i = some j → j < ts.length := fun i j _ q => (blkS_lt q).1
  have eb : ∀ i, i < ts.length → d_Choice_blocker [chO w (.tup (srt rs)), seqD a (ts.map tkO), seqD b (ss.map stD), .int (i : Int)] = .ok (.int (blkI (blkS L (ceilR rs) ts ss i))) := fun i hi => p_blocker a b hr h3 ht h hL eL hi
  generalize hF : blkS L (ceilR rs) ts ss = f at hf eb
  have eu := p_urgent (r := .tup (srt rs)) a b hw hg h3 ht h
  rw [urgN_D] at eu
  simp? only [eu]
  refine ⟨rfl, ?_⟩
  refine for_first (fun (i : Nat) => .int (i : Int)) (chS f (lendR rs) ts.length) (fun S => ∃ o4 o5 o6, S = [(some (Sl.mk false (chO w (.tup (srt rs))))), (some (Sl.mk false (seqD a (ts.map tkO)))), (some (Sl.mk false (seqD b (ss.map stD)))), (some (Sl.mk false (.str g))), o4, o5, o6]) (urgN w g ts ss) _ ⟨none, none, none, rfl⟩ ?_ ?_ ?_
  · rintro job hj S ⟨o4, o5, o6, rfl⟩
    have hj := (urgN_mem hj).1
    refine Ok.mono (P := fun S1 => S1 = [(some (Sl.mk false (chO w (.tup (srt rs))))), (some (Sl.mk false (seqD a (ts.map tkO)))), (some (Sl.mk false (seqD b (ss.map stD)))), (some (Sl.mk false (.str g))), (some (Sl.mk false (.int (job : Int)))), o5, o6]) (by simp? only []) ?_
    rintro S1 rfl
    refine seq_cut (fun S => S = [(some (Sl.mk false (chO w (.tup (srt rs))))), (some (Sl.mk false (seqD a (ts.map tkO)))), (some (Sl.mk false (seqD b (ss.map stD)))), (some (Sl.mk false (.str g))), (some (Sl.mk false (.int (job : Int)))), (some (Sl.mk true (.lst (nnL [job])))), o6]) ?_ ?_
    · simp? only []
      rfl
    rintro S rfl
    refine seq_cut (fun S => S = [(some (Sl.mk false (chO w (.tup (srt rs))))), (some (Sl.mk false (seqD a (ts.map tkO)))), (some (Sl.mk false (seqD b (ss.map stD)))), (some (Sl.mk false (.str g))), (some (Sl.mk false (.int (job : Int)))), (some (Sl.mk true (.lst (nnL [job])))), (some (Sl.mk false (.int (blkI (f job)))))]) ?_ ?_
    · simp? only [eb job hj]
      rfl
    rintro S rfl
    have M0 : MOk ts.length ([job], f job) := MOk.one hf hj
    have hdn := itM_done (ld := lendR rs) hf M0
    have Mn := M0.it (ld := lendR rs) hf ts.length
    have eCh : chS f (lendR rs) ts.length job = match itM f (lendR rs) ts.length ([job], f job) with | (m, none) => m.getLast? | (_, some _) => none := rfl
    rw [eCh]
    refine seq_cut (fun S => ∃ s : MA, s = itM f (lendR rs) ts.length ([job], f job) ∧ S = [(some (Sl.mk false (chO w (.tup (srt rs))))), (some (Sl.mk false (seqD a (ts.map tkO)))), (some (Sl.mk false (seqD b (ss.map stD)))), (some (Sl.mk false (.str g))), (some (Sl.mk false (.int (job : Int)))), (some (Sl.mk true (.lst (nnL s.1)))), (some (Sl.mk false (.int (blkI s.2))))]) ?_ ?_
    · refine while_inv (fun k S => ∃ s : MA, MOk ts.length s ∧ itM f (lendR rs) ts.length s = itM f (lendR rs) ts.length ([job], f job) ∧ k + s.1.length = ts.length ∧ S = [(some (Sl.mk false (chO w (.tup (srt rs))))), (some (Sl.mk false (seqD a (ts.map tkO)))), (some (Sl.mk false (seqD b (ss.map stD)))), (some (Sl.mk false (.str g))), (some (Sl.mk false (.int (job : Int)))), (some (Sl.mk true (.lst (nnL s.1)))), (some (Sl.mk false (.int (blkI s.2))))]) (ts.length - 1) 100 _ (by omega) ⟨_, M0, rfl, by simp; omega, rfl⟩ ?_
      rintro k S ⟨⟨m, x⟩, Ms, es, hk, rfl⟩
      have ml := Ms.len
      cases x with
      | none =>
        have ex : stpM f (lendR rs) (m, none) = (m, none) := rfl
        simp? only [k_ch1, (lend_rl hr).1, blkI_none]
        exact ⟨fun _ => ⟨(m, none), by rw [← es, itM_fix ex], rfl⟩, fun _ => ⟨(m, none), by rw [← es, itM_fix ex], rfl⟩⟩
      | some x =>
        have hx := Ms.al x rfl
        rw [blkI_j]
        by_cases hc : lendR rs = true ∧ x ∉ m
        · have ex : stpM f (lendR rs) (m, some x) = (m ++ [x], f x) := by rw [stpM_s, if_pos hc]
          simp? only [k_ch1, (lend_rl hr).1, k_ninN, eb x hx]
          have M1 := Ms.stp (ld := lendR rs) hf
          rw [ex] at M1
          have l1 := M1.len
          have l2 : (m ++ [x]).length = m.length + 1 := by simp
          have hk : k + m.length = ts.length := hk
          have l1 : (m ++ [x]).length ≤ ts.length := l1
          refine ⟨fun _ => ⟨fun _ => ⟨fun _ => ⟨by rw [nnL_len]; have ml : m.length ≤ ts.length := ml; omega, rfl, k - 1, by omega, (m ++ [x], f x), M1, by rw [← ex, itM_same hf Ms, es], by show k - 1 + (m ++ [x]).length = _; omega, by rw [nnL_snoc]⟩, fun q => ?_⟩, fun q => ?_⟩, fun q => ?_⟩
          · exact absurd (by simpa using q) hc.2
          · exact absurd (by omega) (of_decide_eq_false q)
          · rw [hc.1] at q; exact nomatch q
        · have ex : stpM f (lendR rs) (m, some x) = (m, some x) := by rw [stpM_s, if_neg hc]
          simp? only [k_ch1, (lend_rl hr).1, k_ninN, eb x hx]
          have fin : ∃ s : MA, s = itM f (lendR rs) ts.length ([job], f job) ∧ (m, some x) = s := ⟨_, by rw [← es, itM_fix ex], rfl⟩
          refine ⟨fun q1 => ⟨fun q2 => ⟨fun q3 => absurd ⟨q1, of_decide_eq_false q3⟩ hc, fun q => ?_⟩, fun q => ?_⟩, fun q => ?_⟩
          all_goals exact ⟨(m, some x), by rw [← es, itM_fix ex], rfl⟩
    · rintro S ⟨⟨m, x⟩, es, rfl⟩
      rw [← es]
      rw [← es] at Mn
      cases x with
      | none =>
        obtain ⟨j, hj⟩ : ∃ j, m.getLast? = some j := ⟨_, List.getLast?_eq_some_getLast Mn.ne⟩
        simp? only [blkI_lt0]
        exact ⟨_, nnL_last hj, fun k hk => (by rw [hj] at hk; cases hk; rfl), fun hk => (by rw [hj] at hk; cases hk)⟩
      | some x =>
        simp? only [blkI_lt1]
        exact ⟨_, _, _, rfl⟩
  · intro j hj S
    unfold choN
    rw [hj]; rfl
  · rintro hn S ⟨o4, o5, o6, rfl⟩
    simp? only []
    unfold choN
    rw [hn]; rfl
set_option Elab.async false
set_option linter.all false
set_option maxRecDepth 100000
open M PySem L2
theorem p_lchosen {w g : Str} {rs : List D} {L : List Int} {sp : D} {ts : List Tk} {ss : List Sts} (b : Bool) (hsp : SpOk sp ts w g) (hru : ∀ {Q : D → Prop}, Ok (ixA sp (.str "rules")) Q ↔ Q (.lst rs)) (hw : ordW w) (hg : grdW g) (hr : rlW rs) (h3 : ts.length ≤ 3) (ht : ∀ t ∈ ts, TkOk t) (h : St3 ts ss) (hL : L.length = ts.length) (eL : d__law_levels [.str w, .lst (ts.map tkL)] = .ok (.lst (L.map .int))) : d__law_chosen [sp, seqD b (ss.map stD)] = .ok (.int (blkI (choN (blkS L (ceilR rs) ts ss) (lendR rs) w g ts ss))) := by
  have hs := size_ge
  apply Ok.eq
  unfold d__law_chosen m__law_chosen
  rw [ok_nox, k_run, k_seq, k_for]
  have q0 : ∀ {Q : D → Prop}, Ok (ixA sp (.str "tasks")) Q ↔ Q (.lst (ts.map tkL)) := hsp.t
  have hf : ∀ i j, i < ts.length → blkS L (ceilR rs) ts ss i = some j → j < ts.length := fun i j _ q => (blkS_lt q).1
  have eb : ∀ i, i < ts.length → d__law_blocker [sp, seqD b (ss.map stD), .int (i : Int)] = .ok (.int (blkI (blkS L (ceilR rs) ts ss i))) := fun i hi => p_lblocker b hsp hru hr h3 ht h hL eL hi
  generalize hF : blkS L (ceilR rs) ts ss = f at hf eb
  have eu := p_lurgent (r := .non) b hsp hw hg h3 ht h
  rw [urgN_D] at eu
  simp? only [eu]
  refine for_first (fun (i : Nat) => .int (i : Int)) (chS f (lendR rs) ts.length) (fun S => ∃ o2 o3 o4 o5, S = [(some (Sl.mk false (sp))), (some (Sl.mk false (seqD b (ss.map stD)))), o2, o3, o4, o5]) (urgN w g ts ss) _ ⟨none, none, none, none, rfl⟩ ?_ ?_ ?_
  · rintro job hj S ⟨o2, o3, o4, o5, rfl⟩
    have hj := (urgN_mem hj).1
    refine Ok.mono (P := fun S1 => S1 = [(some (Sl.mk false (sp))), (some (Sl.mk false (seqD b (ss.map stD)))), (some (Sl.mk false (.int (job : Int)))), o3, o4, o5]) (by simp? only []) ?_
    rintro S1 rfl
    refine seq_cut (fun S => S = [(some (Sl.mk false (sp))), (some (Sl.mk false (seqD b (ss.map stD)))), (some (Sl.mk false (.int (job : Int)))), (some (Sl.mk true (.lst (nnL [job])))), o4, o5]) ?_ ?_
    · simp? only []
      rfl
    rintro S rfl
    refine seq_cut (fun S => S = [(some (Sl.mk false (sp))), (some (Sl.mk false (seqD b (ss.map stD)))), (some (Sl.mk false (.int (job : Int)))), (some (Sl.mk true (.lst (nnL [job])))), (some (Sl.mk false (.int (blkI (f job))))), o5]) ?_ ?_
    · simp? only [eb job hj]
    rintro S rfl
    have M0 : MOk ts.length ([job], f job) := MOk.one hf hj
    have Mn := M0.it (ld := lendR rs) hf ts.length
    have eCh : chS f (lendR rs) ts.length job = match itM f (lendR rs) ts.length ([job], f job) with | (m, none) => m.getLast? | (_, some _) => none := rfl
    rw [eCh]
    refine seq_cut (fun S => ∃ (s : MA) (o : Option Sl), s = itM f (lendR rs) ts.length ([job], f job) ∧ S = [(some (Sl.mk false (sp))), (some (Sl.mk false (seqD b (ss.map stD)))), (some (Sl.mk false (.int (job : Int)))), (some (Sl.mk true (.lst (nnL s.1)))), (some (Sl.mk false (.int (blkI s.2)))), o]) ?_ ?_
    · simp? only [q0]
      refine ⟨⟨by omega, by omega⟩, ?_⟩
      rw [rngL_0]
      refine for_typed (fun (j : Nat) => .int (j : Int)) (fun done S => ∃ (s : MA) (o : Option Sl), s = itM f (lendR rs) done.length ([job], f job) ∧ S = [(some (Sl.mk false (sp))), (some (Sl.mk false (seqD b (ss.map stD)))), (some (Sl.mk false (.int (job : Int)))), (some (Sl.mk true (.lst (nnL s.1)))), (some (Sl.mk false (.int (blkI s.2)))), o]) (List.range ts.length) _ ⟨_, o5, rfl, rfl⟩ ?_ ?_
      · rintro done k rest S hrr ⟨⟨m, x⟩, o, es, rfl⟩
        have Ms := M0.it (ld := lendR rs) hf done.length
        rw [← es] at Ms
        have ml : m.length ≤ ts.length := Ms.len
        have el : (done ++ [k]).length = done.length + 1 := by simp
        rw [el, itM_succ, ← es]
        refine Ok.mono (P := fun S1 => S1 = [(some (Sl.mk false (sp))), (some (Sl.mk false (seqD b (ss.map stD)))), (some (Sl.mk false (.int (job : Int)))), (some (Sl.mk true (.lst (nnL m)))), (some (Sl.mk false (.int (blkI x)))), (some (Sl.mk false (.int (k : Int))))]) (by simp? only []) ?_
        rintro S1 rfl
        cases x with
        | none =>
          have ex : stpM f (lendR rs) (m, none) = (m, none) := rfl
          rw [ex]
          simp? only [hru, (lend_rl hr).2, blkI_none]
          exact ⟨fun _ => ⟨(m, none), _, rfl, rfl⟩, fun _ => ⟨(m, none), _, rfl, rfl⟩⟩
        | some x =>
          have hx := Ms.al x rfl
          rw [blkI_j]
          by_cases hc : lendR rs = true ∧ x ∉ m
          · have ex : stpM f (lendR rs) (m, some x) = (m ++ [x], f x) := by rw [stpM_s, if_pos hc]
            rw [ex]
            simp? only [hru, (lend_rl hr).2, k_ninN, eb x hx]
            refine ⟨fun _ => ⟨fun _ => ⟨fun _ => ⟨by rw [nnL_len]; omega, (m ++ [x], f x), _, rfl, by rw [nnL_snoc]⟩, fun q => ?_⟩, fun q => ?_⟩, fun q => ?_⟩
            · exact absurd (by simpa using q) hc.2
            · exact absurd (by omega) (of_decide_eq_false q)
            · rw [hc.1] at q; exact nomatch q
          · have ex : stpM f (lendR rs) (m, some x) = (m, some x) := by rw [stpM_s, if_neg hc]
            rw [ex]
            simp? only [hru, (lend_rl hr).2, k_ninN, eb x hx]
            refine ⟨fun q1 => ⟨fun q2 => ⟨fun q3 => absurd ⟨q1, of_decide_eq_false q3⟩ hc, fun q => ?_⟩, fun q => ?_⟩, fun q => ?_⟩
            all_goals exact ⟨(m, some x), _, rfl, rfl⟩
      · rintro S ⟨s, o, es, rfl⟩
        rw [List.length_range] at es
        exact ⟨rfl, s, o, es, rfl⟩
    · rintro S ⟨⟨m, x⟩, o, es, rfl⟩
      rw [← es]
      rw [← es] at Mn
      cases x with
      | none =>
        obtain ⟨j, hj⟩ : ∃ j, m.getLast? = some j := ⟨_, List.getLast?_eq_some_getLast Mn.ne⟩
        simp? only [blkI_lt0]
        exact ⟨_, nnL_last hj, fun k hk => (by rw [hj] at hk; cases hk; rfl), fun hk => (by rw [hj] at hk; cases hk)⟩
      | some x =>
        simp? only [blkI_lt1]
        exact ⟨_, _, _, _, rfl⟩
  · intro j hj S
    unfold choN
    rw [hj]; rfl
  · rintro hn S ⟨o2, o3, o4, o5, rfl⟩
    simp? only []
    unfold choN
    rw [hn]; rfl
set_option Elab.async false
set_option linter.all false
set_option maxRecDepth 100000
open M PySem L2
def nxt (steps : List T3) (s b : Int) : List Int := (steps.filter fun e => decide (e.1 = s ∧ e.2.1 = b)).map (·.2.2)
def getTu (o : Option D) : List D := match o with | some (.tup xs) => xs | _ => []
def mvStep (z : List (List Key) × List D) (e : T3) : List (List Key) × List D :=
  putL z.1 z.2 [.inl e.1, .inl e.2.1] (.tup (getTu (getL z.1 z.2 [.inl e.1, .inl e.2.1]) ++ [.int e.2.2]))
def mvs (steps : List T3) : List (List Key) × List D := steps.foldl mvStep ([], [])
def mvD (steps : List T3) : D := .dit (mvs steps).1 (mvs steps).2
def supO (size : Int) (steps : List T3) (starts : List Int) : D := .obj 3 [.int size, .tup (steps.map tD), .tup (starts.map .int), mvD steps]
theorem su_0 {size : Int} {steps : List T3} {starts : List Int} : fldD 3 0 (supO size steps starts) = .ok (.int size) := rfl
theorem mvs_snoc (xs : List T3) (e : T3) : mvs (xs ++ [e]) = mvStep (mvs xs) e := by unfold mvs; rw [List.foldl_append]; rfl
theorem nxt_snoc (xs : List T3) (e : T3) (s b : Int) : nxt (xs ++ [e]) s b = nxt xs s b ++ (if e.1 = s ∧ e.2.1 = b then [e.2.2] else []) := by
  unfold nxt
  rw [List.filter_append, List.map_append]
  by_cases h : e.1 = s ∧ e.2.1 = b <;> simp [h]
theorem getL_put {κ : Type} [DecidableEq κ] {q q' : κ} {d : D} : ∀ {ks : List κ} {ds : List D}, ks.length = ds.length → getL (putL ks ds q d).1 (putL ks ds q d).2 q' = if q = q' then some d else getL ks ds q'
  | [], [], _ => by
    show getL [q] [d] q' = _
    simp only [getL]
  | [], _ :: _, h => by simp at h
  | _ :: _, [], h => by simp at h
  | x :: ks, y :: ds, h => by
    have ih := getL_put (q := q) (q' := q') (d := d) (ks := ks) (ds := ds) (by simpa using h)
    unfold putL at ih ⊢
    rw [List.idxOf?_cons]
    by_cases hx : x = q
    · subst hx
      simp only [beq_self_eq_true, if_true]
      show getL (x :: ks) (d :: ds) q' = _
      simp only [getL]
      by_cases h2 : x = q' <;> simp [h2]
    · have hb : (x == q) = false := beq_eq_false_iff_ne.mpr hx
      rw [hb]
      simp only [Bool.false_eq_true, if_false]
      cases hi : ks.idxOf? q with
      | some i =>
        rw [hi] at ih
        simp only [Option.map_some]
        show getL (x :: ks) (y :: ds.set i d) q' = _
        simp only [getL]
        dsimp only at ih
        rw [ih]
        by_cases h2 : x = q'
        · subst h2; rw [if_pos rfl, if_neg (fun z => hx z.symm), if_pos rfl]
        · rw [if_neg h2, if_neg h2]
      | none =>
        rw [hi] at ih
        simp only [Option.map_none]
        show getL (x :: (ks ++ [q])) (y :: (ds ++ [d])) q' = _
        simp only [getL]
        dsimp only at ih
        rw [ih]
        by_cases h2 : x = q'
        · subst h2; rw [if_pos rfl, if_neg (fun z => hx z.symm), if_pos rfl]
        · rw [if_neg h2, if_neg h2]
theorem mvs_len : ∀ xs : List T3, (mvs xs).1.length = (mvs xs).2.length := rev_ind rfl fun xs e ih => by rw [mvs_snoc]; exact putL_len ih
theorem mvs_nd : ∀ xs : List T3, (mvs xs).1.Nodup := rev_ind List.nodup_nil fun xs e ih => by rw [mvs_snoc]; exact putL_nodup ih
theorem mvs_le : ∀ xs : List T3, (mvs xs).1.length ≤ xs.length := rev_ind (Nat.le_refl _) fun xs e ih => by
  rw [mvs_snoc]
  have := putL_le (ks := (mvs xs).1) (ds := (mvs xs).2) (q := [Sum.inl e.1, Sum.inl e.2.1]) (d := .tup (getTu (getL (mvs xs).1 (mvs xs).2 [.inl e.1, .inl e.2.1]) ++ [.int e.2.2]))
  rw [List.length_append]
  unfold mvStep
  simp only [List.length_cons, List.length_nil]
  omega
theorem get_mvs (s b : Int) : ∀ xs : List T3, getL (mvs xs).1 (mvs xs).2 [.inl s, .inl b] = if nxt xs s b = [] then none else some (.tup ((nxt xs s b).map .int)) :=
  rev_ind rfl fun xs e ih => by
    rw [mvs_snoc, nxt_snoc]
    unfold mvStep
    rw [getL_put (mvs_len xs)]
    by_cases h : e.1 = s ∧ e.2.1 = b
    · obtain ⟨rfl, rfl⟩ := h
      have hne : nxt xs e.1 e.2.1 ++ [e.2.2] ≠ [] := by simp
      rw [if_pos rfl, ih]
      simp only [and_self, if_true]
      rw [if_neg hne]
      by_cases h2 : nxt xs e.1 e.2.1 = []
      · rw [if_pos h2, h2]; rfl
      · rw [if_neg h2, List.map_append]; rfl
    · rw [if_neg, if_neg h, List.append_nil, ih]
      intro z
      apply h
      simpa using z
theorem getOr_mv {steps : List T3} {s b : Int} : getOr (mvD steps) (.tup [.int s, .int b]) (.tup []) = .ok (.tup ((nxt steps s b).map .int)) := by
  unfold getOr mvD dlook
  simp only [keyT_2, Option.map_some]
  rw [get_mvs]
  by_cases h : nxt steps s b = []
  · rw [if_pos h, h]; rfl
  · rw [if_neg h]
theorem mv_isD {steps : List T3} : isDct (mvD steps) = true := rfl
theorem p_moves {steps : List T3} (hl : steps.length ≤ 5000) : d_moves_of [.tup (steps.map tD)] = .ok (mvD steps) := by
  have hs := size_ge
  refine Ok.eq ?_
  unfold d_moves_of m_moves_of
  rw [ok_nox]
  refine k_runT ?_
  simp? only []
  refine for_typed tD (fun done S => ∃ a b c, S = [(some (Sl.mk false (.tup (steps.map tD)))), (some (Sl.mk true (mvD done))), a, b, c]) steps _ ⟨none, none, none, rfl⟩ ?_ ?_
  · rintro done x rest S e ⟨a, b, c, rfl⟩
    have hd : done.length < steps.length := by rw [e, List.length_append, List.length_cons]; omega
    simp? only [k_gT3, mv_isD, getOr_mv]
    have hn : (nxt done x.1 x.2.1).length ≤ done.length := by unfold nxt; rw [List.length_map]; exact List.length_filter_le ..
    refine ⟨by omega, ?_⟩
    unfold mvD
    simp? only []
    refine ⟨⟨mvs_nd done, Nat.lt_of_le_of_lt (mvs_le done) (by omega)⟩, (some (Sl.mk false (.int x.1))), (some (Sl.mk false (.int x.2.1))), (some (Sl.mk false (.int x.2.2))), ?_⟩
    rw [mvs_snoc]
    unfold mvStep
    rw [get_mvs]
    by_cases h2 : nxt done x.1 x.2.1 = []
    · rw [if_pos h2, h2]; rfl
    · rw [if_neg h2]; rfl
  · rintro S ⟨a, b, c, rfl⟩
    simp? only []
    exact ⟨_, rfl, rfl⟩
structure SupV (size : Int) (steps : List T3) (starts : List Int) : Prop where
  s1 : 1 ≤ size
  s2 : size ≤ 40
  st0 : starts ≠ []
  stS : starts.Pairwise (· < ·)
  stB : ∀ s ∈ starts, 0 ≤ s ∧ s < size
  tS : steps.Pairwise tlt
  tB : ∀ e ∈ steps, (0 ≤ e.1 ∧ e.1 < size) ∧ (e.2.1 = 0 ∨ e.2.1 = 1) ∧ (0 ≤ e.2.2 ∧ e.2.2 < size)
  tL : steps.length < 60
  tA : ∀ s, 0 ≤ s → s < size → ∃ e ∈ steps, e.1 = s
theorem nin01 {b : Int} (h : b = 0 ∨ b = 1) : notInD (.int b) (.tup [.int 0, .int 1]) = .ok (.bl false) := by rcases h with rfl | rfl <;> rfl
theorem strict_le {l : List Int} {n : Int} (h : l.Pairwise (· < ·)) (hb : ∀ s ∈ l, 0 ≤ s ∧ s < n) : (l.length : Int) ≤ max n 0 := by
  have : l.length ≤ ((List.range n.toNat).map fun (i : Nat) => (i : Int)).length := nd_len_le (strict_nd h) fun x hx => by
    have := hb x hx
    refine List.mem_map.mpr ⟨x.toNat, List.mem_range.mpr (by omega), by omega⟩
  rw [List.length_map, List.length_range] at this
  omega
theorem keys_int : ∀ l : List Int, keysD (l.map .int) = some (l.map .inl)
  | [] => rfl
  | x :: l => by rw [List.map_cons, keysD, keys_int l]; rfl
theorem p_check {size : Int} {steps : List T3} {starts : List Int} (V : SupV size steps starts) : d_check_supply [.int size, .tup (steps.map tD), .tup (starts.map .int)] = .ok .non := by
  have hs := size_ge
  obtain ⟨s1, s2, st0, stS, stB, tS, tB, tL, tA⟩ := V
  have hne : steps ≠ [] := by
    obtain ⟨e, he, _⟩ := tA 0 (by omega) (by omega)
    exact List.ne_nil_of_mem he
  have hl := strict_le stS stB
  have c1 : decide (1 ≤ size) = true := decide_eq_true s1
  have c2 : decide (size ≤ 5000) = true := decide_eq_true (by omega)
  have e1 := lenSet_i (strict_nd stS) (by omega)
  have e2 := lenSet_t (tstrict_nd tS) tL hne
  have c3 : decide ((starts.length : Int) < starts.length) = false := decide_eq_false (by omega)
  have c4 : decide ((steps.length : Int) < steps.length) = false := decide_eq_false (by omega)
  obtain ⟨x0, h0⟩ := atI_lt (xs := starts) (i := 0) (by omega) (by have := List.length_pos_iff.mpr st0; omega)
  obtain ⟨x1, h1, m1⟩ := atI_last st0
  have b0 := stB x0 (atI_mem h0)
  have b1 := stB x1 m1
  have c5 : decide (x0 < 0) = false := decide_eq_false (by omega)
  have c6 : decide (size ≤ x1) = false := decide_eq_false (by omega)
  have he : ((starts.map D.int).isEmpty) = false := by cases starts with | nil => exact absurd rfl st0 | cons a b => rfl
  have a0 : L2.atI (starts.map D.int) 0 = some (.int x0) := by rw [atI_map, h0]; rfl
  have a1 : L2.atI (starts.map D.int) (-1) = some (.int x1) := by rw [atI_map, h1]; rfl
  refine Ok.eq ?_
  unfold d_check_supply m_check_supply
  rw [k_run]
  simp? only [gv_MOST_STATES, c1, c2, e1, e2, c3, c4, he, a0, a1, c5, c6]
  refine for_typed tD (fun _ S => ∃ a b c, S = [(some (Sl.mk false (.int size))), (some (Sl.mk false (.tup (steps.map tD)))), (some (Sl.mk false (.tup (starts.map .int)))), a, b, c]) steps _ ⟨none, none, none, rfl⟩ ?_ ?_
  · rintro done x rest S e ⟨a, b, c, rfl⟩
    obtain ⟨⟨u0, u1⟩, hb, v0, v1⟩ := tB x (by rw [e]; simp)
    have d1 : decide (0 ≤ x.1) = true := decide_eq_true u0
    have d2 : decide (x.1 < size) = true := decide_eq_true u1
    have d3 : decide (0 ≤ x.2.2) = true := decide_eq_true v0
    have d4 : decide (x.2.2 < size) = true := decide_eq_true v1
    simp? only [k_gT3, d1, d2, d3, d4, nin01 hb]
    exact ⟨_, _, _, rfl⟩
  · rintro S ⟨a, b, c, rfl⟩
    have hn : size.toNat ≤ (nubG (steps.map fun e => (Sum.inl e.1 : Key))).length := by
      have nd : ((List.range size.toNat).map fun (i : Nat) => (Sum.inl (i : Int) : Key)).Nodup := nd_map _ List.nodup_range fun a _ b _ h => by
        injection h with h; omega
      have := nd_len_le nd (b := nubG (steps.map fun e => (Sum.inl e.1 : Key))) fun x hx => by
        obtain ⟨i, hi, rfl⟩ := List.mem_map.mp hx
        have hi := List.mem_range.mp hi
        obtain ⟨e, he, h⟩ := tA i (by omega) (by omega)
        exact (nubG_mem _ _).mpr (List.mem_map.mpr ⟨e, he, by rw [h]⟩)
      simpa using this
    have c7 : decide (((nubG (steps.map fun e => (Sum.inl e.1 : Key))).length : Int) < size) = false := decide_eq_false (by omega)
    have L : lenScK (fun S => (eV 1) S >>= itemsD) (gT 3 (gsC (gN 3) (gsC (gN 4) (gsC (gN 5) gsN)))) tY (eV 3) [3, 4, 5] [(some (Sl.mk false (.int size))), (some (Sl.mk false (.tup (steps.map tD)))), (some (Sl.mk false (.tup (starts.map .int)))), a, b, c] = .ok (.int (nubG (steps.map fun e => (Sum.inl e.1 : Key))).length) := by
      have z1 := lc_typed (ga := gT 3 (gsC (gN 3) (gsC (gN 4) (gsC (gN 5) gsN)))) (t := tY) (fe := eV 3) (S := wipeS [(some (Sl.mk false (.int size))), (some (Sl.mk false (.tup (steps.map tD)))), (some (Sl.mk false (.tup (starts.map .int)))), a, b, c] [3, 4, 5]) tD (fun _ => true) (fun e => .int e.1) steps (fun x hx => by simp? only [k_gT3])
      rw [filter_true fun _ _ => rfl] at z1
      unfold lenScK
      show (if (steps.map tD).length < 60 then _ else _) = _
      rw [if_pos (by rw [List.length_map]; exact tL), z1, R.ok_bind]
      have : (steps.map fun e => D.int e.1) = (steps.map (·.1)).map .int := by rw [List.map_map]; rfl
      rw [this, keys_int, List.map_map]
      rfl
    simp? only [L, c7]
theorem p_Supply {size : Int} {raw : List T3} {begun : List Int} {t1 t2 : Bool} (V : SupV size (raw.mergeSort tle) (begun.mergeSort ile)) : d_Supply [.int size, seqD t1 (raw.map tD), seqD t2 (begun.map .int)] = .ok (supO size (raw.mergeSort tle) (begun.mergeSort ile)) := by
  have hs := size_ge
  have hl := V.tL
  rw [List.length_mergeSort] at hl
  refine Ok.eq ?_
  unfold d_Supply m_Supply
  rw [k_runN]
  have pc := p_check V
  have pm := p_moves (steps := raw.mergeSort tle) (by rw [List.length_mergeSort]; omega)
  simp? only []
  refine k_lcM tD tD raw ?_ (by omega) ?_ ?_
  · simp? only []
  · intro x hx
    simp? only [k_tupD]
  · simp? only [k_srtT, pc, pm]
    rfl
set_option Elab.async false
set_option linter.all false
set_option maxRecDepth 100000
open M PySem L2
def capI (t : Tk) (k : Nat) : Int := capOf t.2.1 (k, nodeAt t.1 k)
theorem enumP_get : ∀ (m : Nat) (ns : List Node) (k : Nat), (enumP m ns)[k]? = ns[k]?.map fun n => (m + k, n)
  | m, [], k => by simp [enumP]
  | m, x :: xs, 0 => by simp [enumP]
  | m, x :: xs, k + 1 => by
    rw [enumP, List.getElem?_cons_succ, enumP_get (m + 1) xs k, List.getElem?_cons_succ]
    congr 1
    funext n
    rw [show m + 1 + k = m + (k + 1) by omega]
theorem maxL_bd {b : Int} : ∀ (x : Int) (l : List Int), (∀ y ∈ x :: l, y ≤ b) → x ≤ maxL (x :: l) ∧ maxL (x :: l) ≤ b := fun x l h => by
  unfold maxL
  exact ⟨(maxL_fold l x).1 x (List.mem_cons_self ..), h _ (maxL_fold l x).2⟩
theorem cap_bd {t : Tk} (ht : TkOk t) {k : Nat} (hk : k < t.1.length) : 0 ≤ capI t k ∧ capI t k ≤ 8 := by
  have hn := ht.nd _ (atI_mem (nodeAt_ok (ns := t.1) (i := (k : Int)) (by omega) (by omega)))
  have h1 := hn.ne
  have h2 := hn.lo
  have := maxL_bd (b := 8) (nodeAt t.1 k).2 ((t.2.1.filter fun e => decide (e.1 = ((k : Nat) : Int))).map (·.2.2)) (fun y hy => by
    rcases List.mem_cons.mp hy with rfl | hy
    · exact hn.hi
    · obtain ⟨e, he, rfl⟩ := List.mem_map.mp hy
      exact (ht.ed e (List.mem_filter.mp he).1).2.2.2.2.1)
  unfold capI capOf
  refine ⟨?_, this.2⟩
  have h3 := this.1
  show 0 ≤ maxL ((nodeAt t.1 k).2 :: (t.2.1.filter fun e => decide (e.1 = ((k : Nat) : Int))).map (·.2.2))
  omega
theorem k_tkO3 {t : Tk} {Q : D → Prop} : Ok (fldD 4 3 (tkO t)) Q ↔ Q (.tup ((capsOf t.1 t.2.1).map .int)) := ok_ok
theorem p_pcap {t : Tk} {k : Nat} (hk : k < t.1.length) : d_Task_cap [tkO t, .int (k : Int)] = .ok (.int (capI t k)) := by
  apply Ok.eq
  unfold d_Task_cap m_Task_cap
  rw [ok_nox, k_run]
  simp? only [k_tkO3]
  refine ⟨_, ?_, rfl⟩
  rw [atI_nat, List.getElem?_map]
  unfold capsOf
  rw [List.getElem?_map, enumP_get, List.getElem?_eq_getElem hk]
  have e : nodeAt t.1 (k : Int) = t.1[k] := by
    unfold nodeAt
    rw [atI_nat, List.getElem?_eq_getElem hk]; rfl
  unfold capI
  rw [e]
  simp
def part (t : Tk) (k : Nat) : Int := (capI t k + 1) * ((nodeAt t.1 k).1.length + 2)
def fac (t : Tk) : Int := 1 + ((List.range t.1.length).map (part t)).sum
def wS (w : Int) (ts : List Tk) : Int := ts.foldl (fun w t => w * fac t) w
theorem part_bd {t : Tk} (ht : TkOk t) {k : Nat} (hk : k < t.1.length) : 0 ≤ part t k ∧ part t k ≤ 54 := by
  have h1 := cap_bd ht hk
  have hn := ht.nd _ (atI_mem (nodeAt_ok (ns := t.1) (i := (k : Int)) (by omega) (by omega)))
  have h2 := hn.le
  unfold part
  constructor
  · exact Int.mul_nonneg (by omega) (by omega)
  · have : (capI t k + 1) * ((nodeAt t.1 k).1.length + 2) ≤ 9 * ((nodeAt t.1 k).1.length + 2) := Int.mul_le_mul_of_nonneg_right (by omega) (by omega)
    omega
theorem sum_bd : ∀ (l : List Int) (b : Int), (∀ x ∈ l, 0 ≤ x ∧ x ≤ b) → 0 ≤ l.sum ∧ l.sum ≤ l.length * b
  | [], b, _ => by simp
  | x :: l, b, h => by
    have h1 := h x (by simp)
    have h2 := sum_bd l b fun y hy => h y (by simp [hy])
    rw [List.sum_cons, List.length_cons, Int.natCast_add, Int.add_mul]
    omega
theorem fac_bd {t : Tk} (ht : TkOk t) : 1 ≤ fac t ∧ fac t ≤ 109 := by
  have h := sum_bd ((List.range t.1.length).map (part t)) 54 fun x hx => by
    obtain ⟨k, hk, rfl⟩ := List.mem_map.mp hx
    exact part_bd ht (List.mem_range.mp hk)
  rw [List.length_map, List.length_range] at h
  have := ht.n2
  unfold fac
  omega
theorem wS_bd : ∀ (ts : List Tk) (w : Int), 0 ≤ w → (∀ t ∈ ts, TkOk t) → 0 ≤ wS w ts ∧ wS w ts ≤ w * 109 ^ ts.length
  | [], w, h, _ => by simp [wS, h]
  | t :: ts, w, h, ht => by
    have h1 := fac_bd (ht t (by simp))
    have h2 := wS_bd ts (w * fac t) (Int.mul_nonneg h (by omega)) fun x hx => ht x (by simp [hx])
    have h3 : w * fac t ≤ w * 109 := Int.mul_le_mul_of_nonneg_left h1.2 h
    have h4 : w * fac t * 109 ^ ts.length ≤ w * 109 * 109 ^ ts.length := Int.mul_le_mul_of_nonneg_right h3 (Int.pow_nonneg (by decide))
    have e : w * 109 ^ (t :: ts).length = w * 109 * 109 ^ ts.length := by rw [List.length_cons, Int.pow_succ, Int.mul_assoc, Int.mul_comm (109 ^ ts.length)]
    rw [e]
    show 0 ≤ wS (w * fac t) ts ∧ wS (w * fac t) ts ≤ _
    omega
theorem wS_snoc (w : Int) (ts : List Tk) (t : Tk) : wS w (ts ++ [t]) = wS w ts * fac t := by unfold wS; rw [List.foldl_append]; rfl
theorem k_augM {i : Nat} {f : FE} {S : M.Env} {QS : Fl × M.Env → Prop} : Ok (sAugM i f S) QS ↔ Ok (eV i S) fun x => Ok (f S) fun y => Ok (mulM x y) fun d => QS (.nx, S.set i (some ⟨false, d⟩)) := by unfold sAugM; simp only [ok_bind, ok_nox, ok_ok]
theorem k_mulM {a b : Int} {Q : D → Prop} : Ok (mulM (.int a) (.int b)) Q ↔ CMul a b ∧ Q (.int (a * b)) := by show Ok (if _ then _ else _) Q ↔ _; rw [ok_if, ok_ok]
theorem cmul_r {i j : Int} (h1 : -(2 ^ 64) < j) (h2 : j < 2 ^ 64) : CMul i j := .inr ⟨h1, h2⟩
theorem enum_nd (ns : List Node) : enumAt 0 (ns.map ndD) = (List.range ns.length).map fun (i : Nat) => .tup [.int (i : Int), ndD (nodeAt ns i)] := by
  rw [enum_gen ndD ([], 0) 0 ns]
  refine List.map_congr_left fun i _ => ?_
  rw [Nat.zero_add]
  unfold nodeAt
  rw [atI_nat, List.getD_eq_getElem?_getD]
theorem p_weight_of {size : Int} {steps : List T3} {starts : List Int} {ts : List Tk} (b : Bool) (h0 : 0 ≤ size) (h2 : size ≤ 10) (h3 : ts.length ≤ 3) (ht : ∀ t ∈ ts, TkOk t) : d_weight_of [supO size steps starts, seqD b (ts.map tkO)] = .ok (.int (wS size ts)) := by
  have hs := size_ge
  apply Ok.eq
  unfold d_weight_of m_weight_of
  rw [ok_nox, k_run]
  refine seq_cut (fun S => S = [(some (Sl.mk false (supO size steps starts))), (some (Sl.mk false (seqD b (ts.map tkO)))), (some (Sl.mk false (.int size))), none, none, none, none]) (by simp? only [su_0]) ?_
  rintro S rfl
  refine seq_cut (fun S => ∃ o3 o4 o5 o6, S = [(some (Sl.mk false (supO size steps starts))), (some (Sl.mk false (seqD b (ts.map tkO)))), (some (Sl.mk false (.int (wS size ts)))), o3, o4, o5, o6]) ?_ ?_
  · simp? only []
    refine for_typed tkO (fun done S => ∃ o3 o4 o5 o6, S = [(some (Sl.mk false (supO size steps starts))), (some (Sl.mk false (seqD b (ts.map tkO)))), (some (Sl.mk false (.int (wS size done)))), o3, o4, o5, o6]) ts _ ⟨none, none, none, none, rfl⟩ ?_ ?_
    · rintro done t rest S hr ⟨o3, o4, o5, o6, rfl⟩
      have htt := ht t (by rw [hr]; simp)
      have hdl : done.length ≤ 2 := by have := congrArg List.length hr; simp at this; omega
      have hw := wS_bd done size h0 fun x hx => ht x (by rw [hr]; simp [hx])
      have n2 := htt.n2
      have fb := fac_bd htt
      simp? only [k_augM]
      refine k_lcM (fun (i : Nat) => .tup [.int (i : Int), ndD (nodeAt t.1 i)]) (fun i => .int (part t i)) (List.range t.1.length) ?_ (by rw [List.length_range]; omega) ?_ ?_
      · simp? only [k_tkO0]
        rw [tup_seqD, enum_seq, enum_nd]
      · intro i hi
        have hi := List.mem_range.mp hi
        have hc := cap_bd htt hi
        simp? only [k_gtk, k_gnd, p_pcap hi, k_lenP]
        exact ⟨rfl, mul_l (by omega) (by omega), rfl⟩
      · simp? only [k_sum, k_mulM]
        refine ⟨cmul_r (by show _ < fac t; omega) (by show fac t < _; omega), _, _, _, _, by rw [wS_snoc]; rfl⟩
    · rintro S h
      exact ⟨rfl, h⟩
  · rintro S ⟨o3, o4, o5, o6, rfl⟩
    simp? only []
structure IsSp (sp : D) (sz st be ts rl od dr gd : D) : Prop where
  e0 : ixA sp (.str "size") = .ok sz
  e1 : ixA sp (.str "steps") = .ok st
  e2 : ixA sp (.str "starts") = .ok be
  e3 : ixA sp (.str "tasks") = .ok ts
  e4 : ixA sp (.str "rules") = .ok rl
  e5 : ixA sp (.str "order") = .ok od
  e6 : ixA sp (.str "door") = .ok dr
  e7 : ixA sp (.str "guard") = .ok gd
def spA (sz st be ts rl od dr gd : D) : D := .dic [.inr "size", .inr "steps", .inr "starts", .inr "tasks", .inr "rules", .inr "order", .inr "door", .inr "guard"] [sz, st, be, ts, rl, od, dr, gd]
theorem is_spA (sz st be ts rl od dr gd : D) : IsSp (spA sz st be ts rl od dr gd) sz st be ts rl od dr gd := ⟨by kernel_rfl, by kernel_rfl, by kernel_rfl, by kernel_rfl, by kernel_rfl, by kernel_rfl, by kernel_rfl, by kernel_rfl⟩
set_option Elab.async false
set_option linter.all false
set_option maxRecDepth 100000
open M PySem L2
def coreO (sup ts ch dr gd : D) (w : Int) (pt : D) : D := .obj 6 [sup, ts, ch, dr, gd, .int w, pt]
def doorW (d : Str) : Prop := d = "shut" ∨ d = "open"
def prtE : FE := (eC (f1 tupD) (aC (e2 addD (e2 addD (e2 addD (eL (aC (eS "choice") aN)) (lcE (fun S => (eV 6) S >>= itemsD) (gN 7) tY (eFs (fsC (eS "gaps") (fsC (eFmt (eV 7)) fsN))) [7])) (lcE (fun S => (eV 6) S >>= itemsD) (gN 7) tY (eFs (fsC (eS "needs") (fsC (eFmt (eV 7)) fsN))) [7])) (eL (aC (eS "supply") aN))) aN))
def ptN (n : Nat) : D := match n with
  | 0 => .tup [.str "choice", .str "supply"]
  | 1 => .tup [.str "choice", .str "gaps0", .str "needs0", .str "supply"]
  | 2 => .tup [.str "choice", .str "gaps0", .str "gaps1", .str "needs0", .str "needs1", .str "supply"]
  | _ => .tup [.str "choice", .str "gaps0", .str "gaps1", .str "gaps2", .str "needs0", .str "needs1", .str "needs2", .str "supply"]
theorem prt_ok {n : Nat} (h : n ≤ 3) (a b c d e f : Option Sl) : prtE [a, b, c, d, e, f, (some (Sl.mk false (.lst ((rgN n).map .int)))), none] = .ok (ptN n) := by
  obtain rfl | rfl | rfl | rfl : n = 0 ∨ n = 1 ∨ n = 2 ∨ n = 3 := by omega
  all_goals kernel_rfl
theorem nin_door {d : Str} (h : doorW d) : notInA (.str d) gv_DOORS = .ok (.bl false) := by rcases h with rfl | rfl <;> kernel_rfl
theorem nin_guard {d : Str} (h : grdW d) : notInA (.str d) gv_GUARDS = .ok (.bl false) := by rcases h with rfl | rfl | rfl <;> kernel_rfl
theorem k_gvT : gv_MOST_TASKS = .int 3 := rfl
theorem k_gvW : gv_MOST_WEIGHT = .int 100000 := rfl
theorem is_ch {w : Str} {r : D} : isD (chO w r) .non = .ok (.bl false) := by first | rfl | kernel_rfl
theorem p_Core {size : Int} {steps : List T3} {starts : List Int} {ts : List Tk} {w dr gd : Str} {r : D} (h0 : 0 ≤ size) (h2 : size ≤ 10) (h3 : ts.length ≤ 3) (ht : ∀ t ∈ ts, TkOk t) (hw : wS size ts ≤ 100000) (hd : doorW dr) (hg : grdW gd) :
    d_Core [supO size steps starts, chO w r, .str dr, .str gd, .tup (ts.map tkO)] = .ok (coreO (supO size steps starts) (.tup (ts.map tkO)) (chO w r) (.str dr) (.str gd) (wS size ts) (ptN ts.length)) := by
  have hs := size_ge
  apply Ok.eq
  unfold d_Core m_Core
  rw [k_runN]
  generalize hS : supO size steps starts = su
  have ew : d_weight_of [su, .tup (ts.map tkO)] = .ok (.int (wS size ts)) := by rw [← hS]; exact p_weight_of true h0 h2 h3 ht
  refine seq_cut (fun S => S = [(some (Sl.mk true (.obj 6 []))), (some (Sl.mk false (su))), (some (Sl.mk false (chO w r))), (some (Sl.mk false (.str dr))), (some (Sl.mk false (.str gd))), (some (Sl.mk false (.tup (ts.map tkO)))), none, none]) ?_ ?_
  · have c1 : decide ((3 : Int) < (ts.length : Int)) = false := decide_eq_false (by omega)
    simp? only [k_gvT, nin_door hd, nin_guard hg, c1]
  rintro S rfl
  refine seq_cut (fun S => S = [(some (Sl.mk true (.obj 6 [su]))), (some (Sl.mk false (su))), (some (Sl.mk false (chO w r))), (some (Sl.mk false (.str dr))), (some (Sl.mk false (.str gd))), (some (Sl.mk false (.tup (ts.map tkO)))), none, none]) (by simp? only []) ?_
  rintro S rfl
  refine seq_cut (fun S => S = [(some (Sl.mk true (.obj 6 [su, .tup (ts.map tkO)]))), (some (Sl.mk false (su))), (some (Sl.mk false (chO w r))), (some (Sl.mk false (.str dr))), (some (Sl.mk false (.str gd))), (some (Sl.mk false (.tup (ts.map tkO)))), none, none]) (by simp? only []) ?_
  rintro S rfl
  refine seq_cut (fun S => S = [(some (Sl.mk true (.obj 6 [su, .tup (ts.map tkO), chO w r]))), (some (Sl.mk false (su))), (some (Sl.mk false (chO w r))), (some (Sl.mk false (.str dr))), (some (Sl.mk false (.str gd))), (some (Sl.mk false (.tup (ts.map tkO)))), none, none]) (by simp? only [is_ch]) ?_
  rintro S rfl
  refine seq_cut (fun S => S = [(some (Sl.mk true (.obj 6 [su, .tup (ts.map tkO), chO w r, .str dr]))), (some (Sl.mk false (su))), (some (Sl.mk false (chO w r))), (some (Sl.mk false (.str dr))), (some (Sl.mk false (.str gd))), (some (Sl.mk false (.tup (ts.map tkO)))), none, none]) (by simp? only []) ?_
  rintro S rfl
  refine seq_cut (fun S => S = [(some (Sl.mk true (.obj 6 [su, .tup (ts.map tkO), chO w r, .str dr, .str gd]))), (some (Sl.mk false (su))), (some (Sl.mk false (chO w r))), (some (Sl.mk false (.str dr))), (some (Sl.mk false (.str gd))), (some (Sl.mk false (.tup (ts.map tkO)))), none, none]) (by simp? only []) ?_
  rintro S rfl
  refine seq_cut (fun S => S = [(some (Sl.mk true (.obj 6 [su, .tup (ts.map tkO), chO w r, .str dr, .str gd, .int (wS size ts)]))), (some (Sl.mk false (su))), (some (Sl.mk false (chO w r))), (some (Sl.mk false (.str dr))), (some (Sl.mk false (.str gd))), (some (Sl.mk false (.tup (ts.map tkO)))), none, none]) (by simp? only [ew]) ?_
  rintro S rfl
  refine seq_cut (fun S => S = [(some (Sl.mk true (.obj 6 [su, .tup (ts.map tkO), chO w r, .str dr, .str gd, .int (wS size ts)]))), (some (Sl.mk false (su))), (some (Sl.mk false (chO w r))), (some (Sl.mk false (.str dr))), (some (Sl.mk false (.str gd))), (some (Sl.mk false (.tup (ts.map tkO)))), none, none]) ?_ ?_
  · have c1 : decide ((100000 : Int) < wS size ts) = false := decide_eq_false (by omega)
    simp? only [k_gvW, c1]
  rintro S rfl
  refine seq_cut (fun S => S = [(some (Sl.mk true (.obj 6 [su, .tup (ts.map tkO), chO w r, .str dr, .str gd, .int (wS size ts)]))), (some (Sl.mk false (su))), (some (Sl.mk false (chO w r))), (some (Sl.mk false (.str dr))), (some (Sl.mk false (.str gd))), (some (Sl.mk false (.tup (ts.map tkO)))), (some (Sl.mk false (.lst ((rgN ts.length).map .int)))), none]) ?_ ?_
  · rw [k_set]
    exact k_lstRgN (by omega) (by simp? only []) ⟨rfl, rfl⟩
  rintro S rfl
  rw [k_fld, oO_z]
  show Ok (prtE _) _
  rw [prt_ok h3, ok_ok]
  exact ⟨rfl, rfl⟩
theorem p_lchoice {sp sz st be ts dr gd : D} {w : Str} {rs : List D} (hsp : IsSp sp sz st be ts (.lst rs) (.str w) dr gd) (hw : ordW w) (hr : rlW rs) : d__law_choice [sp] = .ok (chO w (.tup (srt rs))) := by
  have hs := size_ge
  apply Ok.eq
  unfold d__law_choice m__law_choice
  rw [ok_nox, k_run]
  have pc := p_choice hw hr
  rcases hr with rfl | rfl | rfl | rfl | rfl
  all_goals simp? only [hsp.e4, hsp.e5, k_CXS, mk_nil, tk1, dp1, at_0, at_1, at_2, dc00, dc01, dc02, dc10, dc11, dc12, dc20, dc21, dc22, pc]
theorem supV_raw {size : Int} {raw : List T3} {begun : List Int} (h1 : 1 ≤ size) (h2 : size ≤ 40) (hn : raw.Nodup) (hb : ∀ e ∈ raw, (0 ≤ e.1 ∧ e.1 < size) ∧ (e.2.1 = 0 ∨ e.2.1 = 1) ∧ (0 ≤ e.2.2 ∧ e.2.2 < size)) (hl : raw.length < 60) (ha : ∀ s, 0 ≤ s → s < size → ∃ e ∈ raw, e.1 = s)
    (b0 : begun ≠ []) (bn : begun.Nodup) (bb : ∀ s ∈ begun, 0 ≤ s ∧ s < size) : SupV size (raw.mergeSort tle) (begun.mergeSort ile) where
  s1 := h1
  s2 := h2
  st0 := fun e => b0 (by have := congrArg List.length e; rw [List.length_mergeSort] at this; exact List.eq_nil_of_length_eq_zero this)
  stS := ms_strict bn
  stB := fun s hs => bb s (ms_mem.mp hs)
  tS := tst_strict hn
  tB := fun e he => hb e (List.mem_mergeSort.mp he)
  tL := by rw [List.length_mergeSort]; exact hl
  tA := fun s h0 h => by
    obtain ⟨e, he, hs⟩ := ha s h0 h
    exact ⟨e, List.mem_mergeSort.mpr he, hs⟩
structure Tic (size : Int) (raw : List T3) (begun : List Int) : Prop where
  lo : 1 ≤ size
  hi : size ≤ 2
  v : SupV size (raw.mergeSort tle) (begun.mergeSort ile)
  rl : raw.length ≤ 3
theorem tic_A : Tic 1 [(0, 1, 0)] [0] := ⟨by decide, by decide, supV_raw (by decide) (by decide) (by decide) (by decide) (by decide) (fun s h0 h1 => ⟨(0, 1, 0), by decide, by show (0 : Int) = s; omega⟩) (by decide) (by decide) (by decide), by decide⟩
theorem m3t {a b c : D} : mergeK [true, true, true] [.non, .str "shut", .str "cut"] [a, b, c] = [a, b, c] := rfl
set_option Elab.async false
set_option linter.all false
set_option maxRecDepth 100000
open M PySem L2
theorem k_gtkL {t : Tk} {r : FGs} {S : M.Env} {QE : M.Env → Prop} : Ok (gT 3 r (tkL t) S) QE ↔ Ok (r [.lst (t.1.map ndD), .lst (t.2.1.map edD), .bl t.2.2] S) QE := by
  show Ok (gT 3 r (.tup [.lst (t.1.map ndD), .lst (t.2.1.map edD), .bl t.2.2]) S) QE ↔ _
  rw [k_gT]; simp
theorem p_lcore {sp : D} {size : Int} {raw : List T3} {begun : List Int} {ts : List Tk} {w dr gd : Str} {rs : List D} (hsp : IsSp sp (.int size) (.lst (raw.map tD)) (.tup (begun.map .int)) (.lst (ts.map tkL)) (.lst rs) (.str w) (.str dr) (.str gd)) (hT : Tic size raw begun) (h3 : ts.length ≤ 3) (ht : ∀ t ∈ ts, TkOk t) (hwt : wS size ts ≤ 100000) (hw : ordW w) (hr : rlW rs) (hd : doorW dr) (hg : grdW gd) :
    d__law_core [sp] = .ok (coreO (supO size (raw.mergeSort tle) (begun.mergeSort ile)) (.tup (ts.map tkO)) (chO w (.tup (srt rs))) (.str dr) (.str gd) (wS size ts) (ptN ts.length)) := by
  have hs := size_ge
  apply Ok.eq
  unfold d__law_core m__law_core
  rw [ok_nox, k_run]
  have eS : d_Supply [.int size, .lst (raw.map tD), .tup (begun.map .int)] = .ok (supO size (raw.mergeSort tle) (begun.mergeSort ile)) := p_Supply (t1 := false) (t2 := true) hT.v
  have lo := hT.lo
  have hi := hT.hi
  refine seq_cut (fun S => S = [(some (Sl.mk false (sp))), (some (Sl.mk false (supO size (raw.mergeSort tle) (begun.mergeSort ile)))), none, none, none, none, none]) (by simp? only [hsp.e0, hsp.e1, hsp.e2, eS]) ?_
  rintro S rfl
  refine seq_cut (fun S => S = [(some (Sl.mk false (sp))), (some (Sl.mk false (supO size (raw.mergeSort tle) (begun.mergeSort ile)))), (some (Sl.mk false (.lst (ts.map tkO)))), none, none, none, none]) ?_ ?_
  · simp? only []
    refine k_lcM tkL tkO ts (by simp? only [hsp.e3]) (by omega) ?_ ?_
    · intro t hh
      have e : d_Task [.lst (t.1.map ndD), .lst (t.2.1.map edD), .bl t.2.2] = .ok (tkO t) := (p_Task (ht t hh)).eq
      simp? only [k_gtkL, e]
    · simp? only []
  rintro S rfl
  refine seq_cut (fun S => S = [(some (Sl.mk false (sp))), (some (Sl.mk false (supO size (raw.mergeSort tle) (begun.mergeSort ile)))), (some (Sl.mk false (.lst (ts.map tkO)))), (some (Sl.mk false (chO w (.tup (srt rs))))), none, none, none]) (by simp? only [p_lchoice hsp hw hr]) ?_
  rintro S rfl
  have eC := p_Core (size := size) (steps := raw.mergeSort tle) (starts := begun.mergeSort ile) (r := .tup (srt rs)) (w := w) (by omega) (by omega) h3 ht hwt hd hg
  match ts, h3, eC with
  | [], _, eC =>
    simp only [List.map_nil, List.map_cons, List.length_nil, List.length_cons, Nat.reduceAdd, Nat.zero_add] at eC
    simp? only [hsp.e6, hsp.e7, k_CXS, m3t, tk1, dp1, at_0, at_1, at_2, dc00, dc01, dc02, dc10, dc11, dc12, dc20, dc21, dc22, eC]
  | [a], _, eC =>
    simp only [List.map_nil, List.map_cons, List.length_nil, List.length_cons, Nat.reduceAdd, Nat.zero_add] at eC
    simp? only [hsp.e6, hsp.e7, k_CXS, m3t, tk1, dp1, at_0, at_1, at_2, dc00, dc01, dc02, dc10, dc11, dc12, dc20, dc21, dc22, eC]
  | [a, b], _, eC =>
    simp only [List.map_nil, List.map_cons, List.length_nil, List.length_cons, Nat.reduceAdd, Nat.zero_add] at eC
    simp? only [hsp.e6, hsp.e7, k_CXS, m3t, tk1, dp1, at_0, at_1, at_2, dc00, dc01, dc02, dc10, dc11, dc12, dc20, dc21, dc22, eC]
  | [a, b, c], _, eC =>
    simp only [List.map_nil, List.map_cons, List.length_nil, List.length_cons, Nat.reduceAdd, Nat.zero_add] at eC
    simp? only [hsp.e6, hsp.e7, k_CXS, m3t, tk1, dp1, at_0, at_1, at_2, dc00, dc01, dc02, dc10, dc11, dc12, dc20, dc21, dc22, dc30, dc31, dc32, eC]
set_option Elab.async false
set_option linter.all false
set_option maxRecDepth 100000
open M PySem L2
def cAt (cs : List Int) (i : Nat) : Int := cs.getD i (-1)
theorem cAt_D {cs : List Int} {i : Nat} (h : i < cs.length) : L2.atI (cs.map D.int) (i : Int) = some (.int (cAt cs i)) := by
  rw [atI_nat, List.getElem?_map, List.getElem?_eq_getElem h]
  unfold cAt
  rw [List.getD_eq_getElem?_getD, List.getElem?_eq_getElem h]; rfl
def arr1 (sh : Bool) (t : Tk) (s : Sts) (c : Int) : Sts := if c < 0 ∨ unfS t.1 s = true ∨ (sh = true ∧ alwS t.1 t.2.1 s c = false) then s else (c, 0, 0, 0)
def arrI (sh : Bool) (ts : List Tk) (ss : List Sts) (cs : List Int) (i : Nat) : Sts := arr1 sh (tAt ts i) (sAt ss i) (cAt cs i)
def arrS (sh : Bool) (ts : List Tk) (ss : List Sts) (cs : List Int) : List Sts := (List.range ts.length).map (arrI sh ts ss cs)
theorem mapR_at {α : Type} (f : Nat → α) (d : α) {n i : Nat} (h : i < n) : ((List.range n).map f).getD i d = f i := by
  rw [List.getD_eq_getElem?_getD, List.getElem?_map, List.getElem?_range h]; rfl
structure CmOk (ts : List Tk) (cs : List Int) : Prop where
  len : cs.length = ts.length
  ok : ∀ i, i < ts.length → -1 ≤ cAt cs i ∧ cAt cs i < (tAt ts i).1.length
theorem arr_st3 {sh : Bool} {ts : List Tk} {ss : List Sts} {cs : List Int} (h : St3 ts ss) (hc : CmOk ts cs) : St3 ts (arrS sh ts ss cs) := by
  refine ⟨by unfold arrS; simp, fun i hi => ?_⟩
  unfold sAt arrS
  rw [mapR_at _ _ hi]
  unfold arrI arr1
  split
  · exact h.ok i hi
  · rename_i hn
    have hc0 : 0 ≤ cAt cs i := by
      have : ¬ cAt cs i < 0 := fun z => hn (.inl z)
      omega
    have hc1 := (hc.ok i hi).2
    exact .job _ 0 0 0 _ (nodeAt_ok hc0 hc1) hc0 (by omega) (by omega) (.inl rfl)
def shB (dr : Str) : Bool := decide (dr = "shut")
theorem k_shut {dr : Str} (h : doorW dr) {Q : D → Prop} : Ok (eqD (.str dr) (.str "shut")) Q ↔ Q (.bl (shB dr)) := by
  have e : eqD (.str dr) (.str "shut") = .ok (.bl (shB dr)) := by rcases h with rfl | rfl <;> kernel_rfl
  rw [e, ok_ok]
def stgD (l : List Int) (ss : List Sts) : D := .tup [.tup (l.map .int), .tup (ss.map stD)]
theorem k_stg0 {l : List Int} {ss : List Sts} {Q : D → Prop} : Ok (ixA (stgD l ss) (.int 0)) Q ↔ Q (.tup (l.map .int)) := ok_ok
theorem k_stg1 {l : List Int} {ss : List Sts} {Q : D → Prop} : Ok (ixA (stgD l ss) (.int 1)) Q ↔ Q (.tup (ss.map stD)) := ok_ok
section
variable {sup ts0 ch dr gd pt : D} {w : Int} {Q : D → Prop}
theorem k_co1 : Ok (fldD 6 1 (coreO sup ts0 ch dr gd w pt)) Q ↔ Q ts0 := ok_ok
theorem k_co2 : Ok (fldD 6 2 (coreO sup ts0 ch dr gd w pt)) Q ↔ Q ch := ok_ok
theorem k_co3 : Ok (fldD 6 3 (coreO sup ts0 ch dr gd w pt)) Q ↔ Q dr := ok_ok
theorem k_co4 : Ok (fldD 6 4 (coreO sup ts0 ch dr gd w pt)) Q ↔ Q gd := ok_ok
end
theorem list_rg {α β : Type} (f : α → β) (d : α) (xs : List α) : xs.map f = (List.range xs.length).map fun i => f (xs.getD i d) := by
  apply List.ext_getElem?
  intro i
  rw [List.getElem?_map, List.getElem?_map]
  by_cases h : i < xs.length
  · rw [List.getElem?_range h, List.getElem?_eq_getElem h]
    simp [List.getD_eq_getElem?_getD, List.getElem?_eq_getElem h]
  · rw [List.getElem?_eq_none (by omega), List.getElem?_eq_none (by simp; omega)]; rfl
theorem zip_rg {α β : Type} (f : Nat → α) (g : Nat → β) (n : Nat) : ((List.range n).map f).zip ((List.range n).map g) = (List.range n).map fun i => (f i, g i) := List.zip_map'
theorem k_zipA {ts : List Tk} {ss : List Sts} {cs : List Int} (h1 : ss.length = ts.length) (h2 : cs.length = ts.length) {QL : List D → Prop} : Ok (zip3F [.tup (ts.map tkO), .tup (ss.map stD), .tup (cs.map .int)]) QL ↔ QL ((List.range ts.length).map fun i => .tup [tkO (tAt ts i), stD (sAt ss i), .int (cAt cs i)]) := by
  have e : zip3F [.tup (ts.map tkO), .tup (ss.map stD), .tup (cs.map .int)] = .ok ((List.range ts.length).map fun i => .tup [tkO (tAt ts i), stD (sAt ss i), .int (cAt cs i)]) := by
    show (if _ then _ else _) = _
    rw [if_pos (by simp [h1, h2])]
    congr 1
    unfold zipD3
    rw [list_rg tkO ([], [], false) ts, list_rg stD (-1, 0, 0, 0) ss, list_rg D.int (-1) cs, h1, h2, zip_rg, zip_rg, List.map_map]
    rfl
  rw [e, ok_ok]
theorem p_arrived {sup ch gd pt : D} {wt : Int} {dr : Str} {ts : List Tk} {ss : List Sts} {cs l : List Int} (hd : doorW dr) (h3 : ts.length ≤ 3) (ht : ∀ t ∈ ts, TkOk t) (h : St3 ts ss) (hc : CmOk ts cs) : d_Core_arrived [coreO sup (.tup (ts.map tkO)) ch (.str dr) gd wt pt, stgD l ss, .tup (cs.map .int)] = .ok (.tup ((arrS (shB dr) ts ss cs).map stD)) := by
  have hs := size_ge
  apply Ok.eq
  unfold d_Core_arrived m_Core_arrived
  rw [ok_nox, k_run]
  generalize hC : coreO sup (.tup (ts.map tkO)) ch (.str dr) gd wt pt = co
  have c1 : ∀ {Q : D → Prop}, Ok (fldD 6 1 co) Q ↔ Q (.tup (ts.map tkO)) := by subst hC; exact k_co1
  have c3 : ∀ {Q : D → Prop}, Ok (fldD 6 3 co) Q ↔ Q (.str dr) := by subst hC; exact k_co3
  refine seq_cut (fun S => S = [(some (Sl.mk false (co))), (some (Sl.mk false (stgD l ss))), (some (Sl.mk false (.tup (cs.map .int)))), (some (Sl.mk true (.lst []))), none, none, none]) (by simp? only []) ?_
  rintro S rfl
  refine seq_cut (fun S => ∃ o4 o5 o6, S = [(some (Sl.mk false (co))), (some (Sl.mk false (stgD l ss))), (some (Sl.mk false (.tup (cs.map .int)))), (some (Sl.mk true (.lst ((arrS (shB dr) ts ss cs).map stD)))), o4, o5, o6]) ?_ ?_
  · simp? only [c1, k_stg1, k_zipA h.len hc.len]
    refine for_typed (fun (i : Nat) => .tup [tkO (tAt ts i), stD (sAt ss i), .int (cAt cs i)]) (fun done S => ∃ o4 o5 o6, S = [(some (Sl.mk false (co))), (some (Sl.mk false (stgD l ss))), (some (Sl.mk false (.tup (cs.map .int)))), (some (Sl.mk true (.lst ((done.map (arrI (shB dr) ts ss cs)).map stD)))), o4, o5, o6]) (List.range ts.length) _ ⟨none, none, none, rfl⟩ ?_ ?_
    · rintro done i rest S hr ⟨o4, o5, o6, rfl⟩
      have hi : i < ts.length := List.mem_range.mp (by rw [hr]; simp)
      have hdl : done.length < 3 := by have := congrArg List.length hr; simp at this; omega
      have htt := ht _ (tAt_mem hi)
      have eu : d_Task_unfinished [tkO (tAt ts i), stD (sAt ss i)] = .ok (.bl (unfS (tAt ts i).1 (sAt ss i))) := (p_unf htt _ (h.ok i hi)).eq
      have ea : d_Task_allows [tkO (tAt ts i), stD (sAt ss i), .int (cAt cs i)] = .ok (.bl (alwS (tAt ts i).1 (tAt ts i).2.1 (sAt ss i) (cAt cs i))) := (p_alw htt _ (sAt ss i) (cAt cs i)).eq
      have en : ∀ z : Sts, z = arrI (shB dr) ts ss cs i → (done.map (arrI (shB dr) ts ss cs)).map stD ++ [stD z] = ((done ++ [i]).map (arrI (shB dr) ts ss cs)).map stD := by
        rintro z rfl
        simp
      refine Ok.mono (P := fun S1 => S1 = [(some (Sl.mk false (co))), (some (Sl.mk false (stgD l ss))), (some (Sl.mk false (.tup (cs.map .int)))), (some (Sl.mk true (.lst ((done.map (arrI (shB dr) ts ss cs)).map stD)))), (some (Sl.mk false (tkO (tAt ts i)))), (some (Sl.mk false (stD (sAt ss i)))), (some (Sl.mk false (.int (cAt cs i))))]) ?_ ?_
      · rw [k_gT]; simp? only []
      rintro S1 rfl
      have fin : ∀ (z : Sts) (o4 o5 o6 : Option Sl), z = arrI (shB dr) ts ss cs i → done.length < sizeLine ∧ ∃ p4 p5 p6, [(some (Sl.mk false (co))), (some (Sl.mk false (stgD l ss))), (some (Sl.mk false (.tup (cs.map .int)))), (some (Sl.mk true (.lst ((done.map (arrI (shB dr) ts ss cs)).map stD ++ [stD z])))), o4, o5, o6] = [(some (Sl.mk false (co))), (some (Sl.mk false (stgD l ss))), (some (Sl.mk false (.tup (cs.map .int)))), (some (Sl.mk true (.lst (((done ++ [i]).map (arrI (shB dr) ts ss cs)).map stD)))), p4, p5, p6] := fun z _ _ _ hz => ⟨by omega, _, _, _, by rw [en z hz]⟩
      simp? only [eu, ea, c3, k_shut hd]
      refine ⟨fun q1 => fin _ _ _ _ (if_pos (.inl (of_decide_eq_true q1))).symm, fun q1 => ⟨rfl, fun q2 => fin _ _ _ _ (if_pos (.inr (.inl q2))).symm, fun q2 => ⟨fun q3 => ⟨rfl, fun q4 => fin _ _ _ _ (if_pos (.inr (.inr ⟨q3, q4⟩))).symm, fun q4 => ?_⟩, fun q3 => ?_⟩⟩⟩
      · refine fin (cAt cs i, 0, 0, 0) _ _ _ (if_neg ?_).symm
        rintro (z | z | z)
        · exact of_decide_eq_false q1 z
        · rw [q2] at z; cases z
        · rw [z.2] at q4; cases q4
      · refine fin (cAt cs i, 0, 0, 0) _ _ _ (if_neg ?_).symm
        rintro (z | z | z)
        · exact of_decide_eq_false q1 z
        · rw [q2] at z; cases z
        · rw [q3] at z; exact nomatch z.1
    · rintro S h
      exact ⟨rfl, h⟩
  · rintro S ⟨o4, o5, o6, rfl⟩
    simp? only []
theorem p_larrived {sp : D} {w gd dr : Str} {ts : List Tk} {ss : List Sts} {cs : List Int} (b : Bool) (hsp : SpOk sp ts w gd) (hdr : ∀ {Q : D → Prop}, Ok (ixA sp (.str "door")) Q ↔ Q (.str dr)) (hd : doorW dr) (h3 : ts.length ≤ 3) (ht : ∀ t ∈ ts, TkOk t) (h : St3 ts ss) (hc : CmOk ts cs) : d__law_arrived [sp, seqD b (ss.map stD), .tup (cs.map .int)] = .ok (.tup ((arrS (shB dr) ts ss cs).map stD)) := by
  have hs := size_ge
  apply Ok.eq
  unfold d__law_arrived m__law_arrived
  rw [ok_nox, k_run]
  have q0 : ∀ {Q : D → Prop}, Ok (ixA sp (.str "tasks")) Q ↔ Q (.lst (ts.map tkL)) := hsp.t
  refine seq_cut (fun S => S = [(some (Sl.mk false (sp))), (some (Sl.mk false (seqD b (ss.map stD)))), (some (Sl.mk false (.tup (cs.map .int)))), (some (Sl.mk true (.lst []))), none, none, none, none]) (by simp? only []) ?_
  rintro S rfl
  refine seq_cut (fun S => ∃ o4 o5 o6 o7, S = [(some (Sl.mk false (sp))), (some (Sl.mk false (seqD b (ss.map stD)))), (some (Sl.mk false (.tup (cs.map .int)))), (some (Sl.mk true (.lst ((arrS (shB dr) ts ss cs).map stD)))), o4, o5, o6, o7]) ?_ ?_
  · simp? only [q0]
    refine ⟨⟨by omega, by omega⟩, ?_⟩
    rw [rngL_0]
    refine for_typed (fun (i : Nat) => .int (i : Int)) (fun done S => ∃ o4 o5 o6 o7, S = [(some (Sl.mk false (sp))), (some (Sl.mk false (seqD b (ss.map stD)))), (some (Sl.mk false (.tup (cs.map .int)))), (some (Sl.mk true (.lst ((done.map (arrI (shB dr) ts ss cs)).map stD)))), o4, o5, o6, o7]) (List.range ts.length) _ ⟨none, none, none, none, rfl⟩ ?_ ?_
    · rintro done i rest S hr ⟨o4, o5, o6, o7, rfl⟩
      have hi : i < ts.length := List.mem_range.mp (by rw [hr]; simp)
      have hdl : done.length < 3 := by have := congrArg List.length hr; simp at this; omega
      have htt := ht _ (tAt_mem hi)
      have ci : i < cs.length := by rw [hc.len]; exact hi
      have eu : d__law_open [tkL (tAt ts i), stD (sAt ss i)] = .ok (.bl (unfS (tAt ts i).1 (sAt ss i))) := (p_open htt (h.ok i hi)).eq
      have ea : d__law_allows [tkL (tAt ts i), stD (sAt ss i), .int (cAt cs i)] = .ok (.bl (alwS (tAt ts i).1 (tAt ts i).2.1 (sAt ss i) (cAt cs i))) := (p_lalw htt (sAt ss i) (cAt cs i)).eq
      have en : ∀ z : Sts, z = arrI (shB dr) ts ss cs i → (done.map (arrI (shB dr) ts ss cs)).map stD ++ [stD z] = ((done ++ [i]).map (arrI (shB dr) ts ss cs)).map stD := by
        rintro z rfl
        simp
      have fin : ∀ (z : Sts) (o4 o5 o6 o7 : Option Sl), z = arrI (shB dr) ts ss cs i → done.length < sizeLine ∧ ∃ p4 p5 p6 p7, [(some (Sl.mk false (sp))), (some (Sl.mk false (seqD b (ss.map stD)))), (some (Sl.mk false (.tup (cs.map .int)))), (some (Sl.mk true (.lst ((done.map (arrI (shB dr) ts ss cs)).map stD ++ [stD z])))), o4, o5, o6, o7] = [(some (Sl.mk false (sp))), (some (Sl.mk false (seqD b (ss.map stD)))), (some (Sl.mk false (.tup (cs.map .int)))), (some (Sl.mk true (.lst (((done ++ [i]).map (arrI (shB dr) ts ss cs)).map stD)))), p4, p5, p6, p7] := fun z _ _ _ _ hz => ⟨by omega, _, _, _, _, by rw [en z hz]⟩
      refine Ok.mono (P := fun S1 => S1 = [(some (Sl.mk false (sp))), (some (Sl.mk false (seqD b (ss.map stD)))), (some (Sl.mk false (.tup (cs.map .int)))), (some (Sl.mk true (.lst ((done.map (arrI (shB dr) ts ss cs)).map stD)))), (some (Sl.mk false (.int (i : Int)))), o5, o6, o7]) (by simp? only []) ?_
      rintro S1 rfl
      refine seq_cut (fun S => S = [(some (Sl.mk false (sp))), (some (Sl.mk false (seqD b (ss.map stD)))), (some (Sl.mk false (.tup (cs.map .int)))), (some (Sl.mk true (.lst ((done.map (arrI (shB dr) ts ss cs)).map stD)))), (some (Sl.mk false (.int (i : Int)))), (some (Sl.mk false (tkL (tAt ts i)))), (some (Sl.mk false (stD (sAt ss i)))), o7]) ?_ ?_
      · simp? only [putS, q0, tAt_D tkL hi, sAt_D (s_len h hi)]
      rintro S rfl
      refine seq_cut (fun S => S = [(some (Sl.mk false (sp))), (some (Sl.mk false (seqD b (ss.map stD)))), (some (Sl.mk false (.tup (cs.map .int)))), (some (Sl.mk true (.lst ((done.map (arrI (shB dr) ts ss cs)).map stD)))), (some (Sl.mk false (.int (i : Int)))), (some (Sl.mk false (tkL (tAt ts i)))), (some (Sl.mk false (stD (sAt ss i)))), (some (Sl.mk false (.bl (shB dr && (decide (0 ≤ cAt cs i) && !alwS (tAt ts i).1 (tAt ts i).2.1 (sAt ss i) (cAt cs i))))))]) ?_ ?_
      · simp? only [hdr, k_shut hd, cAt_D ci, ea]
        exact ⟨fun q1 => ⟨fun q2 => by rw [q1, q2]; rfl, fun q2 => by rw [q1, q2]; rfl⟩, fun q1 => by rw [q1]; rfl⟩
      rintro S rfl
      simp? only [cAt_D ci, eu]
      have k1 : (shB dr && (decide (0 ≤ cAt cs i) && !alwS (tAt ts i).1 (tAt ts i).2.1 (sAt ss i) (cAt cs i))) = true → shB dr = true ∧ alwS (tAt ts i).1 (tAt ts i).2.1 (sAt ss i) (cAt cs i) = false := fun q3 => by
        simp only [Bool.and_eq_true, Bool.not_eq_true'] at q3
        exact ⟨q3.1, q3.2.2⟩
      have k2 : decide (cAt cs i < 0) = false → unfS (tAt ts i).1 (sAt ss i) = false → (shB dr && (decide (0 ≤ cAt cs i) && !alwS (tAt ts i).1 (tAt ts i).2.1 (sAt ss i) (cAt cs i))) = false → ¬ (cAt cs i < 0 ∨ unfS (tAt ts i).1 (sAt ss i) = true ∨ (shB dr = true ∧ alwS (tAt ts i).1 (tAt ts i).2.1 (sAt ss i) (cAt cs i) = false)) := fun q1 q2 q3 => by
        have c0 := of_decide_eq_false q1
        rintro (z | z | z)
        · exact c0 z
        · rw [q2] at z; cases z
        · rw [z.1, z.2, decide_eq_true (show 0 ≤ cAt cs i by omega)] at q3
          cases q3
      exact ⟨fun q1 => fin _ _ _ _ _ (if_pos (.inl (of_decide_eq_true q1))).symm, fun q1 => ⟨fun q2 => fin _ _ _ _ _ (if_pos (.inr (.inl q2))).symm, fun q2 => ⟨fun q3 => fin _ _ _ _ _ (if_pos (.inr (.inr (k1 q3)))).symm, fun q3 => fin (cAt cs i, 0, 0, 0) _ _ _ _ (if_neg (k2 q1 q2 q3)).symm⟩⟩⟩
    · rintro S h
      exact ⟨rfl, h⟩
  · rintro S ⟨o4, o5, o6, o7, rfl⟩
    simp? only []
set_option Elab.async false
set_option linter.all false
set_option maxRecDepth 100000
open M PySem L2
theorem p_chosen {sup pt : D} {wt : Int} {w g dr : Str} {rs : List D} {L : List Int} {ts : List Tk} {ss : List Sts} {cs l : List Int} (hw : ordW w) (hg : grdW g) (hr : rlW rs) (hd : doorW dr) (h3 : ts.length ≤ 3) (ht : ∀ t ∈ ts, TkOk t) (h : St3 ts ss) (hc : CmOk ts cs) (hL : L.length = ts.length) (eL : d_Choice_levels [chO w (.tup (srt rs)), .tup (ts.map tkO)] = .ok (.tup (L.map .int))) :
    d_Core_chosen [coreO sup (.tup (ts.map tkO)) (chO w (.tup (srt rs))) (.str dr) (.str g) wt pt, stgD l ss, .tup (cs.map .int)] = .ok (.int (blkI (choN (blkS L (ceilR rs) ts (arrS (shB dr) ts ss cs)) (lendR rs) w g ts (arrS (shB dr) ts ss cs)))) := by
  have hs := size_ge
  have ea := p_arrived (sup := sup) (ch := chO w (.tup (srt rs))) (gd := .str g) (pt := pt) (wt := wt) (l := l) hd h3 ht h hc
  have ec := p_call (w := w) (g := g) (rs := rs) (L := L) true true hw hg hr h3 ht (arr_st3 (sh := shB dr) h hc) hL eL
  have ec : d_Choice___call__ [chO w (.tup (srt rs)), .tup (ts.map tkO), .tup ((arrS (shB dr) ts ss cs).map stD), .str g] = _ := ec
  apply Ok.eq
  unfold d_Core_chosen m_Core_chosen
  rw [ok_nox, k_run]
  generalize hC : coreO sup (.tup (ts.map tkO)) (chO w (.tup (srt rs))) (.str dr) (.str g) wt pt = co at ea
  have c1 : ∀ {Q : D → Prop}, Ok (fldD 6 1 co) Q ↔ Q (.tup (ts.map tkO)) := by subst hC; exact k_co1
  have c2 : ∀ {Q : D → Prop}, Ok (fldD 6 2 co) Q ↔ Q (chO w (.tup (srt rs))) := by subst hC; exact k_co2
  have c4 : ∀ {Q : D → Prop}, Ok (fldD 6 4 co) Q ↔ Q (.str g) := by subst hC; exact k_co4
  have io : co.isObj 6 = true := by subst hC; rfl
  have ic : (chO w (.tup (srt rs))).isObj 5 = true := rfl
  simp? only [c1, c2, c4, io, ic, ea, ec]
theorem p_lstates (raw : List T3) (l : List Int) (bit : Int) (hr : raw.length ≤ 1000) : ∃ l' : List Int, d__law_states [.lst (raw.map tD), .tup (l.map .int), .int bit] = .ok (.tup (l'.map .int)) := by
  have hs := size_ge
  suffices h : Ok (d__law_states [.lst (raw.map tD), .tup (l.map .int), .int bit]) fun d => ∃ l' : List Int, d = .tup (l'.map .int) by
    obtain ⟨d, e, l', rfl⟩ := h
    exact ⟨l', e⟩
  unfold d__law_states m__law_states
  rw [ok_nox, k_run]
  refine seq_cut (fun S => S = [(some (Sl.mk false (.lst (raw.map tD)))), (some (Sl.mk false (.tup (l.map .int)))), (some (Sl.mk false (.int bit))), (some (Sl.mk true (.lst []))), none]) (by simp? only []) ?_
  rintro S rfl
  refine seq_cut (fun S => ∃ (f : List Int) (o4 : Option Sl), S = [(some (Sl.mk false (.lst (raw.map tD)))), (some (Sl.mk false (.tup (l.map .int)))), (some (Sl.mk false (.int bit))), (some (Sl.mk true (.lst (f.map .int)))), o4]) ?_ ?_
  · simp? only []
    refine for_typed tD (fun done S => ∃ (f : List Int) (o4 : Option Sl), f.length ≤ done.length ∧ S = [(some (Sl.mk false (.lst (raw.map tD)))), (some (Sl.mk false (.tup (l.map .int)))), (some (Sl.mk false (.int bit))), (some (Sl.mk true (.lst (f.map .int)))), o4]) raw _ ⟨[], none, Nat.le_refl _, rfl⟩ ?_ ?_
    · rintro done e rest S hrr ⟨f, o4, hf, rfl⟩
      have hdl : done.length < 1000 := by have := congrArg List.length hrr; simp at this; omega
      simp? only [ixA_tD, k_t3_0, k_t3_1, k_t3_2]
      have yes : f.length < sizeLine ∧ ∃ (f' : List Int) (o : Option Sl), f'.length ≤ (done ++ [e]).length ∧ [(some (Sl.mk false (.lst (raw.map tD)))), (some (Sl.mk false (.tup (l.map .int)))), (some (Sl.mk false (.int bit))), (some (Sl.mk true (.lst (f.map .int ++ [.int e.2.2])))), (some (Sl.mk false (tD e)))] = [(some (Sl.mk false (.lst (raw.map tD)))), (some (Sl.mk false (.tup (l.map .int)))), (some (Sl.mk false (.int bit))), (some (Sl.mk true (.lst (f'.map .int)))), o] := ⟨by omega, f ++ [e.2.2], _, by simp; omega, by simp; rfl⟩
      have no : ∃ (f' : List Int) (o : Option Sl), f'.length ≤ (done ++ [e]).length ∧ [(some (Sl.mk false (.lst (raw.map tD)))), (some (Sl.mk false (.tup (l.map .int)))), (some (Sl.mk false (.int bit))), (some (Sl.mk true (.lst (f.map .int)))), (some (Sl.mk false (tD e)))] = [(some (Sl.mk false (.lst (raw.map tD)))), (some (Sl.mk false (.tup (l.map .int)))), (some (Sl.mk false (.int bit))), (some (Sl.mk true (.lst (f'.map .int)))), o] := ⟨f, _, by simp; omega, rfl⟩
      exact ⟨fun _ => ⟨fun _ => ⟨fun _ => yes, fun _ => no⟩, fun _ => no⟩, fun _ => no⟩
    · rintro S ⟨f, o, _, rfl⟩
      exact ⟨rfl, f, o, rfl⟩
  · rintro S ⟨f, o4, rfl⟩
    simp? only []
    exact ⟨_, rfl⟩
theorem p_lstart {sp : D} {w g : Str} {ts : List Tk} {be : List Int} (hsp : SpOk sp ts w g) (hbe : ∀ {Q : D → Prop}, Ok (ixA sp (.str "starts")) Q ↔ Q (.tup (be.map .int))) (h3 : ts.length ≤ 3) : d__law_start [sp] = .ok (stgD (be.mergeSort ile) (ts.map fun _ => (-1, 0, 0, 0))) := by
  have hs := size_ge
  apply Ok.eq
  unfold d__law_start m__law_start
  rw [ok_nox, k_run]
  have q0 : ∀ {Q : D → Prop}, Ok (ixA sp (.str "tasks")) Q ↔ Q (.lst (ts.map tkL)) := hsp.t
  simp? only [hbe]
  refine k_lcM tkL (fun _ => stD (-1, 0, 0, 0)) ts (by simp? only [q0]) (by omega) ?_ ?_
  · intro t hh
    simp? only []
    rfl
  · simp? only []
    unfold stgD
    rw [List.map_map]; rfl
theorem st3_none (ts : List Tk) : St3 ts (ts.map fun _ => (-1, 0, 0, 0)) := ⟨by simp, fun i hi => by
  unfold sAt
  rw [List.getD_eq_getElem?_getD, List.getElem?_map, tAt_ok hi]
  exact .none⟩
set_option Elab.async false
set_option linter.all false
set_option maxRecDepth 100000
open M PySem L2
theorem k_subS {f fj : FE} {S : M.Env} {i : Nat} {QS : Fl × M.Env → Prop} : Ok (sSub i fj f S) QS ↔ Ok (ownL i S) fun ds => Ok (f S) fun d => Ok (fj S) fun j => ∃ n m, j = .int n ∧ ixN ds.length n = some m ∧ QS (.nx, S.set i (some ⟨true, .lst (ds.set m d)⟩)) := by
  unfold sSub
  simp only [ok_bind]
  apply iff_of_eq
  congr 1; funext ds; congr 1; funext d; congr 1; funext j
  cases j with
  | int n =>
    dsimp only
    cases h : ixN ds.length n with
    | none =>
      refine propext ⟨fun ⟨_, e, _⟩ => (nomatch e), fun ⟨n', m, e, h', _⟩ => ?_⟩
      cases e; rw [h] at h'; cases h'
    | some m => exact propext ⟨fun q => ⟨n, m, rfl, h, ok_ok.mp q⟩, fun ⟨n', m', e, h', q⟩ => by cases e; rw [h] at h'; cases h'; exact ok_ok.mpr q⟩
  | _ => exact propext ⟨fun ⟨_, e, _⟩ => (nomatch e), fun ⟨_, _, e, _⟩ => (nomatch e)⟩
theorem ixN_nat {n i : Nat} (h : i < n) : ixN n (i : Int) = some i := by
  unfold ixN
  rw [if_pos (by omega), if_pos (by omega)]; simp
theorem node_ok {ts : List Tk} {ss : List Sts} (h : St3 ts ss) {i : Nat} (hi : i < ts.length) (h0 : 0 ≤ (sAt ss i).1) : L2.atI (tAt ts i).1 (sAt ss i).1 = some (nodeAt (tAt ts i).1 (sAt ss i).1) := nodeAt_ok h0 ((h.ok i hi).node h0)
theorem p_may_ask {ts : List Tk} {ss : List Sts} (h : St3 ts ss) {i : Nat} (hi : i < ts.length) (ho : op ts ss i = true) : ∃ b, d__law_may_ask [tkL (tAt ts i), stD (sAt ss i)] = .ok (.bl b) := by
  have hs := size_ge
  suffices h : Ok (d__law_may_ask [tkL (tAt ts i), stD (sAt ss i)]) fun d => ∃ b, d = .bl b by
    obtain ⟨d, e, b, rfl⟩ := h
    exact ⟨b, e⟩
  obtain ⟨n0, n1⟩ := node_of h hi ho
  unfold d__law_may_ask m__law_may_ask
  rw [ok_nox, k_run]
  simp? only [k_st3, k_st2, k_st0, k_lawt0, k_nL (node_ok h hi n0), k_law_nd0, k_lenP]
  exact ⟨fun _ => ⟨_, rfl⟩, fun _ => ⟨_, rfl⟩⟩
def wk1 (gd : Str) (t : Tk) (s : Sts) (more : Int) : Sts :=
  let d := if s.2.2.2 = 0 then s.2.2.1 + 1 else s.2.2.1
  (s.1, s.2.1, d, if d = (nodeAt t.1 s.1).1.length ∧ more = 1 ∧ gd ≠ "cut" then 1 else 0)
theorem wk1_a {gd : Str} {t : Tk} {s : Sts} {more : Int} (h : s.2.2.2 = 0) : wk1 gd t s more = (s.1, s.2.1, s.2.2.1 + 1, if s.2.2.1 + 1 = (nodeAt t.1 s.1).1.length ∧ more = 1 ∧ gd ≠ "cut" then 1 else 0) := by
  unfold wk1
  simp only [if_pos h]
theorem wk1_b {gd : Str} {t : Tk} {s : Sts} {more : Int} (h : ¬ s.2.2.2 = 0) : wk1 gd t s more = (s.1, s.2.1, s.2.2.1, if s.2.2.1 = (nodeAt t.1 s.1).1.length ∧ more = 1 ∧ gd ≠ "cut" then 1 else 0) := by
  unfold wk1
  simp only [if_neg h]
theorem wk1_ok {gd : Str} {t : Tk} {s : Sts} {more : Int} (h : StV t.1 s) (ho : unfS t.1 s = true) : StV t.1 (wk1 gd t s more) := by
  cases h with
  | none => exact absurd ho (by unfold unfS; simp)
  | job v a d o n hn hv hd hl ho2 =>
    have en : nodeAt t.1 v = n := by unfold nodeAt; rw [hn]; rfl
    unfold unfS at ho
    dsimp only at ho
    rw [lenN_of hn] at ho
    simp only [Bool.and_eq_true, Bool.or_eq_true, decide_eq_true_eq] at ho
    unfold wk1
    dsimp only
    rw [en]
    rcases ho2 with rfl | ⟨rfl, rfl⟩
    · rw [if_pos rfl]
      refine .job v a _ _ n hn hv (by omega) (by omega) ?_
      split
      · rename_i hc; exact .inr ⟨rfl, hc.1⟩
      · exact .inl rfl
    · rw [if_neg (by decide)]
      refine .job v a _ _ n hn hv (by omega) (by omega) ?_
      split
      · exact .inr ⟨rfl, rfl⟩
      · exact .inl rfl
theorem age_ok {ns : List Node} {s : Sts} {a : Int} (h : StV ns s) (h0 : 0 ≤ s.1) : StV ns (s.1, a, s.2.2.1, s.2.2.2) := by
  cases h with
  | none => exact absurd h0 (by decide)
  | job v b d o n hn hv hd hl ho => exact .job v a d o n hn hv hd hl ho
def agS (t : Tk) (s : Sts) : Sts := (s.1, if capOf t.2.1 (s.1.toNat, nodeAt t.1 s.1) < s.2.1 + 1 then capOf t.2.1 (s.1.toNat, nodeAt t.1 s.1) else s.2.1 + 1, s.2.2.1, s.2.2.2)
theorem sAt_set {ss : List Sts} {r i : Nat} {s : Sts} (hr : r < ss.length) : sAt (ss.set r s) i = if i = r then s else sAt ss i := by
  unfold sAt
  rw [List.getD_eq_getElem?_getD, List.getElem?_set, List.getD_eq_getElem?_getD]
  by_cases h : i = r
  · subst h; rw [if_pos rfl, if_pos hr, if_pos rfl]; rfl
  · rw [if_neg (fun e => h e.symm), if_neg h]
theorem st3_set {ts : List Tk} {ss : List Sts} {r : Nat} {s : Sts} (h : St3 ts ss) (hr : r < ts.length) (hs : StV (tAt ts r).1 s) : St3 ts (ss.set r s) := by
  refine ⟨by rw [List.length_set]; exact h.len, fun i hi => ?_⟩
  rw [sAt_set (s_len h hr)]
  by_cases e : i = r
  · subst e; rw [if_pos rfl]; exact hs
  · rw [if_neg e]; exact h.ok i hi
theorem set_map {ss : List Sts} {r : Nat} {s : Sts} : (ss.map stD).set r (stD s) = (ss.set r s).map stD := by rw [List.map_set]
def rowD (bit : Int) (cs : List Int) (ran : Option Nat) (more : Int) : D := .tup [.int bit, .tup (cs.map .int), .int (blkI ran), .int more]
theorem k_grow {bit more : Int} {cs : List Int} {ran : Option Nat} {r : FGs} {S : M.Env} {QE : M.Env → Prop} : Ok (gT 4 r (rowD bit cs ran more) S) QE ↔ Ok (r [.int bit, .tup (cs.map .int), .int (blkI ran), .int more] S) QE := by
  show Ok (gT 4 r (.tup [.int bit, .tup (cs.map .int), .int (blkI ran), .int more]) S) QE ↔ _
  rw [k_gT]; simp
theorem ne_cut {gd : Str} (h : grdW gd) : neD (.str gd) (.str "cut") = .ok (.bl (decide (gd ≠ "cut"))) := by rcases h with rfl | rfl | rfl <;> kernel_rfl
theorem p_lafter {sp : D} {w gd dr : Str} {raw : List T3} {ts : List Tk} {ss : List Sts} {cs l : List Int} {bit more : Int} {ran : Option Nat} (hsp : SpOk sp ts w gd) (hst : ∀ {Q : D → Prop}, Ok (ixA sp (.str "steps")) Q ↔ Q (.lst (raw.map tD))) (hdr : ∀ {Q : D → Prop}, Ok (ixA sp (.str "door")) Q ↔ Q (.str dr)) (hd : doorW dr) (hg : grdW gd) (hrw : raw.length ≤ 1000) (h3 : ts.length ≤ 3) (ht : ∀ t ∈ ts, TkOk t) (h : St3 ts ss) (hc : CmOk ts cs)
    (hran : ∀ r, ran = some r → r < ts.length ∧ op ts (arrS (shB dr) ts ss cs) r = true) : ∃ l' ss', St3 ts ss' ∧ d__law_after [sp, stgD l ss, rowD bit cs ran more] = .ok (stgD l' ss') := by
  have hs := size_ge
  suffices h : Ok (d__law_after [sp, stgD l ss, rowD bit cs ran more]) fun d => ∃ l' ss', St3 ts ss' ∧ d = stgD l' ss' by
    obtain ⟨d, e, l', ss', h1, rfl⟩ := h
    exact ⟨l', ss', h1, e⟩
  have q0 : ∀ {Q : D → Prop}, Ok (ixA sp (.str "tasks")) Q ↔ Q (.lst (ts.map tkL)) := hsp.t
  have q3 : ∀ {Q : D → Prop}, Ok (ixA sp (.str "guard")) Q ↔ Q (.str gd) := hsp.g
  have ea : d__law_arrived [sp, .tup (ss.map stD), .tup (cs.map .int)] = .ok (.tup ((arrS (shB dr) ts ss cs).map stD)) := p_larrived true hsp hdr hd h3 ht h hc
  have hA := arr_st3 (sh := shB dr) h hc
  obtain ⟨l', el⟩ := p_lstates raw l bit hrw
  unfold d__law_after m__law_after
  rw [ok_nox, k_run]
  refine seq_cut (fun S => S = [(some (Sl.mk false (sp))), (some (Sl.mk false (stgD l ss))), (some (Sl.mk false (rowD bit cs ran more))), (some (Sl.mk false (.int bit))), (some (Sl.mk false (.tup (cs.map .int)))), (some (Sl.mk false (.int (blkI ran)))), (some (Sl.mk false (.int more))), none, none, none, none, none, none]) (by simp? only [k_grow]) ?_
  rintro S rfl
  refine seq_cut (fun S => S = [(some (Sl.mk false (sp))), (some (Sl.mk false (stgD l ss))), (some (Sl.mk false (rowD bit cs ran more))), (some (Sl.mk false (.int bit))), (some (Sl.mk false (.tup (cs.map .int)))), (some (Sl.mk false (.int (blkI ran)))), (some (Sl.mk false (.int more))), (some (Sl.mk true (.lst ((arrS (shB dr) ts ss cs).map stD)))), none, none, none, none, none]) (by simp? only [k_stg1, ea]) ?_
  rintro S rfl
  generalize arrS (shB dr) ts ss cs = A at hA hran
  refine seq_cut (fun S => ∃ (A' : List Sts) (o8 o9 o10 o11 : Option Sl), St3 ts A' ∧ S = [(some (Sl.mk false (sp))), (some (Sl.mk false (stgD l ss))), (some (Sl.mk false (rowD bit cs ran more))), (some (Sl.mk false (.int bit))), (some (Sl.mk false (.tup (cs.map .int)))), (some (Sl.mk false (.int (blkI ran)))), (some (Sl.mk false (.int more))), (some (Sl.mk true (.lst (A'.map stD)))), o8, o9, o10, o11, none]) ?_ ?_
  · cases ran with
    | none =>
      simp? only [blkI_none]
      exact ⟨A, _, _, _, _, hA, rfl⟩
    | some r =>
      obtain ⟨hr, ho⟩ := hran r rfl
      obtain ⟨n0, n1⟩ := node_of hA hr ho
      rw [blkI_j]
      have rA : r < A.length := s_len hA hr
      have rl : ixN A.length (r : Int) = some r := ixN_nat rA
      have wo := wk1_ok (gd := gd) (more := more) (hA.ok r hr) ho
      have hnL : ∀ {Q : D → Prop}, Ok (ixD (.lst ((tAt ts r).1.map ndD)) (.int (sAt A r).1)) Q ↔ Q (ndD (nodeAt (tAt ts r).1 (sAt A r).1)) := k_nL (node_ok hA hr n0)
      have c0 : decide ((0 : Int) ≤ (r : Int)) = true := decide_eq_true (by omega)
      generalize hsr : sAt A r = s at wo n0 n1 hnL
      simp? only [c0, sAt_D rA, hsr, k_gst, q0, tAt_D tkL hr, k_lawt0, hnL, k_law_nd0, k_lenP, q3, ne_cut hg, k_subS]
      have fin : ∀ (z : Sts) (o8 o9 o10 o11 : Option Sl), wk1 gd (tAt ts r) s more = z → ∃ n m, D.int (r : Int) = .int n ∧ ixN A.length n = some m ∧ ∃ (A' : List Sts) (p8 p9 p10 p11 : Option Sl), St3 ts A' ∧ [(some (Sl.mk false (sp))), (some (Sl.mk false (stgD l ss))), (some (Sl.mk false (rowD bit cs (some r) more))), (some (Sl.mk false (.int bit))), (some (Sl.mk false (.tup (cs.map .int)))), (some (Sl.mk false (.int (r : Int)))), (some (Sl.mk false (.int more))), (some (Sl.mk true (.lst ((A.map stD).set m (stD z))))), o8, o9, o10, o11, none] = [(some (Sl.mk false (sp))), (some (Sl.mk false (stgD l ss))), (some (Sl.mk false (rowD bit cs (some r) more))), (some (Sl.mk false (.int bit))), (some (Sl.mk false (.tup (cs.map .int)))), (some (Sl.mk false (.int (r : Int)))), (some (Sl.mk false (.int more))), (some (Sl.mk true (.lst (A'.map stD)))), p8, p9, p10, p11, none] := fun z _ _ _ _ hz => ⟨r, r, rfl, rl, A.set r z, _, _, _, _, st3_set hA hr (hz ▸ wo), by rw [← set_map]⟩
      exact ⟨fun h1 => ⟨fun h2 => ⟨fun h3 => ⟨fun h4 => fin (s.1, s.2.1, s.2.2.1 + 1, 1) _ _ _ _ ((wk1_a (of_decide_eq_true h1)).trans (by rw [if_pos ⟨of_decide_eq_true h2, of_decide_eq_true h3, of_decide_eq_true h4⟩])), fun h4 => fin (s.1, s.2.1, s.2.2.1 + 1, 0) _ _ _ _ ((wk1_a (of_decide_eq_true h1)).trans (by rw [if_neg fun z => of_decide_eq_false h4 z.2.2]))⟩, fun h3 => fin (s.1, s.2.1, s.2.2.1 + 1, 0) _ _ _ _ ((wk1_a (of_decide_eq_true h1)).trans (by rw [if_neg fun z => of_decide_eq_false h3 z.2.1]))⟩, fun h2 => fin (s.1, s.2.1, s.2.2.1 + 1, 0) _ _ _ _ ((wk1_a (of_decide_eq_true h1)).trans (by rw [if_neg fun z => of_decide_eq_false h2 z.1]))⟩, fun h1 => ⟨fun h2 => ⟨fun h3 => ⟨fun h4 => fin (s.1, s.2.1, s.2.2.1, 1) _ _ _ _ ((wk1_b (of_decide_eq_false h1)).trans (by rw [if_pos ⟨of_decide_eq_true h2, of_decide_eq_true h3, of_decide_eq_true h4⟩])), fun h4 => fin (s.1, s.2.1, s.2.2.1, 0) _ _ _ _ ((wk1_b (of_decide_eq_false h1)).trans (by rw [if_neg fun z => of_decide_eq_false h4 z.2.2]))⟩, fun h3 => fin (s.1, s.2.1, s.2.2.1, 0) _ _ _ _ ((wk1_b (of_decide_eq_false h1)).trans (by rw [if_neg fun z => of_decide_eq_false h3 z.2.1]))⟩, fun h2 => fin (s.1, s.2.1, s.2.2.1, 0) _ _ _ _ ((wk1_b (of_decide_eq_false h1)).trans (by rw [if_neg fun z => of_decide_eq_false h2 z.1]))⟩⟩
  · rintro S ⟨A', o8, o9, o10, o11, hA', rfl⟩
    refine seq_cut (fun S => ∃ (A2 : List Sts) (o8 o9 o10 o11 o12 : Option Sl), St3 ts A2 ∧ S = [(some (Sl.mk false (sp))), (some (Sl.mk false (stgD l ss))), (some (Sl.mk false (rowD bit cs ran more))), (some (Sl.mk false (.int bit))), (some (Sl.mk false (.tup (cs.map .int)))), (some (Sl.mk false (.int (blkI ran)))), (some (Sl.mk false (.int more))), (some (Sl.mk true (.lst (A2.map stD)))), o8, o9, o10, o11, o12]) ?_ ?_
    · have e3 := hA'.len
      simp? only []
      refine ⟨⟨by omega, by omega⟩, ?_⟩
      rw [rngL_0, e3]
      refine for_typed (fun (i : Nat) => .int (i : Int)) (fun _ S => ∃ (A2 : List Sts) (o8 o9 o10 o11 o12 : Option Sl), St3 ts A2 ∧ S = [(some (Sl.mk false (sp))), (some (Sl.mk false (stgD l ss))), (some (Sl.mk false (rowD bit cs ran more))), (some (Sl.mk false (.int bit))), (some (Sl.mk false (.tup (cs.map .int)))), (some (Sl.mk false (.int (blkI ran)))), (some (Sl.mk false (.int more))), (some (Sl.mk true (.lst (A2.map stD)))), o8, o9, o10, o11, o12]) (List.range ts.length) _ ⟨A', o8, o9, o10, o11, none, hA', rfl⟩ ?_ ?_
      · rintro done i rest S hr ⟨A2, o8, o9, o10, o11, o12, h2, rfl⟩
        have hi : i < ts.length := List.mem_range.mp (by rw [hr]; simp)
        have iA : i < A2.length := s_len h2 hi
        have rl : ixN A2.length (i : Int) = some i := ixN_nat iA
        simp? only [sAt_D iA, k_gst]
        refine ⟨fun q => ?_, fun q => ⟨A2, _, _, _, _, _, h2, rfl⟩⟩
        have n0 := of_decide_eq_true q
        have ec : d__law_cap [tkL (tAt ts i), .int (sAt A2 i).1] = .ok (.int (capOf (tAt ts i).2.1 ((sAt A2 i).1.toNat, nodeAt (tAt ts i).1 (sAt A2 i).1))) := (p_lcap (ht _ (tAt_mem hi)) (node_ok h2 hi n0) n0).eq
        simp? only [q0, tAt_D tkL hi, ec, k_min2, k_subS]
        exact ⟨i, i, rfl, rl, A2.set i (agS (tAt ts i) (sAt A2 i)), _, _, _, _, _, st3_set h2 hi (age_ok (h2.ok i hi) n0), by rw [← set_map]; rfl⟩
      · rintro S ⟨A2, o8, o9, o10, o11, o12, h2, rfl⟩
        exact ⟨rfl, A2, _, _, _, _, _, h2, rfl⟩
    · rintro S ⟨A2, o8, o9, o10, o11, o12, h2, rfl⟩
      simp? only [hst, k_stg0, el]
      exact ⟨l', A2, h2, rfl⟩
set_option Elab.async false
set_option linter.all false
set_option maxRecDepth 100000
open M PySem L2
def drw (l : List Int) (i : Int) : Int := (L2.atI l i).getD 0
structure Dr (n : Nat) (l : List Int) : Prop where
  len : l.length = n
  bd : ∀ x ∈ l, 0 ≤ x ∧ x < 60
theorem Dr.at {n : Nat} {l : List Int} (h : Dr n l) {i : Int} (h0 : 0 ≤ i) (h1 : i < n) : L2.atI (l.map D.int) i = some (.int (drw l i)) := by
  obtain ⟨a, ha⟩ := atI_lt (xs := l) h0 (by rw [h.len]; exact h1)
  rw [atI_map, drw, ha]; rfl
theorem Dr.b {n : Nat} {l : List Int} (h : Dr n l) (i : Int) : 0 ≤ drw l i ∧ drw l i < 60 := by
  unfold drw
  cases e : L2.atI l i with
  | none => exact ⟨by decide, by decide⟩
  | some a => exact h.bd a (atI_mem e)
theorem p_cell (ns : List Int) (at_ : Int) (ha : 0 ≤ at_) : Ok (d__law_cell [.scr ns, .int at_]) fun d => ∃ z : Int, d = .int z := by
  unfold d__law_cell m__law_cell
  rw [ok_nox, k_run]
  simp? only []
  refine ⟨fun h => ?_, fun _ => ⟨_, rfl⟩⟩
  obtain ⟨d, hd⟩ := atI_lt ha (of_decide_eq_true h)
  exact ⟨d, hd, _, rfl⟩
theorem p_draws (ns : List Int) (at_ : Int) (cnt : Nat) (ha : 0 ≤ at_) (ha2 : at_ < 100) (hc : cnt ≤ 100) : ∃ l, Dr cnt l ∧ d__law_draws [.scr ns, .int at_, .int cnt] = .ok (.lst (l.map .int)) := by
  have hs := size_ge
  suffices h : Ok (d__law_draws [.scr ns, .int at_, .int cnt]) fun d => ∃ l, Dr cnt l ∧ d = .lst (l.map .int) by
    obtain ⟨d, e, l, h1, rfl⟩ := h
    exact ⟨l, h1, e⟩
  unfold d__law_draws m__law_draws
  rw [ok_nox]
  refine k_runT ?_
  refine seq_cut (fun S => ∃ cell : Int, S = [(some (Sl.mk false (.scr ns))), (some (Sl.mk false (.int at_))), (some (Sl.mk false (.int cnt))), (some (Sl.mk false (.int cell))), none, none, none, none]) ?_ ?_
  · simp? only []
    refine (p_cell ns at_ ha).mono ?_
    rintro d ⟨z, rfl⟩
    simp? only []
    exact ⟨_, rfl⟩
  rintro S ⟨cell, rfl⟩
  refine seq_cut (fun S => S = [(some (Sl.mk false (.scr ns))), (some (Sl.mk false (.int at_))), (some (Sl.mk false (.int cnt))), (some (Sl.mk false (.int cell))), (some (Sl.mk false (.int 0))), none, none, none]) (by simp? only []) ?_
  rintro S rfl
  refine seq_cut (fun S => ∃ rest : Int, S = [(some (Sl.mk false (.scr ns))), (some (Sl.mk false (.int at_))), (some (Sl.mk false (.int cnt))), (some (Sl.mk false (.int cell))), (some (Sl.mk false (.int rest))), none, none, none]) ?_ ?_
  · simp? only []
    exact ⟨⟨by omega, by omega, by decide⟩, fun _ => ⟨⟨by omega, by omega, by decide⟩, _, rfl⟩, fun _ => ⟨_, rfl⟩⟩
  rintro S ⟨rest, rfl⟩
  simp? only []
  refine ⟨⟨by omega, by omega⟩, ?_⟩
  refine for_inv (fun i S => ∃ (l : List Int) (rest : Int) (a b : Option Sl), Dr i l ∧ S = [(some (Sl.mk false (.scr ns))), (some (Sl.mk false (.int at_))), (some (Sl.mk false (.int cnt))), (some (Sl.mk false (.int cell))), (some (Sl.mk false (.int rest))), (some (Sl.mk true (.lst (l.map .int)))), a, b]) _ 0 _ ⟨[], rest, none, none, ⟨rfl, by simp⟩, rfl⟩ ?_ ?_
  · rintro i d S hd ⟨l, rest, a, b, hl, rfl⟩
    obtain ⟨hi, rfl⟩ := rngL_get hd
    simp only [Int.toNat_natCast] at hi
    rw [Nat.zero_add] at hl
    have hll : l.length < sizeLine := by rw [hl.len]; omega
    have snoc : ∀ x : Int, 0 ≤ x ∧ x < 60 → Dr (i + 1) (l ++ [x]) := fun x hx => ⟨by rw [List.length_append, hl.len]; simp, fun z hz => by
      rcases List.mem_append.mp hz with h | h
      · exact hl.bd z h
      · rw [List.mem_singleton] at h; subst h; exact hx⟩
    simp? only []
    refine ⟨fun h1 => ⟨by omega, hll, div_c (by omega) (by omega), l ++ [rest % 60], _, _, _, snoc _ (mod_b rest (by omega)), by rw [List.map_append]; rfl⟩, fun h1 => ?_⟩
    refine ⟨mul_r (by omega) (by omega), mul_l (by omega) (by omega), mul_l (by omega) (by omega), by omega, ?_⟩
    have m1 := mod_b (cell * 48271 + (0 + (i : Int)) * 69621 + at_ * 7919 + 12345) (m := 99991) (by omega)
    generalize (cell * 48271 + (0 + (i : Int)) * 69621 + at_ * 7919 + 12345) % 99991 = x1 at m1
    refine ⟨mul_l (by omega) (by omega), mul_l (by omega) (by omega), by omega, ?_⟩
    have m2 := mod_b (x1 * x1 + (0 + (i : Int)) * 101) (m := 999983) (by omega)
    generalize (x1 * x1 + (0 + (i : Int)) * 101) % 999983 = x2 at m2
    refine ⟨mul_l (by omega) (by omega), div_c (by omega) (by omega), by omega, ?_⟩
    generalize (x2 * x2 + x2 / 127) % 9999991 = x3
    have m4 := mod_b (x3 / 11) (m := 60) (by omega)
    exact ⟨div_c (by omega) (by omega), by omega, hll, l ++ [x3 / 11 % 60], _, _, _, snoc _ m4, by rw [List.map_append]; rfl⟩
  · rintro S ⟨l, rest, a, b, hl, rfl⟩
    rw [rngL_len, Nat.zero_add, Int.toNat_natCast] at hl
    simp? only []
    exact ⟨_, rfl, l, hl, rfl⟩
theorem p_drawsI (ns : List Int) (at_ c : Int) (cnt : Nat) (ha : 0 ≤ at_) (ha2 : at_ < 100) (hc : cnt ≤ 100) (e : c = cnt) : ∃ l, Dr cnt l ∧ d__law_draws [.scr ns, .int at_, .int c] = .ok (.lst (l.map .int)) := by subst e; exact p_draws ns at_ cnt ha ha2 hc
set_option Elab.async false
set_option linter.all false
set_option maxRecDepth 100000
open M PySem L2
theorem itM_all {f : Nat → Option Nat} {ld : Bool} {p : Nat → Prop} (hf : ∀ i j, f i = some j → p j) : ∀ (k : Nat) (s : MA), (∀ x ∈ s.1, p x) → (∀ a, s.2 = some a → p a) → ∀ x ∈ (itM f ld k s).1, p x
  | 0, s, h, _ => h
  | k + 1, (m, none), h, h2 => itM_all hf k (m, none) h h2
  | k + 1, (m, some a), h, h2 => by
    rw [itM, stpM_s]
    by_cases hc : ld = true ∧ a ∉ m
    · rw [if_pos hc]
      refine itM_all hf k _ (fun x hx => ?_) fun j hj => hf a j hj
      rcases List.mem_append.mp hx with hx | hx
      · exact h x hx
      · simp at hx; subst hx; exact h2 _ rfl
    · rw [if_neg hc]
      exact itM_all hf k _ h h2
theorem choN_op {L : List Int} {cl ld : Bool} {w g : Str} {ts : List Tk} {ss : List Sts} {j : Nat} (h : St3 ts ss) (hj : choN (blkS L cl ts ss) ld w g ts ss = some j) : j < ts.length ∧ op ts ss j = true := by
  unfold choN at hj
  obtain ⟨l1, job, l2, e, hc, _⟩ := List.findSome?_eq_some_iff.mp hj
  have hm : job ∈ urgN w g ts ss := by rw [e]; simp
  have ho := urgN_mem hm
  have ha := itM_all (f := blkS L cl ts ss) (ld := ld) (p := fun x => x < ts.length ∧ op ts ss x = true) (fun i j q => blkS_op h q) ts.length ([job], blkS L cl ts ss job) (by simpa using ho) (fun a q => blkS_op h q)
  unfold chS at hc
  generalize itM (blkS L cl ts ss) ld ts.length ([job], blkS L cl ts ss job) = s at hc ha
  obtain ⟨m, x⟩ := s
  cases x with
  | none =>
    have hc : m.getLast? = some j := hc
    exact ha j (List.mem_of_getLast? hc)
  | some x => cases hc
theorem cAt_snoc {cs : List Int} {x : Int} {k : Nat} (hk : k < cs.length + 1) : cAt (cs ++ [x]) k = if k = cs.length then x else cAt cs k := by
  unfold cAt
  rw [List.getD_eq_getElem?_getD, List.getD_eq_getElem?_getD]
  by_cases h : k = cs.length
  · subst h; rw [if_pos rfl]; simp
  · rw [if_neg h, List.getElem?_append_left (by omega)]
def openN (ts : List Tk) (ss : List Sts) : List Nat := (List.range ts.length).filter fun i => op ts ss i && decide (blkI (blkN ts ss i) < 0)
theorem p_any_row {sp : D} {w g dr : Str} {rs : List D} {L : List Int} {ts : List Tk} {ss : List Sts} {l : List Int} {a b : Int} (hsp : SpOk sp ts w g) (hdr : ∀ {Q : D → Prop}, Ok (ixA sp (.str "door")) Q ↔ Q (.str dr)) (hru : ∀ {Q : D → Prop}, Ok (ixA sp (.str "rules")) Q ↔ Q (.lst rs)) (hd : doorW dr) (hw : ordW w) (hg : grdW g) (hr : rlW rs) (h3 : ts.length ≤ 3) (ht : ∀ t ∈ ts, TkOk t) (h : St3 ts ss) (hL : L.length = ts.length) (eL : d__law_levels [.str w, .lst (ts.map tkL)] = .ok (.lst (L.map .int))) (a0 : 0 ≤ a) (a1 : a < 60) (b0 : 0 ≤ b) (b1 : b < 60) :
    ∃ bit cs ran more, CmOk ts cs ∧ (∀ r, ran = some r → r < ts.length ∧ op ts (arrS (shB dr) ts ss cs) r = true) ∧ d__law_any_row [sp, stgD l ss, .int a, .int b] = .ok (rowD bit cs ran more) := by
  have hs := size_ge
  suffices hh : Ok (d__law_any_row [sp, stgD l ss, .int a, .int b]) fun d => ∃ bit cs ran more, CmOk ts cs ∧ (∀ r, ran = some r → r < ts.length ∧ op ts (arrS (shB dr) ts ss cs) r = true) ∧ d = rowD bit cs ran more by
    obtain ⟨d, e, x1, x2, x3, x4, h1, h2, rfl⟩ := hh
    exact ⟨x1, x2, x3, x4, h1, h2, e⟩
  have q0 : ∀ {Q : D → Prop}, Ok (ixA sp (.str "tasks")) Q ↔ Q (.lst (ts.map tkL)) := hsp.t
  unfold d__law_any_row m__law_any_row
  rw [ok_nox, k_run]
  refine seq_cut (fun S => S = [(some (Sl.mk false (sp))), (some (Sl.mk false (stgD l ss))), (some (Sl.mk false (.int a))), (some (Sl.mk false (.int b))), (some (Sl.mk true (.lst []))), none, none, none, none, none]) (by simp? only []) ?_
  rintro S rfl
  refine seq_cut (fun S => ∃ cs o5, CmOk ts cs ∧ S = [(some (Sl.mk false (sp))), (some (Sl.mk false (stgD l ss))), (some (Sl.mk false (.int a))), (some (Sl.mk false (.int b))), (some (Sl.mk true (.lst (cs.map .int)))), o5, none, none, none, none]) ?_ ?_
  · simp? only [q0]
    refine ⟨⟨by omega, by omega⟩, ?_⟩
    refine for_inv (fun i S => ∃ (cs : List Int) (o5 : Option Sl), cs.length = i ∧ (∀ k, k < i → -1 ≤ cAt cs k ∧ cAt cs k < (tAt ts k).1.length) ∧ S = [(some (Sl.mk false (sp))), (some (Sl.mk false (stgD l ss))), (some (Sl.mk false (.int a))), (some (Sl.mk false (.int b))), (some (Sl.mk true (.lst (cs.map .int)))), o5, none, none, none, none]) _ 0 _ ⟨[], none, rfl, fun k hk => absurd hk (Nat.not_lt_zero _), rfl⟩ ?_ ?_
    · rintro i d S hd0 ⟨cs, o5, hl, hk, rfl⟩
      obtain ⟨hi, rfl⟩ := rngL_get hd0
      have hi : i < ts.length := by omega
      have n1 := (ht _ (tAt_mem hi)).n1
      have e0 : (0 : Int) + (i : Int) = (i : Int) := Int.zero_add _
      rw [e0]
      rw [Nat.zero_add] at hl hk
      rw [Nat.zero_add]
      have e9 : ∃ c : Int, (0 < c ∧ c ≤ 9) ∧ L2.atI [D.int 1, .int 3, .int 9] (i : Int) = some (.int c) := by
        obtain rfl | rfl | rfl : i = 0 ∨ i = 1 ∨ i = 2 := by omega
        · exact ⟨1, by omega, rfl⟩
        · exact ⟨3, by omega, rfl⟩
        · exact ⟨9, by omega, rfl⟩
      obtain ⟨c, hc, ec⟩ := e9
      have mb := mod_b (a / c) (m := ((tAt ts i).1.length : Int) + 1) (by omega)
      simp? only [q0, tAt_D tkL hi, k_lawt0, ec]
      refine ⟨div_c (by omega) (by omega), by omega, by omega, cs ++ [a / c % ((tAt ts i).1.length + 1) - 1], _, by simp [hl], fun k hk' => ?_, by rw [List.map_append]; rfl⟩
      rw [cAt_snoc (by omega)]
      by_cases hki : k = cs.length
      · rw [if_pos hki]
        have : k = i := by omega
        subst this
        omega
      · rw [if_neg hki]
        exact hk k (by omega)
    · rintro S ⟨cs, o5, hl, hk, rfl⟩
      rw [rngL_len] at hl hk
      exact ⟨rfl, cs, o5, ⟨by omega, fun i hi => hk i (by omega)⟩, rfl⟩
  rintro S ⟨cs, o5, hcm, rfl⟩
  have hA := arr_st3 (sh := shB dr) h hcm
  have ea : d__law_arrived [sp, .tup (ss.map stD), .tup (cs.map .int)] = .ok (.tup ((arrS (shB dr) ts ss cs).map stD)) := p_larrived true hsp hdr hd h3 ht h hcm
  refine seq_cut (fun S => S = [(some (Sl.mk false (sp))), (some (Sl.mk false (stgD l ss))), (some (Sl.mk false (.int a))), (some (Sl.mk false (.int b))), (some (Sl.mk false (.tup (cs.map .int)))), o5, none, none, none, none]) (by simp? only []) ?_
  rintro S rfl
  have eL2 := p_lchosen (L := L) true hsp hru hw hg hr h3 ht hA hL eL
  have eL2 : d__law_chosen [sp, .tup ((arrS (shB dr) ts ss cs).map stD)] = _ := eL2
  have eB : ∀ i, i < ts.length → d__law_blocked [.lst (ts.map tkL), .tup ((arrS (shB dr) ts ss cs).map stD), .int (i : Int)] = .ok (.int (blkI (blkN ts (arrS (shB dr) ts ss cs) i))) := fun i hi => p_lblocked true h3 ht hA hi
  have chop : ∀ r, choN (blkS L (ceilR rs) ts (arrS (shB dr) ts ss cs)) (lendR rs) w g ts (arrS (shB dr) ts ss cs) = some r → r < ts.length ∧ op ts (arrS (shB dr) ts ss cs) r = true := fun r q => choN_op hA q
  generalize hAe : arrS (shB dr) ts ss cs = A at hA ea eL2 eB chop
  refine seq_cut (fun S => S = [(some (Sl.mk false (sp))), (some (Sl.mk false (stgD l ss))), (some (Sl.mk false (.int a))), (some (Sl.mk false (.int b))), (some (Sl.mk false (.tup (cs.map .int)))), o5, (some (Sl.mk false (.tup (A.map stD)))), none, none, none]) (by simp? only [k_stg1, ea]) ?_
  rintro S rfl
  have lA := hA.len
  refine seq_cut (fun S => S = [(some (Sl.mk false (sp))), (some (Sl.mk false (stgD l ss))), (some (Sl.mk false (.int a))), (some (Sl.mk false (.int b))), (some (Sl.mk false (.tup (cs.map .int)))), o5, (some (Sl.mk false (.tup (A.map stD)))), (some (Sl.mk false (.lst ((openN ts A).map fun (i : Nat) => .int (i : Int))))), none, none]) ?_ ?_
  · simp? only []
    refine k_lcT (fun (i : Nat) => .int (i : Int)) (fun i => op ts A i && decide (blkI (blkN ts A i) < 0)) (fun (i : Nat) => .int (i : Int)) (List.range ts.length) ?_ (by rw [List.length_range]; omega) ?_ ?_
    · simp? only []
      rw [lA]
      exact ⟨⟨by omega, by omega⟩, rngL_0 _⟩
    · intro i hi
      have hi := List.mem_range.mp hi
      have eo : d__law_open [tkL (tAt ts i), stD (sAt A i)] = .ok (.bl (op ts A i)) := (p_open (ht _ (tAt_mem hi)) (hA.ok i hi)).eq
      simp? only [q0, tAt_D tkL hi, sAt_D (s_len hA hi), eo, eB i hi]
      exact ⟨fun q => by rw [q]; simp, fun q => by rw [q]; rfl⟩
    · simp? only []
      rfl
  rintro S rfl
  have oM : ∀ i ∈ openN ts A, i < ts.length ∧ op ts A i = true := fun i hi => by
    obtain ⟨h1, h2⟩ := List.mem_filter.mp hi
    simp only [Bool.and_eq_true] at h2
    exact ⟨List.mem_range.mp h1, h2.1⟩
  generalize openN ts A = can at oM
  refine seq_cut (fun S => S = [(some (Sl.mk false (sp))), (some (Sl.mk false (stgD l ss))), (some (Sl.mk false (.int a))), (some (Sl.mk false (.int b))), (some (Sl.mk false (.tup (cs.map .int)))), o5, (some (Sl.mk false (.tup (A.map stD)))), (some (Sl.mk false (.lst (can.map fun (i : Nat) => .int (i : Int))))), (some (Sl.mk false (.int (-1)))), none]) (by simp? only []) ?_
  rintro S rfl
  refine seq_cut (fun S => ∃ ran : Option Nat, (∀ r, ran = some r → r < ts.length ∧ op ts A r = true) ∧ S = [(some (Sl.mk false (sp))), (some (Sl.mk false (stgD l ss))), (some (Sl.mk false (.int a))), (some (Sl.mk false (.int b))), (some (Sl.mk false (.tup (cs.map .int)))), o5, (some (Sl.mk false (.tup (A.map stD)))), (some (Sl.mk false (.lst (can.map fun (i : Nat) => .int (i : Int))))), (some (Sl.mk false (.int (blkI ran)))), none]) ?_ ?_
  · simp? only []
    have D4 : CDiv b 4 := div_c (by omega) (by omega)
    have D20 : CDiv b 20 := div_c (by omega) (by omega)
    refine ⟨by omega, fun _ => ⟨fun q2 => ?_, fun _ => ⟨none, fun r q => (nomatch q), rfl⟩⟩, fun _ => ⟨none, fun r q => (nomatch q), rfl⟩⟩
    have hl : 0 < (can.length : Int) := of_decide_eq_true q2
    have mb := mod_b (b / 4) (m := (can.length : Int)) hl
    obtain ⟨c, hc⟩ := atI_lt (xs := can) (i := b / 4 % (can.length : Int)) mb.1 mb.2
    refine ⟨D4, by omega, fun _ => ⟨D4, hl, .int (c : Int), by rw [atI_map, hc]; rfl, D20, by omega, fun _ => ?_, fun _ => ⟨some c, fun r q => (by cases q; exact oM c (atI_mem hc)), rfl⟩⟩, fun _ => ⟨none, fun r q => (nomatch q), rfl⟩⟩
    rw [eL2, ok_ok]
    exact ⟨_, chop, rfl⟩
  rintro S ⟨ran, hran, rfl⟩
  refine seq_cut (fun S => S = [(some (Sl.mk false (sp))), (some (Sl.mk false (stgD l ss))), (some (Sl.mk false (.int a))), (some (Sl.mk false (.int b))), (some (Sl.mk false (.tup (cs.map .int)))), o5, (some (Sl.mk false (.tup (A.map stD)))), (some (Sl.mk false (.lst (can.map fun (i : Nat) => .int (i : Int))))), (some (Sl.mk false (.int (blkI ran)))), (some (Sl.mk false (.int 0)))]) (by simp? only []) ?_
  rintro S rfl
  refine seq_cut (fun S => ∃ more : Int, S = [(some (Sl.mk false (sp))), (some (Sl.mk false (stgD l ss))), (some (Sl.mk false (.int a))), (some (Sl.mk false (.int b))), (some (Sl.mk false (.tup (cs.map .int)))), o5, (some (Sl.mk false (.tup (A.map stD)))), (some (Sl.mk false (.lst (can.map fun (i : Nat) => .int (i : Int))))), (some (Sl.mk false (.int (blkI ran)))), (some (Sl.mk false (.int more)))]) ?_ ?_
  · cases ran with
    | none =>
      simp? only [blkI_none]
      exact ⟨_, rfl⟩
    | some r =>
      obtain ⟨hr1, hr2⟩ := hran r rfl
      obtain ⟨bm, em⟩ := p_may_ask hA hr1 hr2
      rw [blkI_j]
      simp? only [q0, tAt_D tkL hr1, sAt_D (s_len hA hr1), em]
      exact ⟨fun _ => ⟨div_c (by omega) (by omega), by omega, fun _ => ⟨fun _ => ⟨_, rfl⟩, fun _ => ⟨_, rfl⟩⟩, fun _ => ⟨_, rfl⟩⟩, fun _ => ⟨_, rfl⟩⟩
  rintro S ⟨more, rfl⟩
  simp? only [k_min2]
  exact ⟨by omega, _, cs, ran, more, hcm, (by rw [hAe]; exact hran), rfl⟩
set_option Elab.async false
set_option linter.all false
set_option maxRecDepth 100000
open M PySem L2
def oneW (s : Str) : Prop := s = "a" ∨ s = "b" ∨ s = "c" ∨ s = ""
def bothL (l : List D) : Prop := l = [] ∨ l = [.str "a"] ∨ l = [.str "b"] ∨ l = [.str "c"] ∨ l = [.str "a", .str "b"] ∨ l = [.str "a", .str "c"] ∨ l = [.str "b", .str "c"]
theorem srt_id {l : List D} (hp : l.Pairwise fun a b => dle a b = true) (ho : srtOk l = true) : srtAD (.lst l) = .ok (.lst l) := by
  have e : srt l = l := List.mergeSort_of_pairwise hp
  simp only [srtAD, ho, if_true, e]
theorem dab : dle (.str "a") (.str "b") = true := by kernel_rfl
theorem dac : dle (.str "a") (.str "c") = true := by kernel_rfl
theorem dbc : dle (.str "b") (.str "c") = true := by kernel_rfl
theorem srt_both {l : List D} (h : bothL l) : srtAD (.lst l) = .ok (.lst l) := by
  rcases h with rfl | rfl | rfl | rfl | rfl | rfl | rfl
  · exact srt_id (by simp) (by kernel_rfl)
  · exact srt_id (by simp) (by kernel_rfl)
  · exact srt_id (by simp) (by kernel_rfl)
  · exact srt_id (by simp) (by kernel_rfl)
  · exact srt_id (by simp [dab]) (by kernel_rfl)
  · exact srt_id (by simp [dac]) (by kernel_rfl)
  · exact srt_id (by simp [dbc]) (by kernel_rfl)
theorem join_both {l : List D} (h : bothL l) : ∃ s ∈ EN, joinD (.str "") (.lst l) = .ok (.str s) := by
  rcases h with rfl | rfl | rfl | rfl | rfl | rfl | rfl
  · exact ⟨"", by decide +kernel, by kernel_rfl⟩
  · exact ⟨"a", by decide +kernel, by kernel_rfl⟩
  · exact ⟨"b", by decide +kernel, by kernel_rfl⟩
  · exact ⟨"c", by decide +kernel, by kernel_rfl⟩
  · exact ⟨"ab", by decide +kernel, by kernel_rfl⟩
  · exact ⟨"ac", by decide +kernel, by kernel_rfl⟩
  · exact ⟨"bc", by decide +kernel, by kernel_rfl⟩
def bothE : FE := lcE (fun S => (eS "abc") S >>= itemsD) (gN 7) (tB' (e2 inA (eW 7) (e2 addD (eW 2) (eW 3)))) (eV 7) [7]
theorem both_l {x y : Str} (hx : oneW x) (hy : oneW y) (a b : Option Sl) : ∃ l, bothL l ∧ bothE [a, b, (some (Sl.mk false (.str x))), (some (Sl.mk false (.str y))), none, none, none, none] = .ok (.lst l) := by
  rcases hx with rfl | rfl | rfl | rfl <;> rcases hy with rfl | rfl | rfl | rfl
  · exact ⟨[.str "a"], by simp [bothL], by kernel_rfl⟩
  · exact ⟨[.str "a", .str "b"], by simp [bothL], by kernel_rfl⟩
  · exact ⟨[.str "a", .str "c"], by simp [bothL], by kernel_rfl⟩
  · exact ⟨[.str "a"], by simp [bothL], by kernel_rfl⟩
  · exact ⟨[.str "a", .str "b"], by simp [bothL], by kernel_rfl⟩
  · exact ⟨[.str "b"], by simp [bothL], by kernel_rfl⟩
  · exact ⟨[.str "b", .str "c"], by simp [bothL], by kernel_rfl⟩
  · exact ⟨[.str "b"], by simp [bothL], by kernel_rfl⟩
  · exact ⟨[.str "a", .str "c"], by simp [bothL], by kernel_rfl⟩
  · exact ⟨[.str "b", .str "c"], by simp [bothL], by kernel_rfl⟩
  · exact ⟨[.str "c"], by simp [bothL], by kernel_rfl⟩
  · exact ⟨[.str "c"], by simp [bothL], by kernel_rfl⟩
  · exact ⟨[.str "a"], by simp [bothL], by kernel_rfl⟩
  · exact ⟨[.str "b"], by simp [bothL], by kernel_rfl⟩
  · exact ⟨[.str "c"], by simp [bothL], by kernel_rfl⟩
  · exact ⟨[], by simp [bothL], by kernel_rfl⟩
theorem one_at (i : Int) (h0 : 0 ≤ i) (h4 : i < 4) : ∃ s, oneW s ∧ L2.atI [D.str "a", .str "b", .str "c", .str ""] i = some (.str s) := by
  obtain rfl | rfl | rfl | rfl : i = 0 ∨ i = 1 ∨ i = 2 ∨ i = 3 := by omega
  · exact ⟨_, .inl rfl, rfl⟩
  · exact ⟨_, .inr (.inl rfl), rfl⟩
  · exact ⟨_, .inr (.inr (.inl rfl)), rfl⟩
  · exact ⟨_, .inr (.inr (.inr rfl)), rfl⟩
theorem two_at (i : Int) (h0 : 0 ≤ i) (h4 : i < 4) : ∃ s, oneW s ∧ L2.atI [D.str "", .str "a", .str "b", .str "c"] i = some (.str s) := by
  obtain rfl | rfl | rfl | rfl : i = 0 ∨ i = 1 ∨ i = 2 ∨ i = 3 := by omega
  · exact ⟨_, .inr (.inr (.inr rfl)), rfl⟩
  · exact ⟨_, .inl rfl, rfl⟩
  · exact ⟨_, .inr (.inl rfl), rfl⟩
  · exact ⟨_, .inr (.inr (.inl rfl)), rfl⟩
theorem one_en {s : Str} (h : oneW s) : s ∈ EN := by rcases h with rfl | rfl | rfl | rfl <;> decide +kernel
theorem plan_at {x y z : Str} (hx : x ∈ EN) (hy : y ∈ EN) (hz : z ∈ EN) (i : Int) (h0 : 0 ≤ i) (h6 : i < 6) : ∃ p : List Str, (1 ≤ p.length ∧ p.length ≤ 3) ∧ (∀ s ∈ p, s ∈ EN) ∧ L2.atI [D.lst [.str x, .str y, .str z], .lst [.str x, .str y], .lst [.str y, .str y], .lst [.str y], .lst [.str x, .str x, .str y], .lst [.str z, .str y, .str x]] i = some (.lst (p.map .str)) := by
  obtain rfl | rfl | rfl | rfl | rfl | rfl : i = 0 ∨ i = 1 ∨ i = 2 ∨ i = 3 ∨ i = 4 ∨ i = 5 := by omega
  · exact ⟨[x, y, z], by simp, by simp [hx, hy, hz], rfl⟩
  · exact ⟨[x, y], by simp, by simp [hx, hy], rfl⟩
  · exact ⟨[y, y], by simp, by simp [hy], rfl⟩
  · exact ⟨[y], by simp, by simp [hy], rfl⟩
  · exact ⟨[x, x, y], by simp, by simp [hx, hy], rfl⟩
  · exact ⟨[z, y, x], by simp, by simp [hx, hy, hz], rfl⟩
structure TkS (t : Tk) : Prop where
  ok : TkOk t
  one : t.1.length = 1
  l3 : ∀ n ∈ t.1, n.1.length ≤ 3
theorem fac_S {t : Tk} (h : TkS t) : 1 ≤ fac t ∧ fac t ≤ 46 := by
  have hb := fac_bd h.ok
  refine ⟨hb.1, ?_⟩
  have h0 : 0 < t.1.length := by rw [h.one]; omega
  have hc := cap_bd h.ok h0
  have hn := h.l3 _ (atI_mem (nodeAt_ok (ns := t.1) (i := ((0 : Nat) : Int)) (by omega) (by omega)))
  have e : fac t = 1 + part t 0 := by
    unfold fac
    rw [h.one]
    simp [List.range_succ]
  rw [e]
  unfold part
  have : (capI t 0 + 1) * ((nodeAt t.1 ((0 : Nat) : Int)).1.length + 2) ≤ 9 * ((nodeAt t.1 ((0 : Nat) : Int)).1.length + 2) := Int.mul_le_mul_of_nonneg_right (by omega) (by omega)
  have e2 : nodeAt t.1 ((0 : Nat) : Int) = nodeAt t.1 (0 : Nat) := rfl
  omega
theorem wS_46 : ∀ (ts : List Tk) (w : Int), 0 ≤ w → (∀ t ∈ ts, TkS t) → wS w ts ≤ w * 46 ^ ts.length
  | [], w, h, _ => by simp [wS]
  | t :: ts, w, h, ht => by
    have h1 := fac_S (ht t (by simp))
    have h2 := wS_46 ts (w * fac t) (Int.mul_nonneg h (by omega)) fun x hx => ht x (by simp [hx])
    have h3 : w * fac t ≤ w * 46 := Int.mul_le_mul_of_nonneg_left h1.2 h
    have h4 : w * fac t * 46 ^ ts.length ≤ w * 46 * 46 ^ ts.length := Int.mul_le_mul_of_nonneg_right h3 (Int.pow_nonneg (by decide))
    have e : w * 46 ^ (t :: ts).length = w * 46 * 46 ^ ts.length := by rw [List.length_cons, Int.pow_succ, Int.mul_assoc, Int.mul_comm (46 ^ ts.length)]
    rw [e]
    show wS (w * fac t) ts ≤ _
    omega
theorem p_lock_task (l : List Int) (hl : Dr 16 l) (a : Int) (a0 : 0 ≤ a) (a1 : a ≤ 12) : ∃ t, TkS t ∧ d__law_lock_task [.lst (l.map .int), .int a] = .ok (tkL t) := by
  have hs := size_ge
  suffices h : Ok (d__law_lock_task [.lst (l.map .int), .int a]) fun d => ∃ t, TkS t ∧ d = tkL t by
    obtain ⟨d, e, t, h1, rfl⟩ := h
    exact ⟨t, h1, e⟩
  have at_ : ∀ i : Int, 0 ≤ i → i < 16 → L2.atI (l.map D.int) i = some (.int (drw l i)) := fun i h0 h1 => hl.at h0 (by omega)
  unfold d__law_lock_task m__law_lock_task
  rw [ok_nox, k_run]
  obtain ⟨x, hx, ex⟩ := one_at (drw l a % 4) (mod_b _ (by omega)).1 (mod_b _ (by omega)).2
  obtain ⟨y, hy, ey⟩ := two_at (drw l a / 4 % 4) (mod_b _ (by omega)).1 (mod_b _ (by omega)).2
  refine seq_cut (fun S => S = [(some (Sl.mk false (.lst (l.map .int)))), (some (Sl.mk false (.int a))), (some (Sl.mk false (.str x))), none, none, none, none, none]) ?_ ?_
  · simp? only [at_ a (by omega) (by omega), ex]
    omega
  rintro S rfl
  refine seq_cut (fun S => S = [(some (Sl.mk false (.lst (l.map .int)))), (some (Sl.mk false (.int a))), (some (Sl.mk false (.str x))), (some (Sl.mk false (.str y))), none, none, none, none]) ?_ ?_
  · simp? only [at_ a (by omega) (by omega), ey]
    exact ⟨div_c (by omega) (by omega), by omega⟩
  rintro S rfl
  obtain ⟨bl, hbl, eb⟩ := both_l hx hy (some (Sl.mk false (.lst (l.map .int)))) (some (Sl.mk false (.int a)))
  obtain ⟨s, hsE, es⟩ := join_both hbl
  refine seq_cut (fun S => S = [(some (Sl.mk false (.lst (l.map .int)))), (some (Sl.mk false (.int a))), (some (Sl.mk false (.str x))), (some (Sl.mk false (.str y))), (some (Sl.mk false (.str s))), none, none, none]) ?_ ?_
  · rw [k_set, k_eM1, k_S]
    refine ⟨rfl, ?_⟩
    rw [k_C]
    show Ok (aC bothE aN _) _
    rw [k_c, eb, ok_ok]
    simp? only [srt_both hbl, es]
  rintro S rfl
  obtain ⟨p, hp, hpe, ep⟩ := plan_at (one_en hx) hsE (one_en hy) (drw l (a + 1) % 6) (mod_b _ (by omega)).1 (mod_b _ (by omega)).2
  refine seq_cut (fun S => S = [(some (Sl.mk false (.lst (l.map .int)))), (some (Sl.mk false (.int a))), (some (Sl.mk false (.str x))), (some (Sl.mk false (.str y))), (some (Sl.mk false (.str s))), (some (Sl.mk false (.lst (p.map .str)))), none, none]) ?_ ?_
  · simp? only [at_ (a + 1) (by omega) (by omega), ep]
    omega
  rintro S rfl
  have m3 := mod_b (drw l (a + 2)) (m := 3) (by omega)
  have m4 := mod_b (drw l (a + 2) / 3) (m := 3) (by omega)
  refine seq_cut (fun S => S = [(some (Sl.mk false (.lst (l.map .int)))), (some (Sl.mk false (.int a))), (some (Sl.mk false (.str x))), (some (Sl.mk false (.str y))), (some (Sl.mk false (.str s))), (some (Sl.mk false (.lst (p.map .str)))), (some (Sl.mk false (.int (p.length + drw l (a + 2) % 3)))), none]) ?_ ?_
  · simp? only [at_ (a + 2) (by omega) (by omega)]
    omega
  rintro S rfl
  simp? only [at_ (a + 2) (by omega) (by omega), k_min2]
  refine ⟨div_c (by omega) (by omega), by omega, ?_⟩
  generalize hdu : (p.length : Int) + drw l (a + 2) % 3 = du
  have hgb : du ≤ (if du + drw l (a + 2) / 3 % 3 < 8 then du + drw l (a + 2) / 3 % 3 else 8) ∧ (if du + drw l (a + 2) / 3 % 3 < 8 then du + drw l (a + 2) / 3 % 3 else 8) ≤ 8 := by split <;> omega
  generalize (if du + drw l (a + 2) / 3 % 3 < 8 then du + drw l (a + 2) / 3 % 3 else (8 : Int)) = gp at hgb
  refine ⟨([(p, du)], [(0, 0, gp)], false), ⟨⟨by simp, by simp, fun n hn => ?_, fun e he => ?_, by simp, by simp, by simp⟩, rfl, fun n hn => ?_⟩, rfl⟩
  · have hn : n = (p, du) := List.mem_singleton.mp hn
    subst hn
    exact ⟨by dsimp only; omega, by dsimp only; omega, by dsimp only; omega, by dsimp only; omega, hpe⟩
  · have he : e = (0, 0, gp) := List.mem_singleton.mp he
    subst he
    exact ⟨by simp, by simp, by simp, by simp, hgb.2, (p, du), rfl, hgb.1⟩
  · have hn : n = (p, du) := List.mem_singleton.mp hn
    subst hn
    exact hp.2
set_option Elab.async false
set_option linter.all false
set_option maxRecDepth 100000
open M PySem L2
theorem p_isnum (i : Int) : d__law_is_number [.int i, .int i] = .ok (.bl true) := by
  apply Ok.eq
  unfold d__law_is_number m__law_is_number
  rw [ok_nox, k_run]
  simp? only [k_isI1, k_isI2, k_deqS (show dok 60 (.int i) = true by simp [dok])]
theorem cnt_at (i : Int) (h0 : 0 ≤ i) (h6 : i < 6) : ∃ c : Nat, (1 ≤ c ∧ c ≤ 3) ∧ L2.atI [D.int 1, .int 2, .int 2, .int 3, .int 3, .int 3] i = some (.int (c : Int)) := by
  obtain rfl | rfl | rfl | rfl | rfl | rfl : i = 0 ∨ i = 1 ∨ i = 2 ∨ i = 3 ∨ i = 4 ∨ i = 5 := by omega
  · exact ⟨1, by decide, rfl⟩
  · exact ⟨2, by decide, rfl⟩
  · exact ⟨2, by decide, rfl⟩
  · exact ⟨3, by decide, rfl⟩
  · exact ⟨3, by decide, rfl⟩
  · exact ⟨3, by decide, rfl⟩
theorem ord_at (i : Int) (h0 : 0 ≤ i) (h6 : i < 3) : ∃ w, ordW w ∧ L2.atI [D.str "first", .str "last", .str "dues"] i = some (.str w) := by
  obtain rfl | rfl | rfl : i = 0 ∨ i = 1 ∨ i = 2 := by omega
  · exact ⟨_, .inl rfl, rfl⟩
  · exact ⟨_, .inr (.inl rfl), rfl⟩
  · exact ⟨_, .inr (.inr rfl), rfl⟩
theorem door_at (i : Int) (h0 : 0 ≤ i) (h6 : i < 2) : ∃ w, doorW w ∧ L2.atI [D.str "shut", .str "open"] i = some (.str w) := by
  obtain rfl | rfl : i = 0 ∨ i = 1 := by omega
  · exact ⟨_, .inl rfl, rfl⟩
  · exact ⟨_, .inr rfl, rfl⟩
theorem grd_at (i : Int) (h0 : 0 ≤ i) (h6 : i < 3) : ∃ w, grdW w ∧ L2.atI [D.str "cut", .str "after", .str "trust"] i = some (.str w) := by
  obtain rfl | rfl | rfl : i = 0 ∨ i = 1 ∨ i = 2 := by omega
  · exact ⟨_, .inl rfl, rfl⟩
  · exact ⟨_, .inr (.inl rfl), rfl⟩
  · exact ⟨_, .inr (.inr rfl), rfl⟩
theorem int_inj : ∀ {a b : List Int}, a.map D.int = b.map D.int → a = b
  | [], [], _ => rfl
  | [], _ :: _, h => nomatch h
  | _ :: _, [], h => nomatch h
  | x :: a, y :: b, h => by
    simp only [List.map_cons, List.cons.injEq, D.int.injEq] at h
    rw [h.1, int_inj h.2]
theorem list_of {α : Type} (f : α → D) (P : α → Prop) : ∀ (ys : List D), (∀ y ∈ ys, ∃ x, P x ∧ y = f x) → ∃ xs : List α, ys = xs.map f ∧ ∀ x ∈ xs, P x
  | [], _ => ⟨[], rfl, by simp⟩
  | y :: ys, h => by
    obtain ⟨x, hx, rfl⟩ := h y (by simp)
    obtain ⟨xs, rfl, hs⟩ := list_of f P ys fun z hz => h z (by simp [hz])
    exact ⟨x :: xs, rfl, fun z hz => by rcases List.mem_cons.mp hz with rfl | hz; exact hx; exact hs z hz⟩
theorem spok_of {sp sz st be rl dr : D} {w g : Str} {ts : List Tk} (h : IsSp sp sz st be (.lst (ts.map tkL)) rl (.str w) dr (.str g)) : SpOk sp ts w g := ⟨ok_eq h.e3, ok_eq h.e5, ok_eq h.e7⟩
theorem rl_two (p : Nat × Str → Bool) : rlW (([(0, "lend"), (1, "ceil")] : List (Nat × Str)).filter p |>.map fun q => .str q.2) := by
  cases h1 : p (0, "lend") <;> cases h2 : p (1, "ceil")
  · rw [List.filter_cons_of_neg (by simp [h1]), List.filter_cons_of_neg (by simp [h2])]; exact .inl rfl
  · rw [List.filter_cons_of_neg (by simp [h1]), List.filter_cons_of_pos h2]; exact .inr (.inr (.inl rfl))
  · rw [List.filter_cons_of_pos h1, List.filter_cons_of_neg (by simp [h2])]; exact .inr (.inl rfl)
  · rw [List.filter_cons_of_pos h1, List.filter_cons_of_pos h2]; exact .inr (.inr (.inr (.inl rfl)))
set_option Elab.async false
set_option linter.all false
set_option maxRecDepth 100000
open M PySem L2
theorem k_disp {ks : List Str} {fa : FA} {S : M.Env} {Q : D → Prop} : Ok (eDisp ks fa S) Q ↔ Ok (fa S) fun ds => (ds.length = ks.length ∧ ks.Nodup ∧ ks.length ≤ 15) ∧ Q (.dic (ks.map .inr) ds) := by
  unfold eDisp; simp only [ok_bind, ok_if, ok_ok]
abbrev e17 (ns : List Int) (o1 o2 o4 o6 o7 o8 o9 o10 o11 o12 o3 o5 o13 o14 o15 : Option Sl) : M.Env := [(some (Sl.mk false (.scr ns))), o1, o2, o3, o4, o5, o6, o7, o8, o9, o10, o11, o12, o13, o14, o15, none]
theorem pure_law : ∀ ns : List Int, ns.length ≤ 63 → (∀ z ∈ ns, PySem.Builtin.Int.intBits z ≤ 1048576) → d_law [.scr ns] = .ok (.bl true) := by
  intro ns h63 hb
  have hs := size_ge
  apply Ok.eq
  unfold d_law m_law
  rw [ok_nox, k_run]
  obtain ⟨l, hl, el⟩ := p_drawsI ns 0 16 16 (by omega) (by omega) (by omega) rfl
  obtain ⟨l1, hl1, el1⟩ := p_drawsI ns 1 14 14 (by omega) (by omega) (by omega) rfl
  have at_ : ∀ i : Int, 0 ≤ i → i < 16 → L2.atI (l.map D.int) i = some (.int (drw l i)) := fun i h0 h1 => hl.at h0 (by omega)
  have at1 : ∀ i : Int, 0 ≤ i → i < 14 → L2.atI (l1.map D.int) i = some (.int (drw l1 i)) := fun i h0 h1 => hl1.at h0 (by omega)
  refine seq_cut (fun S => S = e17 ns (some (Sl.mk false (.lst (l.map .int)))) none none none none none none none none none none none none none none) (by simp? only [el]) ?_
  rintro S rfl
  obtain ⟨c, hc, ec⟩ := cnt_at (drw l 0 % 6) (mod_b _ (by omega)).1 (mod_b _ (by omega)).2
  refine seq_cut (fun S => S = e17 ns (some (Sl.mk false (.lst (l.map .int)))) (some (Sl.mk false (.int (c : Int)))) none none none none none none none none none none none none none) ?_ ?_
  · simp? only [at_ 0 (by omega) (by omega), ec]
    try omega
  rintro S rfl
  refine seq_cut (fun S => ∃ ts : List Tk, ts.length = c ∧ (∀ t ∈ ts, TkS t) ∧ S = e17 ns (some (Sl.mk false (.lst (l.map .int)))) (some (Sl.mk false (.int (c : Int)))) (some (Sl.mk false (.lst (ts.map tkL)))) none none none none none none none none none none none none) ?_ ?_
  · simp? only []
    refine k_lcA (P := fun y => ∃ t, TkS t ∧ y = tkL t) c (by omega) ?_ ?_
    · simp? only []
      refine ⟨⟨by omega, by omega⟩, by rw [rngL_len]; omega, ?_⟩
      intro d hd
      obtain ⟨k, hk⟩ := List.getElem?_of_mem hd
      obtain ⟨hk, rfl⟩ := rngL_get hk
      obtain ⟨t, ht, et⟩ := p_lock_task l hl (1 + 3 * (0 + (k : Int))) (by omega) (by omega)
      simp? only []
      refine ⟨mul_l (by omega) (by omega), ?_⟩
      rw [et, ok_ok]
      exact ⟨t, ht, rfl⟩
    · intro ys h1 h2
      obtain ⟨ts, rfl, ht⟩ := list_of tkL TkS ys h2
      rw [List.length_map] at h1
      exact ⟨ts, h1, ht, rfl⟩
  rintro S ⟨ts, hts, hS, rfl⟩
  have h3 : ts.length ≤ 3 := by omega
  have ht : ∀ t ∈ ts, TkOk t := fun t h => (hS t h).ok
  have b10 := hl.b 10
  refine seq_cut (fun S => ∃ rs, rlW rs ∧ S = e17 ns (some (Sl.mk false (.lst (l.map .int)))) (some (Sl.mk false (.int (c : Int)))) (some (Sl.mk false (.lst (ts.map tkL)))) (some (Sl.mk false (.lst rs))) none none none none none none none none none none none) ?_ ?_
  · simp? only []
    refine k_lcT (fun q : Nat × Str => .tup [.int (q.1 : Int), .str q.2]) (fun q => decide (drw l 10 / (1 + (q.1 : Int)) % 2 = 1)) (fun q => .str q.2) [(0, "lend"), (1, "ceil")] ?_ (by simp; omega) ?_ ?_
    · simp? only []
      exact ok_ok.mpr rfl
    · intro q hq
      have hq2 : q.1 ≤ 1 := by
        simp only [List.mem_cons, List.not_mem_nil, or_false] at hq
        rcases hq with rfl | rfl <;> decide
      simp? only [k_gtk, at_ 10 (by omega) (by omega)]
      exact ⟨div_c (by omega) (by omega), by omega⟩
    · exact ⟨_, rl_two _, rfl⟩
  rintro S ⟨rs, hr, rfl⟩
  obtain ⟨w, hw, ew⟩ := ord_at (drw l 11 % 3) (mod_b _ (by omega)).1 (mod_b _ (by omega)).2
  obtain ⟨dr, hd, ed⟩ := door_at (drw l 12 % 2) (mod_b _ (by omega)).1 (mod_b _ (by omega)).2
  obtain ⟨gd, hg, eg⟩ := grd_at (drw l 13 % 3) (mod_b _ (by omega)).1 (mod_b _ (by omega)).2
  refine seq_cut (fun S => S = e17 ns (some (Sl.mk false (.lst (l.map .int)))) (some (Sl.mk false (.int (c : Int)))) (some (Sl.mk false (.lst (ts.map tkL)))) (some (Sl.mk false (.lst rs))) (some (Sl.mk false (spA (.int 1) (.lst ([((0 : Int), (1 : Int), (0 : Int))].map tD)) (.tup ([(0 : Int)].map .int)) (.lst (ts.map tkL)) (.lst rs) (.str w) (.str dr) (.str gd)))) none none none none none none none none none none) ?_ ?_
  · simp? only [k_disp, at_ 11 (by omega) (by omega), at_ 12 (by omega) (by omega), at_ 13 (by omega) (by omega), ew, ed, eg]
    exact ⟨by omega, by omega, by omega, by decide +kernel, rfl⟩
  rintro S rfl
  have isp := is_spA (.int 1) (.lst ([((0 : Int), (1 : Int), (0 : Int))].map tD)) (.tup ([(0 : Int)].map .int)) (.lst (ts.map tkL)) (.lst rs) (.str w) (.str dr) (.str gd)
  generalize spA (.int 1) (.lst ([((0 : Int), (1 : Int), (0 : Int))].map tD)) (.tup ([(0 : Int)].map .int)) (.lst (ts.map tkL)) (.lst rs) (.str w) (.str dr) (.str gd) = sp at isp
  have hwt : wS 1 ts ≤ 100000 := by
    have := wS_46 ts 1 (by omega) hS
    obtain h | h | h : ts.length = 1 ∨ ts.length = 2 ∨ ts.length = 3 := by omega
    all_goals rw [h] at this; omega
  have eCo := p_lcore isp tic_A h3 ht hwt hw hr hd hg
  have eCh := p_lchoice isp hw hr
  have hsp : SpOk sp ts w gd := spok_of isp
  have est := p_lstart hsp (be := [0]) (ok_eq isp.e2) h3
  have hdr : ∀ {Q : D → Prop}, Ok (ixA sp (.str "door")) Q ↔ Q (.str dr) := ok_eq isp.e6
  have hru : ∀ {Q : D → Prop}, Ok (ixA sp (.str "rules")) Q ↔ Q (.lst rs) := ok_eq isp.e4
  have hst : ∀ {Q : D → Prop}, Ok (ixA sp (.str "steps")) Q ↔ Q (.lst ([((0 : Int), (1 : Int), (0 : Int))].map tD)) := ok_eq isp.e1
  obtain ⟨L, hL, _, eA, eB⟩ := lev_both false (.tup (srt rs)) hw (by omega) h3 ht
  obtain ⟨L2, _, _, eA2, eB2⟩ := lev_both true (.tup (srt rs)) hw (by omega) h3 ht
  have eLL : L2 = L := by
    rw [eB] at eB2
    injection eB2 with q
    injection q with q
    exact (int_inj q).symm
  subst eLL
  generalize hco : coreO (supO 1 ([((0 : Int), (1 : Int), (0 : Int))].mergeSort tle) ([(0 : Int)].mergeSort ile)) (.tup (ts.map tkO)) (chO w (.tup (srt rs))) (.str dr) (.str gd) (wS 1 ts) (ptN ts.length) = co at eCo
  have c1 : ∀ {Q : D → Prop}, Ok (fldD 6 1 co) Q ↔ Q (.tup (ts.map tkO)) := by subst hco; exact k_co1
  refine seq_cut (fun S => S = e17 ns (some (Sl.mk false (.lst (l.map .int)))) (some (Sl.mk false (.int (c : Int)))) (some (Sl.mk false (.lst (ts.map tkL)))) (some (Sl.mk false (.lst rs))) (some (Sl.mk false (sp))) (some (Sl.mk false (co))) none none none none none none none none none) (by simp? only [eCo]) ?_
  rintro S rfl
  refine seq_cut (fun S => S = e17 ns (some (Sl.mk false (.lst (l.map .int)))) (some (Sl.mk false (.int (c : Int)))) (some (Sl.mk false (.lst (ts.map tkL)))) (some (Sl.mk false (.lst rs))) (some (Sl.mk false (sp))) (some (Sl.mk false (co))) (some (Sl.mk false (chO w (.tup (srt rs))))) none none none none none none none none) (by simp? only [eCh]) ?_
  rintro S rfl
  refine seq_cut (fun S => S = e17 ns (some (Sl.mk false (.lst (l.map .int)))) (some (Sl.mk false (.int (c : Int)))) (some (Sl.mk false (.lst (ts.map tkL)))) (some (Sl.mk false (.lst rs))) (some (Sl.mk false (sp))) (some (Sl.mk false (co))) (some (Sl.mk false (chO w (.tup (srt rs))))) (some (Sl.mk false (.lst (ts.map tkO)))) none none none none none none none) (by simp? only [c1]) ?_
  rintro S rfl
  refine seq_cut (fun S => S = e17 ns (some (Sl.mk false (.lst (l.map .int)))) (some (Sl.mk false (.int (c : Int)))) (some (Sl.mk false (.lst (ts.map tkL)))) (some (Sl.mk false (.lst rs))) (some (Sl.mk false (sp))) (some (Sl.mk false (co))) (some (Sl.mk false (chO w (.tup (srt rs))))) (some (Sl.mk false (.lst (ts.map tkO)))) (some (Sl.mk false (stgD ([(0 : Int)].mergeSort ile) (ts.map fun _ => (-1, 0, 0, 0))))) none none none none none none) (by simp? only [est]) ?_
  rintro S rfl
  refine seq_cut (fun S => S = e17 ns (some (Sl.mk false (.lst (l.map .int)))) (some (Sl.mk false (.int (c : Int)))) (some (Sl.mk false (.lst (ts.map tkL)))) (some (Sl.mk false (.lst rs))) (some (Sl.mk false (sp))) (some (Sl.mk false (co))) (some (Sl.mk false (chO w (.tup (srt rs))))) (some (Sl.mk false (.lst (ts.map tkO)))) (some (Sl.mk false (stgD ([(0 : Int)].mergeSort ile) (ts.map fun _ => (-1, 0, 0, 0))))) (some (Sl.mk false (.lst (l1.map .int)))) none none none none none) (by simp? only [el1]) ?_
  rintro S rfl
  refine seq_cut (fun S => ∃ (m : List Int) (ss : List Sts) (o3 o5 o13 o14 o15 : Option Sl), St3 ts ss ∧ S = e17 ns (some (Sl.mk false (.lst (l.map .int)))) (some (Sl.mk false (.int (c : Int)))) (some (Sl.mk false (.lst (ts.map tkL)))) (some (Sl.mk false (.lst rs))) (some (Sl.mk false (sp))) (some (Sl.mk false (co))) (some (Sl.mk false (chO w (.tup (srt rs))))) (some (Sl.mk false (.lst (ts.map tkO)))) (some (Sl.mk false (stgD m ss))) (some (Sl.mk false (.lst (l1.map .int)))) o3 o5 o13 o14 o15) ?_ ?_
  · refine k_for.mpr (Ok.mono (P := fun ds => ds = (List.range 8).map fun (i : Nat) => D.int (i : Int)) (by simp? only []; exact ⟨⟨by omega, by omega⟩, rngL_0 8⟩) ?_)
    rintro ds rfl
    refine for_typed (fun (i : Nat) => .int (i : Int)) (fun _ S => ∃ (m : List Int) (ss : List Sts) (o3 o5 o13 o14 o15 : Option Sl), St3 ts ss ∧ S = e17 ns (some (Sl.mk false (.lst (l.map .int)))) (some (Sl.mk false (.int (c : Int)))) (some (Sl.mk false (.lst (ts.map tkL)))) (some (Sl.mk false (.lst rs))) (some (Sl.mk false (sp))) (some (Sl.mk false (co))) (some (Sl.mk false (chO w (.tup (srt rs))))) (some (Sl.mk false (.lst (ts.map tkO)))) (some (Sl.mk false (stgD m ss))) (some (Sl.mk false (.lst (l1.map .int)))) o3 o5 o13 o14 o15) (List.range 8) _ ⟨_, _, none, none, none, none, none, st3_none ts, rfl⟩ ?_ ?_
    · rintro done k rest S hrr ⟨m, ss, o3, o5, o13, o14, o15, h, rfl⟩
      have hk : k < 8 := List.mem_range.mp (by rw [hrr]; simp)
      refine Ok.mono (P := fun S1 => S1 = e17 ns (some (Sl.mk false (.lst (l.map .int)))) (some (Sl.mk false (.int (c : Int)))) (some (Sl.mk false (.lst (ts.map tkL)))) (some (Sl.mk false (.lst rs))) (some (Sl.mk false (sp))) (some (Sl.mk false (co))) (some (Sl.mk false (chO w (.tup (srt rs))))) (some (Sl.mk false (.lst (ts.map tkO)))) (some (Sl.mk false (stgD m ss))) (some (Sl.mk false (.lst (l1.map .int)))) o3 (some (Sl.mk false (.int (k : Int)))) o13 o14 o15) (by simp? only []) ?_
      rintro S1 rfl
      refine seq_cut (fun S => S = e17 ns (some (Sl.mk false (.lst (l.map .int)))) (some (Sl.mk false (.int (c : Int)))) (some (Sl.mk false (.lst (ts.map tkL)))) (some (Sl.mk false (.lst rs))) (some (Sl.mk false (sp))) (some (Sl.mk false (co))) (some (Sl.mk false (chO w (.tup (srt rs))))) (some (Sl.mk false (.lst (ts.map tkO)))) (some (Sl.mk false (stgD m ss))) (some (Sl.mk false (.lst (l1.map .int)))) o3 (some (Sl.mk false (.int (k : Int)))) (some (Sl.mk false (.lst (ss.map stD)))) o14 o15) (by simp? only [k_stg1]) ?_
      rintro S rfl
      have eb1 : ∀ i, i < ts.length → d_Choice_blocker [chO w (.tup (srt rs)), .lst (ts.map tkO), .lst (ss.map stD), .int (i : Int)] = _ := fun i hi => p_blocker false false hr h3 ht h hL eA hi
      have eb2 : ∀ i, i < ts.length → d__law_blocker [sp, .tup (ss.map stD), .int (i : Int)] = _ := fun i hi => p_lblocker true hsp hru hr h3 ht h hL eB hi
      have ec1 : d_Choice___call__ [chO w (.tup (srt rs)), .lst (ts.map tkO), .lst (ss.map stD), .str gd] = _ := p_call false false hw hg hr h3 ht h hL eA
      have ec2 : d__law_chosen [sp, .tup (ss.map stD)] = _ := p_lchosen true hsp hru hw hg hr h3 ht h hL eB
      refine seq_cut (fun S => ∃ o3, S = e17 ns (some (Sl.mk false (.lst (l.map .int)))) (some (Sl.mk false (.int (c : Int)))) (some (Sl.mk false (.lst (ts.map tkL)))) (some (Sl.mk false (.lst rs))) (some (Sl.mk false (sp))) (some (Sl.mk false (co))) (some (Sl.mk false (chO w (.tup (srt rs))))) (some (Sl.mk false (.lst (ts.map tkO)))) (some (Sl.mk false (stgD m ss))) (some (Sl.mk false (.lst (l1.map .int)))) o3 (some (Sl.mk false (.int (k : Int)))) (some (Sl.mk false (.lst (ss.map stD)))) o14 o15) ?_ ?_
      · simp? only []
        refine ⟨⟨by omega, by omega⟩, ?_⟩
        rw [rngL_0]
        refine for_typed (fun (i : Nat) => .int (i : Int)) (fun _ S => ∃ o3, S = e17 ns (some (Sl.mk false (.lst (l.map .int)))) (some (Sl.mk false (.int (c : Int)))) (some (Sl.mk false (.lst (ts.map tkL)))) (some (Sl.mk false (.lst rs))) (some (Sl.mk false (sp))) (some (Sl.mk false (co))) (some (Sl.mk false (chO w (.tup (srt rs))))) (some (Sl.mk false (.lst (ts.map tkO)))) (some (Sl.mk false (stgD m ss))) (some (Sl.mk false (.lst (l1.map .int)))) o3 (some (Sl.mk false (.int (k : Int)))) (some (Sl.mk false (.lst (ss.map stD)))) o14 o15) (List.range c) _ ⟨o3, rfl⟩ ?_ ?_
        · rintro done i rest S hr2 ⟨o3, rfl⟩
          have hi : i < ts.length := by rw [hts]; exact List.mem_range.mp (by rw [hr2]; simp)
          simp? only [k_stg1, eb1 i hi, eb2 i hi, p_isnum]
          exact ⟨rfl, _, rfl⟩
        · rintro S ⟨o3, rfl⟩
          exact ⟨rfl, o3, rfl⟩
      rintro S ⟨o3, rfl⟩
      refine pass_if (by simp? only [hsp.g, k_stg1, ec1, ec2, p_isnum]; rfl) ?_
      have dk : dok 60 (.lst (ss.map stD)) = true := by
        simp only [dok]
        exact doks_map stD 59 ss fun s _ => by simp [stD, dok, doks]
      refine pass_if (by simp? only [k_stg1, k_neS dk]) ?_
      by_cases hk7 : k < 7
      · have hb1 := hl1.b (2 * (k : Int))
        have hb2 := hl1.b (2 * (k : Int) + 1)
        obtain ⟨bit, cs, ran, more, hcm, hran, er⟩ := p_any_row (l := m) (a := drw l1 (2 * (k : Int))) (b := drw l1 (2 * (k : Int) + 1)) hsp hdr hru hd hw hg hr h3 ht h hL eB hb1.1 hb1.2 hb2.1 hb2.2
        have ear : d__law_arrived [sp, .tup (ss.map stD), .tup (cs.map .int)] = _ := p_larrived true hsp hdr hd h3 ht h hcm
        have hA := arr_st3 (sh := shB dr) h hcm
        have ecc := p_chosen (sup := supO 1 ([((0 : Int), (1 : Int), (0 : Int))].mergeSort tle) ([(0 : Int)].mergeSort ile)) (pt := ptN ts.length) (wt := wS 1 ts) (l := m) hw hg hr hd h3 ht h hcm hL eA2
        rw [hco] at ecc
        have ecl : d__law_chosen [sp, .tup ((arrS (shB dr) ts ss cs).map stD)] = _ := p_lchosen true hsp hru hw hg hr h3 ht hA hL eB
        obtain ⟨m2, ss2, h2, eaf⟩ := p_lafter (l := m) (bit := bit) (more := more) hsp hst hdr hd hg (by simp) h3 ht h hcm hran
        have k_row1 : ∀ {Q : D → Prop}, Ok (ixA (rowD bit cs ran more) (.int 1)) Q ↔ Q (.tup (cs.map .int)) := ok_ok
        have c7 : decide ((k : Int) < 7) = true := decide_eq_true (by omega)
        have io : co.isObj 6 = true := by rw [← hco]; rfl
        simp? only [c7, at1 (2 * (k : Int)) (by omega) (by omega), at1 (2 * (k : Int) + 1) (by omega) (by omega), er, k_stg1, k_row1, ear, ecc, ecl, p_isnum, eaf, io]
        exact ⟨mul_l (by omega) (by omega), mul_l (by omega) (by omega), m2, ss2, _, _, _, _, _, h2, rfl⟩
      · have c7 : decide ((k : Int) < 7) = false := decide_eq_false (by omega)
        simp? only [c7]
        exact ⟨m, ss, _, _, _, _, _, h, rfl⟩
    · rintro S h
      exact ⟨rfl, h⟩
  · rintro S ⟨m, ss, o3, o5, o13, o14, o15, h, rfl⟩
    simp? only []
end Pf
set_option Elab.async false
set_option linter.all false
set_option maxRecDepth 100000
set_option maxHeartbeats 0
open PySem PySem.W PySem.Calls PyProof.Rows
theorem PySem.Challenge.cw_firstbreach_k07_chosen_job_holds : PySem.Challenge.rw_firstbreach_k07_chosen_job.Holds := by
  w_on; o_law
  refine HandSHeadRun.head_any (r := OpenLaw.row PySem.Challenge.rw_firstbreach_k07_chosen_job) (q := view (OpenLaw.row PySem.Challenge.rw_firstbreach_k07_chosen_job).prog [63]) (H := Pf.hk) (ob := Pf.ob) (M := 20000) (loose := Pf.looseN) (d := HandSHeadRun.topDef (OpenLaw.row PySem.Challenge.rw_firstbreach_k07_chosen_job).prog 63) (kwd := []) Pf.ob_eq
    (by kernel_rfl) (fun s => by kernel_rfl) Pf.run (by kernel_rfl) (by kernel_rfl) (by kernel_rfl) (by rfl) (by first | assumption | decide +kernel) (by decide +kernel) ⟨rfl, rfl, rfl, rfl, rfl, by decide +kernel⟩ ?hw ?hc
  case hw => w_witness2
  case hc =>
    refine M.walk_ofX (l := PySem.Challenge.rw_firstbreach_k07_chosen_job) (n := 63) (k := 8) (x := "_law_script") (den := Pf.d_law) rfl (by decide) (by kernel_rfl) ⟨rfl, by decide, by decide⟩ ?F Pf.pure_law
    intro w mg fa h Y G hmg0
    obtain ⟨K, KX, c⟩ := Y
    have hmg : mg ("law" : PySem.Str) = some (.ref fa) := by
      have e : (HandSHeadRun.topDef (OpenLaw.row PySem.Challenge.rw_firstbreach_k07_chosen_job).prog 63).name = ("law" : PySem.Str) := by kernel_rfl
      rw [← e]
      exact hmg0
    obtain ⟨fd, hb, hF⟩ := Pf.facts (P := (PySem.Challenge.rw_firstbreach_k07_chosen_job).prog) (w := w) KX G hmg c
    exact ⟨K, fd, Pf.clK K, KX, hb, hF⟩
