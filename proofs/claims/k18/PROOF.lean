import PyProof.Rows.All
import HandS.ForMost
import HandS.Flow
import HandS.Deep
import HandS.Evl
import KE.KDictKeyed
import HandS.WordsExc
import HandS.Exc
import HandS.TupAny
import HandS.TupMul
import HandS.TupLe
import HandS.WideBits
import HandS.Zip
import HandS.Defaults
import HandS.IsInst
import HandS.Strs
import KE.SortData
import HandS.Text
import HandS.Style
import HandS.MakeKwOnly
import HandS.MakeKw
import HandS.SetBool
import HandS.TupSets
import KE.GoesEnum
import KE.GoesMore
import HandS.Property
import HandS.Head0
import HandS.Head1
import HandS.Head2
import HandS.HeadEnd
import HandS.HeadHook1
import HandS.HeadHook2
import HandS.EndBits
import HandS.HeadNt
import KE.DataAny
import HandS.Conv
import HandS.More
import HandS.HeadHook3
import PyProof.RulesMatch
import HandS.SetFor
import HandS.SetKeys
import HandS.SortKw
import HandS.Keys
import KE.SortKeyHeap
import HandS.ExcInit
import HandS.ExcCtx
import KE.KExcLine
import KE.KSuper
import HandS.ExcField
import HandS.ExcIs
import HandS.TryOnly
import HandS.HotCalls
import HandS.ClsMeth
import HandS.DictComp
import HandS.Small
import HandS.Sort
import HandS.Iter
import HandS.GenBody
import HandS.GenCall
import HandS.GenList
import HandS.GenYield
import HandS.Star
import PySem.Challenge.RW_firstbreach_k18_shares_of_each_period
set_option Elab.async false
set_option linter.all false
set_option maxRecDepth 100000
set_option maxHeartbeats 4000000
namespace M
open PySem L2
mutual
def nkp : NestedKey → Bool
  | .none => true
  | .num _ => true
  | .text _ => false
  | .tup ks => nkps ks
def nkps : List NestedKey → Bool
  | [] => true
  | k :: ks => nkp k && nkps ks
end
mutual
def hashN : NestedKey → Int
  | .none => reduceHash 0xFCA86420
  | .num i => hashInt i
  | .text _ => 0
  | .tup ks => reduceHash (Builtin.Tuple.tupleHashOf (hashNs ks))
def hashNs : List NestedKey → List Int
  | [] => []
  | k :: ks => hashN k :: hashNs ks
end
mutual
theorem hashN_eq (w : World) : ∀ k : NestedKey, nkp k = true → k.hash w = hashN k
  | .none, _ => rfl
  | .num _, _ => rfl
  | .text _, h => by cases h
  | .tup ks, h => by
    have h : nkps ks = true := h
    show reduceHash (Builtin.Tuple.tupleHashOf (NestedKey.hashes w ks)) = reduceHash (Builtin.Tuple.tupleHashOf (hashNs ks))
    rw [hashNs_eq w ks h]
theorem hashNs_eq (w : World) : ∀ ks : List NestedKey, nkps ks = true → NestedKey.hashes w ks = hashNs ks
  | [], _ => rfl
  | k :: ks, h => by
    have h : (nkp k && nkps ks) = true := h
    rw [Bool.and_eq_true] at h
    show k.hash w :: NestedKey.hashes w ks = hashN k :: hashNs ks
    rw [hashN_eq w k h.1, hashNs_eq w ks h.2]
end
abbrev XV := List (NestedKey × Addr × V)
abbrev XT : XV → List (NestedKey × Addr × Value) → Prop := Paired fun p q => p.1 = q.1 ∧ p.2.1 = q.2.1 ∧ RelV p.2.2 q.2.2
def dnP (a : Addr) (xs : XV) : Heap → Prop := fun h => (a == sysModules) = false ∧ xs.length ≤ sizeLine ∧ ∃ us, XT xs us ∧ ∃ o es ep, h.get? a = some o ∧ o.ExactDict ∧ o.data = .dict es ep ∧ es.toList = us.map (fun x => (⟨hashN x.1, .ref x.2.1, x.2.2⟩ : DictEntry)) ∧ (us.map (·.1)).Nodup
mutual
inductive NkH (K : PySem.W.Frag) (H : Hp) : NestedKey → V → Prop where
  | none : NkH K H .none .non
  | num (i : Int) : NkH K H (.num i) (.int i)
  | tup {ks : List NestedKey} {a : Addr} {xs : List V} : SqT K H a xs → NkHs K H ks xs → NkH K H (.tup ks) (.ref a)
inductive NkHs (K : PySem.W.Frag) (H : Hp) : List NestedKey → List V → Prop where
  | nil : NkHs K H [] []
  | cons {k : NestedKey} {v : V} {ks : List NestedKey} {vs : List V} : NkH K H k v → NkHs K H ks vs → NkHs K H (k :: ks) (v :: vs)
end
def XKey (K : PySem.W.Frag) (H : Hp) (xs : XV) : Prop := ∀ x ∈ xs, NkH K H x.1 (.ref x.2.1) ∧ nkp x.1 = true ∧ x.1.depth ≤ 8
section
variable {X : Cx} {pins : List (Addr × Obj)} {σ : St} {H : Hp} {s : Shared} {a : Addr} {y v : V} {u r : Value} {A : Around} {E : Value → Shared → Prop}
mutual
theorem nk_is (I : Inv X pins σ H s) : ∀ {k : NestedKey} {v : V} {u : Value}, NkH X.K H k v → RelV v u → NestedIs s.heap k u
  | _, _, u, .none, ru => by
    have : u = .none := ru
    subst this; exact .none
  | _, _, u, .num i, ru => by
    obtain ⟨t, rfl⟩ := (show ∃ t, u = .int i t from ru)
    exact .int i t
  | _, _, u, .tup (a := a) ht hk, ru => by
    have : u = .ref a := ru
    subst this
    obtain ⟨its, rv, ⟨o, h1, h2, n, h3⟩, _⟩ := I.tuple ht
    exact .tup h1 h2 h3 (by rw [List.toList_toArray]; exact nks_is I hk rv)
theorem nks_is (I : Inv X pins σ H s) : ∀ {ks : List NestedKey} {vs : List V} {us : List Value}, NkHs X.K H ks vs → Vals vs us → NestedAll s.heap ks us
  | _, _, _, .nil, .nil => .nil
  | _, _, _, .cons a b, .cons r t => .cons (nk_is I a r) (nks_is I b t)
end
theorem dn_raw (I : Inv X pins σ H s) {xs : XV} {l : Addr} (e : H l = some (.ext (dnP a xs))) : dnP a xs s.heap := (show ObjOk X.prog X.w H s.heap l (.ext (dnP a xs)) from I.hok l _ e).1
theorem dn_of (I : Inv X pins σ H s) {xs : XV} {l : Addr} (e : H l = some (.ext (dnP a xs))) (kk : XKey X.K H xs) : (a == sysModules) = false ∧ xs.length ≤ sizeLine ∧ ∃ us, XT xs us ∧ s.heap.DictOfH (nestedKind X.prog X.w) a us := by
  obtain ⟨h0, h1, us, rel, o, es, ep, h2, h3, h4, h5, h6⟩ := dn_raw I e
  have all : ∀ {l : XV} {m : List (NestedKey × Addr × Value)}, XT l m → XKey X.K H l → (∀ x ∈ m, (nestedKind X.prog X.w).is s.heap x.1 x.2.1) ∧ m.map (fun x => (⟨hashN x.1, .ref x.2.1, x.2.2⟩ : DictEntry)) = m.map (entryOfKey (nestedKind X.prog X.w)) := by
    intro l m q
    induction q with
    | nil => intro _; exact ⟨fun x hx => (nomatch hx), rfl⟩
    | @cons p q ps qs hq t ih =>
      intro kk
      obtain ⟨i1, i2⟩ := ih fun x hx => kk x (List.mem_cons_of_mem _ hx)
      obtain ⟨k1, k2, k3⟩ := kk p (List.mem_cons_self ..)
      obtain ⟨e1, e2, _⟩ := hq
      rw [e1] at k1 k2 k3
      rw [e2] at k1
      have is1 := nk_is I k1 (show RelV (.ref q.2.1) (.ref q.2.1) from rfl)
      refine ⟨fun x hx => ?_, ?_⟩
      · rcases List.mem_cons.mp hx with e | hx
        · subst e; exact ⟨is1, k3⟩
        · exact i1 x hx
      · rw [List.map_cons, List.map_cons, i2]
        congr 1
        show (⟨hashN q.1, .ref q.2.1, q.2.2⟩ : DictEntry) = ⟨q.1.hash X.w, .ref q.2.1, q.2.2⟩
        rw [hashN_eq X.w q.1 k2]
  obtain ⟨i1, i2⟩ := all rel kk
  exact ⟨h0, h1, us, rel, o, es, ep, h2, h3, h4, h5.trans i2, i1, h6⟩
def isK (xs : XV) (k : NestedKey) : Bool := xs.any fun x => decide (x.1 = k)
theorem XT.has {xs : XV} {us : List (NestedKey × Addr × Value)} (r : XT xs us) (k : NestedKey) : (atKey us k).isSome = isK xs k := by
  induction r with
  | nil => rfl
  | @cons p q ps qs h t ih =>
    unfold isK at ih ⊢
    rw [List.any_cons, ← ih]
    by_cases e : p.1 = k
    · have b : atKey (q :: qs) k = some q.2 := by simp [atKey, List.find?_cons, h.1.symm.trans e]
      rw [b, decide_eq_true e]; rfl
    · have b : atKey (q :: qs) k = atKey qs k := by
        have e' : ¬ q.1 = k := fun z => e (h.1.trans z)
        simp [atKey, List.find?_cons, e']
      rw [b, decide_eq_false e]; rfl
def putX (xs : XV) (k : NestedKey) (b : Addr) (v : V) : XV := if isK xs k then xs.map (fun x => if x.1 = k then (x.1, x.2.1, v) else x) else xs ++ [(k, b, v)]
theorem XT.repl {xs : XV} {us : List (NestedKey × Addr × Value)} (r : XT xs us) (k : NestedKey) {y : V} {u : Value} (ry : RelV y u) : XT (xs.map fun x => if x.1 = k then (x.1, x.2.1, y) else x) (us.map (putAt k u)) := by
  induction r with
  | nil => exact .nil
  | @cons p q ps qs h t ih =>
    rw [List.map_cons, List.map_cons]
    refine .cons ?_ ih
    obtain ⟨h1, h2, h3⟩ := h
    unfold putAt
    by_cases e : p.1 = k
    · rw [if_pos e, if_pos (h1.symm.trans e)]; exact ⟨h1, h2, ry⟩
    · rw [if_neg e, if_neg (fun z => e (h1.trans z))]; exact ⟨h1, h2, h3⟩
theorem XT.put {xs : XV} {us : List (NestedKey × Addr × Value)} (r : XT xs us) (k : NestedKey) {b : Addr} {y : V} {u : Value} (ry : RelV y u) : XT (putX xs k b y) (storedH us k b u) := by
  unfold putX storedH
  rw [r.has k]
  by_cases q : isK xs k = true
  · rw [if_pos q, if_pos q]; exact r.repl k ry
  · rw [if_neg q, if_neg q]; exact Paired.snoc r ⟨rfl, rfl, ry⟩
theorem putX_len (xs : XV) (k : NestedKey) (b : Addr) (v : V) : (putX xs k b v).length ≤ xs.length + 1 := by
  unfold putX
  split
  · rw [List.length_map]; omega
  · rw [List.length_append]; exact Nat.le_refl _
end
end M
set_option Elab.async false
set_option linter.all false
set_option maxRecDepth 100000
set_option maxHeartbeats 4000000
namespace M
open PySem L2
section
variable {X : Cx} {pins : List (Addr × Obj)} {σ : St} {H : Hp} {s : Shared} {a : Addr} {y v : V} {u r : Value} {A : Around} {E : Value → Shared → Prop}
def dnO (a : Addr) (xs : XV) : HO := .ext (dnP a xs)
def KeyAt (K : PySem.W.Frag) (H : Hp) (k : NestedKey) (y : V) : Prop := ∃ b, y = .ref b ∧ NkH K H k (.ref b) ∧ nkp k = true ∧ k.depth ≤ 8
def valX (xs : XV) (k : NestedKey) : Option V := (xs.find? fun x => decide (x.1 = k)).map fun x => x.2.2
theorem XT.val {xs : XV} {us : List (NestedKey × Addr × Value)} (r : XT xs us) (k : NestedKey) : RelO (valX xs k) ((atKey us k).map (·.2)) := by
  induction r with
  | nil => exact True.intro
  | @cons p q ps qs h t ih =>
    obtain ⟨h1, _, h2⟩ := h
    by_cases e : p.1 = k
    · have e' : q.1 = k := h1.symm.trans e
      have b : atKey (q :: qs) k = some q.2 := by simp [atKey, List.find?_cons, e']
      have b2 : valX (p :: ps) k = some p.2.2 := by simp [valX, List.find?_cons, e]
      rw [b2, b]; exact h2
    · have e' : ¬ q.1 = k := fun z => e (h1.trans z)
      have b : atKey (q :: qs) k = atKey qs k := by simp [atKey, List.find?_cons, e']
      have b2 : valX (p :: ps) k = valX ps k := by simp [valX, List.find?_cons, e]
      rw [b2, b]; exact ih
theorem d_notInN {xs : XV} {k : NestedKey} {Q : Value → Shared → Prop} (hu : A.units + 10 < cLine) (I : Inv X pins σ H s) (e : H a = some (dnO a xs)) (kk : XKey X.K H xs) (ky : KeyAt X.K H k y) (ry : RelV y u) (h : ∀ s', Inv X pins σ H s' → Q (.bool (!isK xs k)) s') :
    wpAny (model X.prog X.w) A (compareOp .NotIn u (.ref a)) Q E s := by
  obtain ⟨b, rfl, hk, hp, hd⟩ := ky
  cases (show u = Value.ref b from ry)
  obtain ⟨h0, _, us, rel, dd⟩ := dn_of I e kk
  have hroom : (nestedKind X.prog X.w).room A.in1 := show A.units + 1 + 8 < cLine by omega
  have hkey : (nestedKind X.prog X.w).is s.heap k b := ⟨nk_is I hk rfl, hd⟩
  refine PyProof.Rows.wpAny_notIn_heap hroom hkey h0 dd ?_
  rw [rel.has k]
  exact h _ (I.tok _)
theorem d_getItemN {xs : XV} {k : NestedKey} {Q : Value → Shared → Prop} (hu : A.units + 10 < cLine) (I : Inv X pins σ H s) (e : H a = some (dnO a xs)) (kk : XKey X.K H xs) (ky : KeyAt X.K H k y) (hv : valX xs k = some v) (ry : RelV y u) (h : ∀ w' s', Inv X pins σ H s' → RelV v w' → Q w' s') :
    wpAny (model X.prog X.w) A (getItem (.ref a) u) Q E s := by
  obtain ⟨b, rfl, hk, hp, hd⟩ := ky
  cases (show u = Value.ref b from ry)
  obtain ⟨h0, _, us, rel, dd⟩ := dn_of I e kk
  obtain ⟨w', hw, rw'⟩ := RelO.some_of (v := v) (o := (atKey us k).map (·.2)) (by rw [← hv]; exact rel.val k)
  obtain ⟨p, hp, hp2⟩ := Option.map_eq_some_iff.mp hw
  have hroom : (nestedKind X.prog X.w).room A.in1 := show A.units + 1 + 8 < cLine by omega
  have hkey : (nestedKind X.prog X.w).is s.heap k b := ⟨nk_is I hk rfl, hd⟩
  refine wpAny_getItem_heap hroom hkey dd hp ?_
  rw [hp2]
  exact h w' _ (I.tok _) rw'
theorem ext_ok {P : Program} {w : World} {h : Heap} {xs : XV} (p : dnP a xs h) : ObjOk P w H h a (dnO a xs) := by
  refine ⟨p, ?_, ?_⟩
  · obtain ⟨_, _, _, _, o, _, _, h2, _⟩ := p
    exact ⟨o, h2⟩
  · rintro h1 h2 ⟨a0, a1, us, a2, o, es, ep, a3, a4⟩ hk
    exact ⟨a0, a1, us, a2, o, es, ep, hk _ a3, a4⟩
theorem d_setItemN {xs : XV} {k : NestedKey} {b : Addr} {Q : Unit → Shared → Prop} (hu : A.units + 10 < cLine) (I : Inv X pins σ H s) (e : H a = some (dnO a xs)) (kk : XKey X.K H xs) (hk : NkH X.K H k (.ref b)) (hp : nkp k = true) (hd : k.depth ≤ 8) (hl : xs.length < sizeLine) (rv : RelV v r)
    (h : ∀ s', Inv X pins σ (upd H a (dnO a (putX xs k b v))) s' → Q () s') : wpAny (model X.prog X.w) A (setItem (.ref a) (.ref b) r) Q E s := by
  obtain ⟨h0, z, us, rel, dd⟩ := dn_of I e kk
  have hz : us.length ≤ sizeLine := by rw [← Paired.length rel]; exact z
  have hl2 : (putX xs k b v).length ≤ sizeLine := by have := putX_len xs k b v; omega
  have hroom : (nestedKind X.prog X.w).room A.in1 := show A.units + 1 + 8 < cLine by omega
  have hkey : (nestedKind X.prog X.w).is s.heap k b := ⟨nk_is I hk rfl, hd⟩
  refine wpAny_setItem_heap (hsz := hz) hroom hkey dd fun h' dd' hs => h _ ?_
  obtain ⟨q, es, ep, hq, h2, h3, h4, _, h5⟩ := dd'
  have r2 := rel.put k (b := b) rv
  have pure_ : ∀ x ∈ storedH us k b r, nkp x.1 = true := by
    have all : ∀ {l : XV} {m : List (NestedKey × Addr × Value)}, XT l m → (∀ x ∈ l, nkp x.1 = true) → ∀ x ∈ m, nkp x.1 = true := by
      intro l m q
      induction q with
      | nil => intro _ x hx; exact nomatch hx
      | @cons p q ps qs hq t ih =>
        intro hx x hm
        rcases List.mem_cons.mp hm with e | hm
        · subst e; rw [← hq.1]; exact hx p (List.mem_cons_self ..)
        · exact ih (fun y hy => hx y (List.mem_cons_of_mem _ hy)) x hm
    refine all r2 fun x hx => ?_
    unfold putX at hx
    split at hx
    · obtain ⟨y, hy, rfl⟩ := List.mem_map.mp hx
      have := (kk y hy).2.1
      split <;> exact this
    · rcases List.mem_append.mp hx with hx | hx
      · exact (kk x hx).2.1
      · rw [List.mem_singleton.mp hx]; exact hp
  refine d_write I (by rw [e]; exact True.intro) hs ⟨q, hq⟩ (ext_ok ⟨h0, hl2, _, r2, q, es, ep, hq, h2, h3, ?_, h5⟩)
  rw [h4]
  refine List.map_congr_left fun x hx => ?_
  show (⟨x.1.hash X.w, .ref x.2.1, x.2.2⟩ : DictEntry) = ⟨hashN x.1, .ref x.2.1, x.2.2⟩
  rw [hashN_eq X.w x.1 (pure_ x hx)]
theorem dn_addr (I : Inv X pins σ H s) {xs : XV} {l : Addr} (e : H l = some (dnO a xs)) : a = l := by
  obtain ⟨p, _, st⟩ := (show ObjOk X.prog X.w H s.heap l (dnO a xs) from I.hok l _ e)
  refine Classical.byContradiction fun hne => ?_
  have sb := Heap.SameBut.update s.heap a fun _ => { cls := .none, data := .fields #[] }
  obtain ⟨_, _, _, _, o, es, ep, h2, _, h3, _⟩ := st _ (s.heap.update a fun _ => { cls := .none, data := .fields #[] }) p fun o ho => (sb.2 l (fun z => hne z.symm)).trans ho
  obtain ⟨_, _, _, _, o1, _, _, h4, _⟩ := p
  rw [Heap.get?_update_self _ h4 rfl] at h2
  cases h2
  cases h3
end
def tDNewN : TE := fun _ H Q => ∀ p, H p = none → Q (.ref p) (upd H p (dnO p []))
def sNPut (X : Cx) (td ty tv : TE) : TS := fun D σ H => tv σ H fun v H1 => td σ H1 fun x H2 => ty σ H2 fun y H3 => ∃ l a xs k b, x = .ref l ∧ H3 l = some (dnO a xs) ∧ XKey X.K H3 xs ∧ y = .ref b ∧ NkH X.K H3 k (.ref b) ∧ nkp k = true ∧ k.depth ≤ 8 ∧ xs.length < sizeLine ∧ D.nx σ (upd H3 l (dnO l (putX xs k b v)))
section
variable {X : Cx} {o i e value : Expr} {pos pos' tpos : Pos} {td ty tv : TE}
theorem pe_dnewN : PE X (.Dict [] [] pos) tDNewN := ⟨fun pins s σ H Q I h =>
  wpAny_Dict_empty ⟨.ref s.heap.objs.size, _, I.laid (a := s.heap.objs.size) (o := dnO s.heap.objs.size []) (t' := s.toks) (fun _ _ q => Heap.get?_push_of_some _ q) (Nat.le_refl _)
    (ext_ok ⟨beq_eq_false_iff_ne.mpr (Ne.symm (Nat.ne_of_lt I.big)), Nat.zero_le _, [], .nil, _, #[], 0, Heap.get?_push_size _ rfl, ⟨rfl, rfl, rfl⟩, rfl, rfl, List.nodup_nil⟩), rfl, h _ (I.hok.fresh (Nat.le_refl _))⟩⟩
theorem ps_nput (hu : X.A.units + 10 < cLine) (ho : PE X o td) (hi : PE X i ty) (hv : PE X value tv) (hs : swapsWith value (some (.Subscript o i pos')) pos.line X.env = pure false) :
    PS X (.Assign [.Subscript o i pos'] value pos) (sNPut X td ty tv) := by
  refine ⟨fun pins s σ H D I h => ?_⟩
  refine wpAny_Assign_Subscript (thn (hv.run pins s σ H _ I h) fun r s1 ⟨v, H1, I1, rv, q1⟩ => thn (ho.run pins s1 σ H1 _ I1 q1) fun u s2 ⟨x, H2, I2, rx, q2⟩ => thn (hi.run pins s2 σ H2 _ I2 q2) fun iv s3 ⟨y, H3, I3, ry, l, a, xs, k, b, ex, e, kk, ey, hk, hp, hd, hl, q3⟩ => ?_) hs
  obtain rfl := dn_addr I3 e
  subst ex ey
  obtain rfl : u = Value.ref a := rx
  obtain rfl : iv = Value.ref b := ry
  exact d_setItemN hu I3 e kk hk hp hd hl rv fun s4 I4 => ⟨σ, _, I4, q3⟩
theorem op_nNotIn (hu : X.A.units + 10 < cLine) : OpR X (compareOp .NotIn) (fun y x H Q => ∃ l a xs k, x = .ref l ∧ H l = some (dnO a xs) ∧ XKey X.K H xs ∧ KeyAt X.K H k y ∧ Q (.bl (!isK xs k)) H) := by
  intro pins s σ H y x u v Q I ry rx h
  obtain ⟨l, a, xs, k, rfl, e, kk, ky, q⟩ := h
  obtain rfl := dn_addr I e
  cases (show v = Value.ref a from rx)
  exact d_notInN hu I e kk ky ry fun s3 I3 => ⟨.bl (!isK xs k), H, I3, rfl, q⟩
end
end M
set_option Elab.async false
set_option linter.all false
set_option maxRecDepth 100000
set_option maxHeartbeats 4000000
namespace M
open PySem L2
inductive D where
  | non | bl (b : Bool) | int (i : Int) | str (x : Str) | ty (n : String)
  | tup (xs : List D) | lst (xs : List D) | dic (ks : List Key) (vs : List D) | dit (ks : List (List Key)) (vs : List D)
  | obj (c : Nat) (fs : List D) | scr (ns : List Int) | cls (c : Nat)
  | dkf (ks : List Key) (vs : List D) | dig (ks : List NestedKey) (vs : List D)
  deriving Inhabited
structure Exc where
  c : Nat
  fs : List D
inductive R (α : Type) where
  | ok (a : α) | exc (x : Exc) | fail
def R.bind {α β : Type} (r : R α) (f : α → R β) : R β := match r with
  | .ok a => f a
  | .exc x => .exc x
  | .fail => .fail
instance : Monad R where
  pure := .ok
  bind := R.bind
@[simp] theorem R.pure_eq {α : Type} (a : α) : (pure a : R α) = .ok a := rfl
@[simp] theorem R.ok_bind {α β : Type} (a : α) (f : α → R β) : (R.ok a >>= f) = f a := rfl
@[simp] theorem R.exc_bind {α β : Type} (x : Exc) (f : α → R β) : (R.exc x >>= f) = .exc x := rfl
@[simp] theorem R.fail_bind {α β : Type} (f : α → R β) : (R.fail >>= f) = .fail := rfl
def R.nox {α : Type} : R α → R α
  | .exc _ => .fail
  | r => r
@[simp] theorem R.nox_ok {α : Type} (a : α) : (R.ok a).nox = .ok a := rfl
@[simp] theorem R.nox_fail {α : Type} : (R.fail : R α).nox = .fail := rfl
def R.need (b : Bool) : R Unit := if b then .ok () else .fail
@[simp] theorem R.need_true : R.need true = .ok () := rfl
structure Sl where
  own : Bool
  d : D
abbrev Env := List (Option Sl)
abbrev FE := Env → R D
abbrev FT := Env → R Bool
abbrev FA := Env → R (List D)
inductive Fl where
  | nx | bk | ct | rt (d : D)
abbrev FS := Env → R (Fl × Env)
abbrev FG := D → Env → R Env
inductive Kd where
  | st | bo | fr
def Ex (H H' : Hp) : Prop := ∀ a o, H a = some o → H' a = some o
theorem Ex.refl (H : Hp) : Ex H H := fun _ _ h => h
theorem Ex.trans {H H1 H2 : Hp} (a : Ex H H1) (b : Ex H1 H2) : Ex H H2 := fun x o h => b x o (a x o h)
theorem Ex.new {H : Hp} {p : Addr} {o : HO} (h : H p = none) : Ex H (upd H p o) := fun a u e => by
  rw [upd_ne (ne_of_none e h)]; exact e
theorem Ex.upd {H H' : Hp} {p : Addr} {o : HO} (e : Ex H H') (h : H p = none) : Ex H (upd H' p o) := fun a u q => by
  rw [upd_ne (ne_of_none q h)]; exact e a u q
theorem Ex.upd2 {H H' : Hp} {p : Addr} {o : HO} (e : Ex H H') (h : H' p = some o) : Ex (L2.upd H p o) H' := fun a u q => by
  by_cases ha : a = p
  · subst ha; rw [upd_same] at q; cases q; exact h
  · rw [upd_ne ha] at q; exact e a u q
theorem Ex.free {H H' : Hp} (e : Ex H H') {l : Addr} (h : H' l = none) : H l = none := by
  cases q : H l with
  | none => rfl
  | some o => rw [e l o q] at h; cases h
theorem Ex.sqL {K : PySem.W.Frag} {H H' : Hp} {a : Addr} {xs : List V} (e : Ex H H') (h : SqL K H a xs) : SqL K H' a xs := by
  rcases h with (h | ⟨o, h⟩) | h
  · exact .inl (.inl (e _ _ h))
  · exact .inl (.inr ⟨o, e _ _ h⟩)
  · exact .inr h
theorem Ex.sqT {K : PySem.W.Frag} {H H' : Hp} {a : Addr} {xs : List V} (e : Ex H H') (h : SqT K H a xs) : SqT K H' a xs := by
  rcases h with (h | ⟨o, h⟩) | h
  · exact .inl (.inl (e _ _ h))
  · exact .inl (.inr ⟨o, e _ _ h⟩)
  · exact .inr h
def okC (xs : List V) : Bool := decide (xs.length < 2) || (decide (3 < xs.length) || xs.all fun x => match x with | .str _ => true | _ => false)
def SqU (K : PySem.W.Frag) (H : Hp) (a : Addr) (xs : List V) : Prop := H a = some (.tup xs) ∨ ∃ (o : Obj) (its : Array Value) (n : Nat), K.lookup a = some o ∧ o.cls = .type "tuple" ∧ o.data = .seq its n ∧ its.size ≤ sizeLine ∧ Vals xs its.toList ∧ okC xs = true
theorem SqU.t {K : PySem.W.Frag} {H : Hp} {a : Addr} {xs : List V} (h : SqU K H a xs) : SqT K H a xs := by
  rcases h with h | ⟨o, its, n, h1, h2, h3, h4, h5, _⟩
  · exact SqT.of h
  · exact .inr ⟨o, its, n, h1, h2, h3, h4, h5⟩
theorem SqU.of {K : PySem.W.Frag} {H : Hp} {a : Addr} {xs : List V} (h : H a = some (.tup xs)) : SqU K H a xs := .inl h
theorem Ex.sqU {K : PySem.W.Frag} {H H' : Hp} {a : Addr} {xs : List V} (e : Ex H H') (h : SqU K H a xs) : SqU K H' a xs := by
  rcases h with h | h
  · exact .inl (e _ _ h)
  · exact .inr h
structure Step (G H G' H' : Hp) : Prop where
  g : Ex G G'
  h : Ex H H'
  gh : Ex G' H'
  gr : ∀ b o, G' b = some o → G b = some o ∨ H b = none
theorem Step.refl {G H : Hp} (e : Ex G H) : Step G H G H := ⟨Ex.refl _, Ex.refl _, e, fun _ _ h => .inl h⟩
theorem Step.trans {G H G1 H1 G2 H2 : Hp} (a : Step G H G1 H1) (b : Step G1 H1 G2 H2) : Step G H G2 H2 :=
  ⟨a.g.trans b.g, a.h.trans b.h, b.gh, fun x o q => by
    rcases b.gr x o q with q | q
    · exact a.gr x o q
    · exact .inr (a.h.free q)⟩
theorem Step.new {G H : Hp} {p : Addr} {o : HO} (e : Ex G H) (h : H p = none) : Step G H (upd G p o) (upd H p o) :=
  ⟨Ex.new (e.free h), Ex.new h, fun a u q => by
    by_cases ha : a = p
    · subst ha; rw [upd_same] at q ⊢; exact q
    · rw [upd_ne ha] at q ⊢; exact e a u q, fun b u q => by
    by_cases hb : b = p
    · subst hb; exact .inr h
    · rw [upd_ne hb] at q; exact .inl q⟩
theorem Step.new' {G H : Hp} {p : Addr} {o : HO} (e : Ex G H) (h : H p = none) : Step G H G (upd H p o) :=
  ⟨Ex.refl _, Ex.new h, e.upd (e.free h), fun _ _ q => .inl q⟩
theorem Step.frz {G0 H0 G H : Hp} {p : Addr} {o : HO} (s : Step G0 H0 G H) (h : H p = some o) (h0 : H0 p = none) (hg : G p = none) : Step G0 H0 (upd G p o) H :=
  ⟨s.g.trans (Ex.new hg), s.h, s.gh.upd2 h, fun b u q => by
    by_cases hb : b = p
    · subst hb; exact .inr h0
    · rw [upd_ne hb] at q; exact s.gr b u q⟩
mutual
theorem NkH.mono {K : PySem.W.Frag} {H H' : Hp} (e : Ex H H') : ∀ {k : NestedKey} {v : V}, NkH K H k v → NkH K H' k v
  | _, _, .none => .none
  | _, _, .num i => .num i
  | _, _, .tup h r => .tup (e.sqT h) (NkHs.mono e r)
theorem NkHs.mono {K : PySem.W.Frag} {H H' : Hp} (e : Ex H H') : ∀ {ks : List NestedKey} {vs : List V}, NkHs K H ks vs → NkHs K H' ks vs
  | _, _, .nil => .nil
  | _, _, .cons a b => .cons (NkH.mono e a) (NkHs.mono e b)
end
theorem XKey.mono {K : PySem.W.Frag} {H H' : Hp} {xs : XV} (h : XKey K H xs) (e : Ex H H') : XKey K H' xs := fun x hx => ⟨(h x hx).1.mono e, (h x hx).2⟩
structure Kn where
  K : PySem.W.Frag
  cl : Nat → Option (Addr × List Str)
mutual
inductive RD (k : Kn) (G : Hp) : D → V → Prop where
  | non : RD k G .non .non
  | bl (b : Bool) : RD k G (.bl b) (.bl b)
  | int (i : Int) : RD k G (.int i) (.int i)
  | str (x : Str) : RD k G (.str x) (.str x)
  | ty (n : String) : RD k G (.ty n) (.ty n)
  | tup {ds : List D} {a : Addr} {vs : List V} : SqU k.K G a vs → RDs k G ds vs → RD k G (.tup ds) (.ref a)
  | lst {ds : List D} {a : Addr} {vs : List V} : G a = some (.lst vs) → RDs k G ds vs → RD k G (.lst ds) (.ref a)
  | cls {c : Nat} {C : Addr} {nm : List Str} : k.cl c = some (C, nm) → RD k G (.cls c) (.ref C)
  | scr {ns : List Int} {a : Addr} : SqL k.K G a (ns.map V.int) → RD k G (.scr ns) (.ref a)
  | dic {ks : List Key} {ds : List D} {a : Addr} {vs : List V} : G a = some (.dK (ks.zip vs)) → ks.length = ds.length → RDs k G ds vs → RD k G (.dic ks ds) (.ref a)
  | dit {ks : List (List Key)} {ds : List D} {a : Addr} {vs : List V} : G a = some (.dT (ks.zip vs)) → ks.length = ds.length → RDs k G ds vs → RD k G (.dit ks ds) (.ref a)
  | dig {ks : List NestedKey} {ds : List D} {a l : Addr} {xs : XV} : G l = some (dnO a xs) → xs.map (fun x => x.1) = ks → XKey k.K G xs → RDs k G ds (xs.map fun x => x.2.2) → RD k G (.dig ks ds) (.ref l)
  | dkf {ks : List Key} {ds : List D} {a : Addr} {o : Obj} {vs : List V} : G a = some (.frz o (.dK (ks.zip vs))) → ks.length = ds.length → RDs k G ds vs → RD k G (.dkf ks ds) (.ref a)
  | obj {c : Nat} {ds : List D} {a C dx : Addr} {nm : List Str} {vs : List V} : k.cl c = some (C, nm) → G a = some (.ins C dx (nm.zip vs)) → RDs k G ds vs → RD k G (.obj c ds) (.ref a)
inductive RDs (k : Kn) (G : Hp) : List D → List V → Prop where
  | nil : RDs k G [] []
  | cons {d : D} {ds : List D} {v : V} {vs : List V} : RD k G d v → RDs k G ds vs → RDs k G (d :: ds) (v :: vs)
end
mutual
theorem RD.mono {k : Kn} {G G' : Hp} (e : Ex G G') : ∀ {d : D} {v : V}, RD k G d v → RD k G' d v
  | _, _, .non => .non
  | _, _, .bl b => .bl b
  | _, _, .int i => .int i
  | _, _, .str x => .str x
  | _, _, .ty n => .ty n
  | _, _, .tup h r => .tup (e.sqU h) (RDs.mono e r)
  | _, _, .lst h r => .lst (e _ _ h) (RDs.mono e r)
  | _, _, .scr h => .scr (e.sqL h)
  | _, _, .cls h => .cls h
  | _, _, .dic h l r => .dic (e _ _ h) l (RDs.mono e r)
  | _, _, .dit h l r => .dit (e _ _ h) l (RDs.mono e r)
  | _, _, .dkf h l r => .dkf (e _ _ h) l (RDs.mono e r)
  | _, _, .dig h l kk r => .dig (e _ _ h) l (kk.mono e) (RDs.mono e r)
  | _, _, .obj c h r => .obj c (e _ _ h) (RDs.mono e r)
theorem RDs.mono {k : Kn} {G G' : Hp} (e : Ex G G') : ∀ {ds : List D} {vs : List V}, RDs k G ds vs → RDs k G' ds vs
  | _, _, .nil => .nil
  | _, _, .cons a b => .cons (RD.mono e a) (RDs.mono e b)
end
section
variable {k : Kn} {G H : Hp}
theorem RDs.length : ∀ {ds : List D} {vs : List V}, RDs k G ds vs → ds.length = vs.length
  | _, _, .nil => rfl
  | _, _, .cons _ b => by simp [RDs.length b]
theorem RDs.append : ∀ {ds es : List D} {vs us : List V}, RDs k G ds vs → RDs k G es us → RDs k G (ds ++ es) (vs ++ us)
  | _, _, _, _, .nil, s => s
  | _, _, _, _, .cons a b, s => .cons a (RDs.append b s)
theorem RDs.get : ∀ {ds : List D} {vs : List V} {i : Nat} {d : D}, RDs k G ds vs → ds[i]? = some d → ∃ v, vs[i]? = some v ∧ RD k G d v
  | _, _, _, _, .nil, h => by simp at h
  | _, _, 0, _, .cons a _, h => by simp at h; subst h; exact ⟨_, rfl, a⟩
  | _, _, i + 1, d, .cons _ b, h => by
    obtain ⟨v, h1, h2⟩ := RDs.get (i := i) (d := d) b (by simpa using h)
    exact ⟨v, by simpa using h1, h2⟩
theorem RDs.take : ∀ {ds : List D} {vs : List V} (n : Nat), RDs k G ds vs → RDs k G (ds.take n) (vs.take n)
  | _, _, 0, _ => by simpa using .nil
  | _, _, _ + 1, .nil => .nil
  | _, _, n + 1, .cons r t => .cons r (RDs.take n t)
theorem RDs.drop : ∀ {ds : List D} {vs : List V} (n : Nat), RDs k G ds vs → RDs k G (ds.drop n) (vs.drop n)
  | _, _, 0, r => r
  | _, _, _ + 1, .nil => .nil
  | _, _, n + 1, .cons _ t => RDs.drop n t
theorem RDs.reverse : ∀ {ds : List D} {vs : List V}, RDs k G ds vs → RDs k G ds.reverse vs.reverse
  | _, _, .nil => .nil
  | _, _, .cons a b => by rw [List.reverse_cons, List.reverse_cons]; exact RDs.append (RDs.reverse b) (.cons a .nil)
theorem RDs.set : ∀ {ds : List D} {vs : List V} (i : Nat) {d : D} {v : V}, RDs k G ds vs → RD k G d v → RDs k G (ds.set i d) (vs.set i v)
  | _, _, _, _, _, .nil, _ => .nil
  | _, _, 0, _, _, .cons _ t, r => .cons r t
  | _, _, i + 1, _, _, .cons q t, r => .cons q (RDs.set i t r)
theorem RDs.ints : ∀ (ns : List Int), RDs k G (ns.map D.int) (ns.map V.int)
  | [] => .nil
  | n :: ns => .cons (.int n) (RDs.ints ns)
end
inductive Cont (k : Kn) (G : Hp) : D → HO → Prop where
  | lst {ds : List D} {vs : List V} : RDs k G ds vs → Cont k G (.lst ds) (.lst vs)
  | dic {ks : List Key} {ds : List D} {vs : List V} : ks.length = ds.length → RDs k G ds vs → Cont k G (.dic ks ds) (.dK (ks.zip vs))
  | dit {ks : List (List Key)} {ds : List D} {vs : List V} : ks.length = ds.length → RDs k G ds vs → Cont k G (.dit ks ds) (.dT (ks.zip vs))
  | dig {ks : List NestedKey} {ds : List D} {a : Addr} {xs : XV} : xs.map (fun x => x.1) = ks → XKey k.K G xs → RDs k G ds (xs.map fun x => x.2.2) → Cont k G (.dig ks ds) (dnO a xs)
  | obj {c : Nat} {ds : List D} {C dx : Addr} {nm : List Str} {vs : List V} : k.cl c = some (C, nm) → RDs k G ds vs → Cont k G (.obj c ds) (.ins C dx (nm.zip vs))
theorem Cont.mono {k : Kn} {G G' : Hp} (e : Ex G G') {d : D} {o : HO} (c : Cont k G d o) : Cont k G' d o := by
  cases c with
  | lst r => exact .lst (r.mono e)
  | dic l r => exact .dic l (r.mono e)
  | dit l r => exact .dit l (r.mono e)
  | dig l kk r => exact .dig l (kk.mono e) (r.mono e)
  | obj h r => exact .obj h (r.mono e)
theorem Cont.rd {k : Kn} {G : Hp} {d : D} {o : HO} {a : Addr} (c : Cont k G d o) (h : G a = some o) : RD k G d (.ref a) := by
  cases c with
  | lst r => exact .lst h r
  | dic l r => exact .dic h l r
  | dit l r => exact .dit h l r
  | dig l kk r => exact .dig h l kk r
  | obj q r => exact .obj q h r
structure Cf where
  k : Kn
  H0 : Hp
  G0 : Hp
  W : WX
def OwnAt (S : Env) (σ : St) (i : Nat) (a : Addr) : Prop := (∃ d, S[i]? = some (some ⟨true, d⟩)) ∧ σ[i]? = some (some (.ref a))
structure Rel (c : Cf) (G : Hp) (S : Env) (σ : St) (H : Hp) : Prop where
  st : Step c.G0 c.H0 G H
  len : S.length = σ.length
  fz : ∀ (i : Nat) (d : D), S[i]? = some (some ⟨false, d⟩) → ∃ v, σ[i]? = some (some v) ∧ RD c.k G d v
  ow : ∀ (i : Nat) (d : D), S[i]? = some (some ⟨true, d⟩) → ∃ a o, σ[i]? = some (some (.ref a)) ∧ G a = none ∧ c.H0 a = none ∧ H a = some o ∧ Cont c.k G d o
  nd : ∀ (i j : Nat) (a : Addr), OwnAt S σ i a → OwnAt S σ j a → i = j
section
variable {c : Cf} {G G' H H' : Hp} {S : Env} {σ : St}
theorem Rel.own (r : Rel c G S σ H) {i : Nat} {a : Addr} (h : OwnAt S σ i a) : G a = none ∧ c.H0 a = none ∧ ∃ o d, H a = some o ∧ S[i]? = some (some ⟨true, d⟩) ∧ Cont c.k G d o := by
  obtain ⟨⟨d, hd⟩, hs⟩ := h
  obtain ⟨a', o, e, g, h0, ho, ct⟩ := r.ow i d hd
  rw [hs] at e; cases e
  exact ⟨g, h0, o, d, ho, hd, ct⟩
theorem Rel.grow (r : Rel c G S σ H) (s : Step G H G' H') : Rel c G' S σ H' where
  st := r.st.trans s
  len := r.len
  fz := fun i d h => let ⟨v, e, q⟩ := r.fz i d h; ⟨v, e, q.mono s.g⟩
  ow := fun i d h => by
    obtain ⟨a, o, e, g, h0, ho, ct⟩ := r.ow i d h
    refine ⟨a, o, e, ?_, h0, s.h _ _ ho, ct.mono s.g⟩
    cases q : G' a with
    | none => rfl
    | some u =>
      rcases s.gr a u q with z | z
      · rw [g] at z; cases z
      · rw [ho] at z; cases z
  nd := r.nd
theorem Rel.frz (r : Rel c G S σ H) {i : Nat} {d : D} (h : S[i]? = some (some ⟨true, d⟩)) : ∃ G', Ex G G' ∧ Rel c G' (S.set i (some ⟨false, d⟩)) σ H := by
  obtain ⟨a, o, e, g, h0, ho, ct⟩ := r.ow i d h
  have ow : OwnAt S σ i a := ⟨⟨d, h⟩, e⟩
  have ex : Ex G (upd G a o) := Ex.new g
  have hi : i < S.length := (List.getElem?_eq_some_iff.mp h).1
  refine ⟨upd G a o, ex, ⟨r.st.frz ho h0 g, by rw [List.length_set]; exact r.len, fun j d' q => ?_, fun j d' q => ?_, fun j l b q1 q2 => ?_⟩⟩
  · by_cases hj : i = j
    · subst hj
      rw [List.getElem?_set_self hi] at q; cases q
      exact ⟨_, e, (ct.mono ex).rd upd_same⟩
    · rw [List.getElem?_set_ne hj] at q
      obtain ⟨v, e', q'⟩ := r.fz j d' q
      exact ⟨v, e', q'.mono ex⟩
  · by_cases hj : i = j
    · subst hj
      rw [List.getElem?_set_self hi] at q; cases q
    · rw [List.getElem?_set_ne hj] at q
      obtain ⟨b, u, e', g', h0', ho', ct'⟩ := r.ow j d' q
      have hb : b ≠ a := fun z => hj (r.nd i j a ow ⟨⟨d', q⟩, by rw [← z]; exact e'⟩)
      exact ⟨b, u, e', by rw [upd_ne hb]; exact g', h0', ho', ct'.mono ex⟩
  · have back : ∀ {m : Nat}, OwnAt (S.set i (some ⟨false, d⟩)) σ m b → OwnAt S σ m b := fun {m} hm => by
      obtain ⟨⟨d', q⟩, z⟩ := hm
      by_cases hj : i = m
      · subst hj; rw [List.getElem?_set_self hi] at q; cases q
      · rw [List.getElem?_set_ne hj] at q; exact ⟨⟨d', q⟩, z⟩
    exact r.nd j l b (back q1) (back q2)
theorem Rel.setS (r : Rel c G S σ H) {d : D} {v : V} (i : Nat) (h : RD c.k G d v) : Rel c G (S.set i (some ⟨false, d⟩)) (σ.set i (some v)) H where
  st := r.st
  len := by rw [List.length_set, List.length_set]; exact r.len
  fz := fun j d' q => by
    by_cases hj : i = j
    · subst hj
      have hi : i < S.length := by have := (List.getElem?_eq_some_iff.mp q).1; rwa [List.length_set] at this
      rw [List.getElem?_set_self hi] at q; cases q
      exact ⟨v, List.getElem?_set_self (by rw [← r.len]; exact hi), h⟩
    · rw [List.getElem?_set_ne hj] at q ⊢; exact r.fz j d' q
  ow := fun j d' q => by
    by_cases hj : i = j
    · subst hj
      have hi : i < S.length := by have := (List.getElem?_eq_some_iff.mp q).1; rwa [List.length_set] at this
      rw [List.getElem?_set_self hi] at q; cases q
    · rw [List.getElem?_set_ne hj] at q ⊢; exact r.ow j d' q
  nd := fun j l b q1 q2 => by
    have back : ∀ {m : Nat}, OwnAt (S.set i (some ⟨false, d⟩)) (σ.set i (some v)) m b → OwnAt S σ m b := fun {m} hm => by
      obtain ⟨⟨d', q⟩, z⟩ := hm
      by_cases hj : i = m
      · subst hj
        have hi : i < S.length := by have := (List.getElem?_eq_some_iff.mp q).1; rwa [List.length_set] at this
        rw [List.getElem?_set_self hi] at q; cases q
      · rw [List.getElem?_set_ne hj] at q z; exact ⟨⟨d', q⟩, z⟩
    exact r.nd j l b (back q1) (back q2)
theorem Rel.setO (r : Rel c G S σ H) {d : D} {a : Addr} {o : HO} (i : Nat) (ha : H' a = some o) (hg : G a = none) (h0 : c.H0 a = none) (ct : Cont c.k G d o) (hn : ∀ j, OwnAt S σ j a → j = i) (hh : ∀ b, b ≠ a → H' b = H b) :
    Rel c G (S.set i (some ⟨true, d⟩)) (σ.set i (some (.ref a))) H' where
  st := ⟨r.st.g, fun b u q => by rw [hh b (ne_of_none q h0)]; exact r.st.h b u q, fun b u q => by rw [hh b (ne_of_none q hg)]; exact r.st.gh b u q, r.st.gr⟩
  len := by rw [List.length_set, List.length_set]; exact r.len
  fz := fun j d' q => by
    by_cases hj : i = j
    · subst hj
      have hi : i < S.length := by have := (List.getElem?_eq_some_iff.mp q).1; rwa [List.length_set] at this
      rw [List.getElem?_set_self hi] at q; cases q
    · rw [List.getElem?_set_ne hj] at q ⊢; exact r.fz j d' q
  ow := fun j d' q => by
    by_cases hj : i = j
    · subst hj
      have hi : i < S.length := by have := (List.getElem?_eq_some_iff.mp q).1; rwa [List.length_set] at this
      rw [List.getElem?_set_self hi] at q; cases q
      exact ⟨a, o, List.getElem?_set_self (by rw [← r.len]; exact hi), hg, h0, ha, ct⟩
    · rw [List.getElem?_set_ne hj] at q ⊢
      obtain ⟨b, u, e', g', h0', ho', ct'⟩ := r.ow j d' q
      have hb : b ≠ a := fun z => hj (hn j ⟨⟨d', q⟩, by rw [← z]; exact e'⟩).symm
      exact ⟨b, u, e', g', h0', by rw [hh b hb]; exact ho', ct'⟩
  nd := fun j l b q1 q2 => by
    have back : ∀ {m : Nat}, OwnAt (S.set i (some ⟨true, d⟩)) (σ.set i (some (.ref a))) m b → (m = i ∧ b = a) ∨ (m ≠ i ∧ OwnAt S σ m b) := fun {m} hm => by
      obtain ⟨⟨d', q⟩, z⟩ := hm
      by_cases hj : i = m
      · subst hj
        have hi : i < S.length := by have := (List.getElem?_eq_some_iff.mp q).1; rwa [List.length_set] at this
        rw [List.getElem?_set_self (by rw [← r.len]; exact hi)] at z; cases z
        exact .inl ⟨rfl, rfl⟩
      · rw [List.getElem?_set_ne hj] at q z; exact .inr ⟨Ne.symm hj, ⟨d', q⟩, z⟩
    rcases back q1 with ⟨h1, e1⟩ | ⟨n1, o1⟩ <;> rcases back q2 with ⟨h2, e2⟩ | ⟨n2, o2⟩
    · rw [h1, h2]
    · exact absurd (hn l (by rw [← e1]; exact o2)) n2
    · exact absurd (hn j (by rw [← e2]; exact o1)) n1
    · exact r.nd j l b o1 o2
theorem Rel.unset (r : Rel c G S σ H) (i : Nat) : Rel c G (S.set i none) (σ.set i none) H where
  st := r.st
  len := by rw [List.length_set, List.length_set]; exact r.len
  fz := fun j d' q => by
    by_cases hj : i = j
    · subst hj
      have hi : i < S.length := by have := (List.getElem?_eq_some_iff.mp q).1; rwa [List.length_set] at this
      rw [List.getElem?_set_self hi] at q; cases q
    · rw [List.getElem?_set_ne hj] at q ⊢; exact r.fz j d' q
  ow := fun j d' q => by
    by_cases hj : i = j
    · subst hj
      have hi : i < S.length := by have := (List.getElem?_eq_some_iff.mp q).1; rwa [List.length_set] at this
      rw [List.getElem?_set_self hi] at q; cases q
    · rw [List.getElem?_set_ne hj] at q ⊢; exact r.ow j d' q
  nd := fun j l b q1 q2 => by
    have back : ∀ {m : Nat}, OwnAt (S.set i none) (σ.set i none) m b → OwnAt S σ m b := fun {m} hm => by
      obtain ⟨⟨d', q⟩, z⟩ := hm
      by_cases hj : i = m
      · subst hj
        have hi : i < S.length := by have := (List.getElem?_eq_some_iff.mp q).1; rwa [List.length_set] at this
        rw [List.getElem?_set_self hi] at q; cases q
      · rw [List.getElem?_set_ne hj] at q z; exact ⟨⟨d', q⟩, z⟩
    exact r.nd j l b (back q1) (back q2)
end
def wipeS (S : Env) : List Nat → Env
  | [] => S
  | v :: vs => (wipeS S vs).set v none
theorem Rel.wipe {c : Cf} {G H : Hp} {S : Env} {σ : St} (r : Rel c G S σ H) : ∀ vs : List Nat, Rel c G (wipeS S vs) (L2.wipe σ vs) H
  | [] => r
  | v :: vs => (Rel.wipe r vs).unset v
theorem Rel.mut {c : Cf} {G H : Hp} {S : Env} {σ : St} (r : Rel c G S σ H) {i : Nat} {a : Addr} {d' : D} {o' : HO} (ow : OwnAt S σ i a) (ct : Cont c.k G d' o') : Rel c G (S.set i (some ⟨true, d'⟩)) σ (upd H a o') := by
  obtain ⟨g, h0, _⟩ := r.own ow
  have q := r.setO (H' := upd H a o') i upd_same g h0 ct (fun j oj => r.nd j i a oj ow) (fun b hb => upd_ne hb)
  have e : σ.set i (some (.ref a)) = σ := by
    apply List.ext_getElem?
    intro j
    by_cases hj : i = j
    · subst hj; rw [List.getElem?_set_self (List.getElem?_eq_some_iff.mp ow.2).1, ow.2]
    · rw [List.getElem?_set_ne hj]
  rw [e] at q; exact q
def Now (k : Kn) (G H : Hp) (d : D) (v : V) : Prop := RD k G d v ∨ ∃ a o, v = .ref a ∧ H a = some o ∧ Cont k G d o
inductive Nows (k : Kn) (G H : Hp) : List D → List V → Prop where
  | nil : Nows k G H [] []
  | cons {d : D} {ds : List D} {v : V} {vs : List V} : Now k G H d v → Nows k G H ds vs → Nows k G H (d :: ds) (v :: vs)
section
variable {k : Kn} {G G' H H' : Hp}
theorem Now.grow {d : D} {v : V} (n : Now k G H d v) (s : Step G H G' H') : Now k G' H' d v := by
  rcases n with n | ⟨a, o, e, h, ct⟩
  · exact .inl (n.mono s.g)
  · exact .inr ⟨a, o, e, s.h _ _ h, ct.mono s.g⟩
theorem Nows.grow (s : Step G H G' H') : ∀ {ds : List D} {vs : List V}, Nows k G H ds vs → Nows k G' H' ds vs
  | _, _, .nil => .nil
  | _, _, .cons a b => .cons (a.grow s) (Nows.grow s b)
theorem Nows.of : ∀ {ds : List D} {vs : List V}, RDs k G ds vs → Nows k G H ds vs
  | _, _, .nil => .nil
  | _, _, .cons a b => .cons (.inl a) (Nows.of b)
theorem Now.rd {d : D} {v : V} (e : Ex G H) (n : Now k G H d v) : RD k H d v := by
  rcases n with n | ⟨a, o, rfl, h, ct⟩
  · exact n.mono e
  · exact (ct.mono e).rd h
theorem Nows.rd (e : Ex G H) : ∀ {ds : List D} {vs : List V}, Nows k G H ds vs → RDs k H ds vs
  | _, _, .nil => .nil
  | _, _, .cons a b => .cons (a.rd e) (Nows.rd e b)
theorem Now.lst {ds : List D} {v : V} (e : Ex G H) (n : Now k G H (.lst ds) v) : ∃ a vs, v = .ref a ∧ H a = some (.lst vs) ∧ RDs k G ds vs := by
  rcases n with n | ⟨a, o, rfl, h, ct⟩
  · cases n with | lst h r => exact ⟨_, _, rfl, e _ _ h, r⟩
  · cases ct with | lst r => exact ⟨_, _, rfl, h, r⟩
theorem Now.tup {ds : List D} {v : V} (n : Now k G H (.tup ds) v) : ∃ a vs, v = .ref a ∧ SqU k.K G a vs ∧ RDs k G ds vs := by
  rcases n with n | ⟨a, o, rfl, h, ct⟩
  · cases n with | tup h r => exact ⟨_, _, rfl, h, r⟩
  · cases ct
theorem Now.scr {ns : List Int} {v : V} (n : Now k G H (.scr ns) v) : ∃ a, v = .ref a ∧ SqL k.K G a (ns.map V.int) := by
  rcases n with n | ⟨a, o, rfl, h, ct⟩
  · cases n with | scr h => exact ⟨_, rfl, h⟩
  · cases ct
theorem Now.dic {ks : List Key} {ds : List D} {v : V} (e : Ex G H) (n : Now k G H (.dic ks ds) v) : ∃ a vs, v = .ref a ∧ H a = some (.dK (ks.zip vs)) ∧ ks.length = ds.length ∧ RDs k G ds vs := by
  rcases n with n | ⟨a, o, rfl, h, ct⟩
  · cases n with | dic h l r => exact ⟨_, _, rfl, e _ _ h, l, r⟩
  · cases ct with | dic l r => exact ⟨_, _, rfl, h, l, r⟩
theorem Now.dit {ks : List (List Key)} {ds : List D} {v : V} (e : Ex G H) (n : Now k G H (.dit ks ds) v) : ∃ a vs, v = .ref a ∧ H a = some (.dT (ks.zip vs)) ∧ ks.length = ds.length ∧ RDs k G ds vs := by
  rcases n with n | ⟨a, o, rfl, h, ct⟩
  · cases n with | dit h l r => exact ⟨_, _, rfl, e _ _ h, l, r⟩
  · cases ct with | dit l r => exact ⟨_, _, rfl, h, l, r⟩
theorem Now.dkf {ks : List Key} {ds : List D} {v : V} (e : Ex G H) (n : Now k G H (.dkf ks ds) v) : ∃ a o vs, v = .ref a ∧ H a = some (.frz o (.dK (ks.zip vs))) ∧ ks.length = ds.length ∧ RDs k G ds vs := by
  rcases n with n | ⟨a, o, rfl, h, ct⟩
  · cases n with | dkf h l r => exact ⟨_, _, _, rfl, e _ _ h, l, r⟩
  · cases ct
theorem Now.obj {c : Nat} {ds : List D} {v : V} (e : Ex G H) (n : Now k G H (.obj c ds) v) : ∃ a C dx nm vs, v = .ref a ∧ k.cl c = some (C, nm) ∧ H a = some (.ins C dx (nm.zip vs)) ∧ RDs k G ds vs := by
  rcases n with n | ⟨a, o, rfl, h, ct⟩
  · cases n with | obj q h r => exact ⟨_, _, _, _, _, rfl, q, e _ _ h, r⟩
  · cases ct with | obj q r => exact ⟨_, _, _, _, _, rfl, q, h, r⟩
theorem Now.int {i : Int} {v : V} (n : Now k G H (.int i) v) : v = .int i := by
  rcases n with n | ⟨a, o, rfl, h, ct⟩
  · cases n; rfl
  · cases ct
theorem Now.bl {i : Bool} {v : V} (n : Now k G H (.bl i) v) : v = .bl i := by
  rcases n with n | ⟨a, o, rfl, h, ct⟩
  · cases n; rfl
  · cases ct
theorem Now.str {i : Str} {v : V} (n : Now k G H (.str i) v) : v = .str i := by
  rcases n with n | ⟨a, o, rfl, h, ct⟩
  · cases n; rfl
  · cases ct
theorem Now.non {v : V} (n : Now k G H .non v) : v = .non := by
  rcases n with n | ⟨a, o, rfl, h, ct⟩
  · cases n; rfl
  · cases ct
theorem Now.ty {x : String} {v : V} (n : Now k G H (.ty x) v) : v = .ty x := by
  rcases n with n | ⟨a, o, rfl, h, ct⟩
  · cases n; rfl
  · cases ct
end
def Res (k : Kn) (H : Hp) (G' H' : Hp) (d : D) (v : V) : Kd → Prop
  | .st => RD k G' d v
  | .bo => Now k G' H' d v
  | .fr => ∃ a o, v = .ref a ∧ G' a = none ∧ H a = none ∧ H' a = some o ∧ Cont k G' d o
section
variable {k : Kn} {H0 H G' H' G2 H2 : Hp} {d : D} {v : V} {kd : Kd}
theorem Res.mono (h : Res k H G' H' d v kd) (e : Ex H0 H) : Res k H0 G' H' d v kd := by
  cases kd with
  | st => exact h
  | bo => exact h
  | fr => obtain ⟨a, o, e', hg, h0, r⟩ := h; exact ⟨a, o, e', hg, e.free h0, r⟩
theorem Res.now (h : Res k H G' H' d v kd) : Now k G' H' d v := by
  cases kd with
  | st => exact .inl h
  | bo => exact h
  | fr => obtain ⟨a, o, e, _, _, h, ct⟩ := h; exact .inr ⟨a, o, e, h, ct⟩
end
def Args (k : Kn) (G H : Hp) (ds : List D) (vs : List V) : Bool → Prop
  | true => Nows k G H ds vs
  | false => RDs k G ds vs
theorem Args.nows {k : Kn} {G H : Hp} {ds : List D} {vs : List V} {b : Bool} (h : Args k G H ds vs b) : Nows k G H ds vs := by
  cases b with
  | true => exact h
  | false => exact Nows.of h
def XR (c : Cf) (G : Hp) (x : Exc) (cls : Value) (da : Option Addr) (H : Hp) : Prop :=
  ∃ C nm, c.k.cl x.c = some (C, nm) ∧ cls = .ref C ∧ ((nm = [] ∧ x.fs = [] ∧ da = none) ∨ ∃ d vs, da = some d ∧ H d = some (.xd (nm.zip vs)) ∧ RDs c.k G x.fs vs ∧ nm.length = vs.length)
def PX (c : Cf) (σ : St) (x : Exc) : Prop := ∀ cls da G' H', Step c.G0 c.H0 G' H' → XR c G' x cls da H' → c.W cls da σ H'
def PXs (c : Cf) (x : Exc) : Prop := ∀ σ, PX c σ x
abbrev liftX (E : XK) : WX := fun cls da _ H => E cls da H
def PostE (c : Cf) (k : Kd) (G : Hp) (S : Env) (σ : St) (H : Hp) (Q : VK) : R D → Prop
  | .ok d => ∀ v G' H', Step G H G' H' → Res c.k H G' H' d v k → Q v H'
  | .exc x => PX c σ x
  | .fail => False
def RdE (c : Cf) (k : Kd) (f : FE) : TE := fun σ H Q => ∃ G S, Rel c G S σ H ∧ PostE c k G S σ H Q (f S)
def PostT (c : Cf) (G : Hp) (S : Env) (σ : St) (H : Hp) (Q : Bool → Hp → Prop) : R Bool → Prop
  | .ok b => ∀ G' H', Step G H G' H' → Q b H'
  | .exc x => PX c σ x
  | .fail => False
def RdT (c : Cf) (f : FT) : TT := fun σ H Q => ∃ G S, Rel c G S σ H ∧ PostT c G S σ H Q (f S)
def PostA (c : Cf) (b : Bool) (G : Hp) (S : Env) (σ : St) (H : Hp) (Q : List V → Hp → Prop) : R (List D) → Prop
  | .ok ds => ∀ vs G' H', Step G H G' H' → Args c.k G' H' ds vs b → Q vs H'
  | .exc x => PX c σ x
  | .fail => False
def RdA (c : Cf) (b : Bool) (f : FA) : TA := fun σ H Q => ∃ G S, Rel c G S σ H ∧ PostA c b G S σ H Q (f S)
structure Frm (as : List Nat) (S : Env) (σ : St) (H : Hp) (S' : Env) (σ' : St) (H' : Hp) : Prop where
  len : σ'.length = σ.length
  sg : ∀ (i : Nat), i ∉ as → σ'[i]? = σ[i]?
  sl : ∀ (i : Nat), i ∉ as → i + 1000 ∉ as → S'[i]? = S[i]?
  ow : ∀ (i : Nat) (a : Addr), i ∉ as → i + 1000 ∉ as → OwnAt S σ i a → H' a = H a
theorem Frm.refl (as : List Nat) (S : Env) (σ : St) (H : Hp) : Frm as S σ H S σ H := ⟨rfl, fun _ _ => rfl, fun _ _ _ => rfl, fun _ _ _ _ _ => rfl⟩
theorem Frm.trans {as bs : List Nat} {S S1 S2 : Env} {σ σ1 σ2 : St} {H H1 H2 : Hp} (a : Frm as S σ H S1 σ1 H1) (b : Frm bs S1 σ1 H1 S2 σ2 H2) : Frm (as ++ bs) S σ H S2 σ2 H2 where
  len := b.len.trans a.len
  sg := fun i h => by
    simp only [List.mem_append, not_or] at h
    exact (b.sg i h.2).trans (a.sg i h.1)
  sl := fun i h h' => by
    simp only [List.mem_append, not_or] at h h'
    exact (b.sl i h.2 h'.2).trans (a.sl i h.1 h'.1)
  ow := fun i x h h' o => by
    simp only [List.mem_append, not_or] at h h'
    have o' : OwnAt S1 σ1 i x := ⟨by obtain ⟨d, e⟩ := o.1; exact ⟨d, (a.sl i h.1 h'.1).trans e⟩, (a.sg i h.1).trans o.2⟩
    exact (b.ow i x h.2 h'.2 o').trans (a.ow i x h.1 h'.1 o)
theorem Frm.mono {as bs : List Nat} {S S1 : Env} {σ σ1 : St} {H H1 : Hp} (a : Frm as S σ H S1 σ1 H1) (h : ∀ i, i ∈ as → i ∈ bs) : Frm bs S σ H S1 σ1 H1 :=
  ⟨a.len, fun i q => a.sg i fun z => q (h i z), fun i q q' => a.sl i (fun z => q (h i z)) fun z => q' (h _ z), fun i x q q' => a.ow i x (fun z => q (h i z)) fun z => q' (h _ z)⟩
theorem Frm.step {c : Cf} {as : List Nat} {S : Env} {σ : St} {G H G' H' : Hp} (r : Rel c G S σ H) (s : Step G H G' H') : Frm as S σ H S σ H' :=
  ⟨rfl, fun _ _ => rfl, fun _ _ _ => rfl, fun i a _ _ o => by
    obtain ⟨_, _, u, _, h, _⟩ := r.own o
    rw [h, s.h a u h]⟩
theorem Frm.mut {c : Cf} {G H : Hp} {S : Env} {σ : St} (r : Rel c G S σ H) {i : Nat} {a : Addr} {x : Option Sl} {o' : HO} (ow : OwnAt S σ i a) : Frm [i + 1000] S σ H (S.set i x) σ (upd H a o') :=
  ⟨rfl, fun _ _ => rfl, fun j _ h => List.getElem?_set_ne (fun z => h (by simp [z])), fun j b _ h oj => upd_ne (fun z => h (by
    have : i = j := r.nd i j b (by rw [z]; exact ow) oj
    simp [this]))⟩
def RV (c : Cf) (fr : Bool) (G H : Hp) (d : D) (v : V) : Prop :=
  match fr with
  | true => ∃ a o, v = .ref a ∧ G a = none ∧ c.H0 a = none ∧ H a = some o ∧ Cont c.k G d o
  | false => RD c.k G d v
structure OwR (k : Kn) (as : List Nat) (S' : Env) (σ : St) (G' H' : Hp) : Prop where
  ex : ∃ σ' : St, (∀ i : Nat, i ∉ as → σ'[i]? = σ[i]?) ∧ ∀ (i : Nat) (d : D), S'[i]? = some (some ⟨true, d⟩) → ∃ a o, σ'[i]? = some (some (.ref a)) ∧ G' a = none ∧ H' a = some o ∧ Cont k G' d o
theorem Rel.owR {c : Cf} {as : List Nat} {S : Env} {σ : St} {G H : Hp} (r : Rel c G S σ H) : OwR c.k as S σ G H :=
  ⟨σ, fun _ _ => rfl, fun i d q => by
    obtain ⟨a, o, e, g, _, ho, ct⟩ := r.ow i d q
    exact ⟨a, o, e, g, ho, ct⟩⟩
theorem OwR.sub {k : Kn} {as bs : List Nat} {S : Env} {σ : St} {G H : Hp} (h : OwR k as S σ G H) (hs : ∀ i, i ∈ as → i ∈ bs) : OwR k bs S σ G H := by
  obtain ⟨σ', h1, h2⟩ := h.ex
  exact ⟨σ', fun i hi => h1 i fun z => hi (hs i z), h2⟩
theorem OwR.mv {k : Kn} {as bs : List Nat} {S S1 S2 : Env} {σ σ1 : St} {G H H0 H1 : Hp} (h : OwR k bs S2 σ1 G H) (fm : Frm as S σ H0 S1 σ1 H1) : OwR k (as ++ bs) S2 σ G H := by
  obtain ⟨σ', h1, h2⟩ := h.ex
  refine ⟨σ', fun i hi => ?_, h2⟩
  simp only [List.mem_append, not_or] at hi
  exact (h1 i hi.2).trans (fm.sg i hi.1)
def PostS (c : Cf) (fr : Bool) (as : List Nat) (G : Hp) (S : Env) (σ : St) (H : Hp) (Dn : Ends) : R (Fl × Env) → Prop
  | .ok (.nx, S') => ∀ G' σ' H', Ex G G' → Rel c G' S' σ' H' → Frm as S σ H S' σ' H' → Dn.nx σ' H'
  | .ok (.bk, S') => ∀ G' σ' H', Ex G G' → Rel c G' S' σ' H' → Frm as S σ H S' σ' H' → Dn.bk σ' H'
  | .ok (.ct, S') => ∀ G' σ' H', Ex G G' → Rel c G' S' σ' H' → Frm as S σ H S' σ' H' → Dn.ct σ' H'
  | .ok (.rt d, S') => ∀ v G' H', Step c.G0 c.H0 G' H' → RV c fr G' H' d v → OwR c.k as S' σ G' H' → Dn.rt v H'
  | .exc x => PXs c x
  | .fail => False
def RdS (c : Cf) (fr : Bool) (as : List Nat) (f : FS) : TS := fun Dn σ H => ∃ G S, Rel c G S σ H ∧ PostS c fr as G S σ H Dn (f S)
def PostG (c : Cf) (as : List Nat) (G : Hp) (S : Env) (σ : St) (H : Hp) (Q : St → Hp → Prop) : R Env → Prop
  | .ok S' => ∀ G' σ' H', Step G H G' H' → Rel c G' S' σ' H' → Frm as S σ H S' σ' H' → Q σ' H'
  | _ => False
def RdG (c : Cf) (as : List Nat) (g : FG) : TG := fun v σ H Q => ∃ G S d, Rel c G S σ H ∧ RD c.k G d v ∧ PostG c as G S σ H Q (g d S)
end M
set_option Elab.async false
set_option linter.all false
set_option maxRecDepth 100000
set_option maxHeartbeats 4000000
namespace M
open PySem L2
section
variable {X : Cx}
theorem peI {e : Expr} {t t' : TE} (h : PE X e t) (i : ∀ σ H Q, t' σ H Q → t σ H Q) : PE X e t' := ⟨fun pins s σ H Q I q => h.run pins s σ H Q I (i σ H Q q)⟩
theorem ptI {e : Expr} {t t' : TT} (h : PT X e t) (i : ∀ σ H Q, t' σ H Q → t σ H Q) : PT X e t' := ⟨fun pins s σ H Q I q => h.run pins s σ H Q I (i σ H Q q)⟩
theorem pwI {e : Expr} {t t' : TT} (h : PW X e t) (i : ∀ σ H Q, t' σ H Q → t σ H Q) : PW X e t' := ⟨fun wh pins s σ H Q I q => h.run wh pins s σ H Q I (i σ H Q q)⟩
theorem paI {e : List Expr} {t t' : TA} (h : PA X e t) (i : ∀ σ H Q, t' σ H Q → t σ H Q) : PA X e t' := ⟨fun pos pins s σ H Q I q => h.run pos pins s σ H Q I (i σ H Q q)⟩
theorem psI {e : Stmt} {t t' : TS} (h : PS X e t) (i : ∀ D σ H, t' D σ H → t D σ H) : PS X e t' := ⟨fun pins s σ H D I q => h.run pins s σ H D I (i D σ H q)⟩
theorem pssI {e : List Stmt} {t t' : TS} (h : PSs X e t) (i : ∀ D σ H, t' D σ H → t D σ H) : PSs X e t' := ⟨fun pins s σ H D I q => h.run pins s σ H D I (i D σ H q)⟩
theorem pgI {e : Expr} {t t' : TG} (h : PG X e t) (i : ∀ v σ H Q, t' v σ H Q → t v σ H Q) : PG X e t' := ⟨fun pins s σ H v u Q I r q => h.run pins s σ H v u Q I r (i v σ H Q q)⟩
theorem pgsI {e : List Expr} {t t' : TGs} (h : PGs X e t) (i : ∀ v σ H Q, t' v σ H Q → t v σ H Q) : PGs X e t' := ⟨fun pins s σ H v u Q I r q => h.run pins s σ H v u Q I r (i v σ H Q q)⟩
theorem piI {tg e : Expr} {t t' : TI} (h : PI X tg e t) (i : ∀ σ H Q, t' σ H Q → t σ H Q) : PI X tg e t' := ⟨fun pins s σ H R I q => h.run pins s σ H R I (i σ H R q)⟩
theorem ptsI {e : List Expr} {t t' : TT} (h : PTs X e t) (i : ∀ σ H Q, t' σ H Q → t σ H Q) : PTs X e t' := ⟨fun pins s σ H Q I q => h.run pins s σ H Q I (i σ H Q q)⟩
end
section
variable {X : Cx} {c : Cf}
theorem rdE_go {kd : Kd} {f : FE} {G H : Hp} {S : Env} {σ : St} {Q : VK} {β : Type} {g : D → R β} {Post : R β → Prop} (r : Rel c G S σ H) (p : Post (f S >>= g))
    (hx : ∀ x, Post (.exc x) → PX c σ x) (hf : Post .fail → False) (k : ∀ d v G' H', Step G H G' H' → Res c.k H G' H' d v kd → Post (g d) → Q v H') : RdE c kd f σ H Q := by
  refine ⟨G, S, r, ?_⟩
  cases e : f S with
  | ok d => rw [e] at p; exact fun v G' H' s h => k d v G' H' s h p
  | exc x => rw [e] at p; exact hx x p
  | fail => rw [e] at p; exact hf p
theorem rdT_go {f : FT} {G H : Hp} {S : Env} {σ : St} {Q : Bool → Hp → Prop} {β : Type} {g : Bool → R β} {Post : R β → Prop} (r : Rel c G S σ H) (p : Post (f S >>= g))
    (hx : ∀ x, Post (.exc x) → PX c σ x) (hf : Post .fail → False) (k : ∀ d G' H', Step G H G' H' → Post (g d) → Q d H') : RdT c f σ H Q := by
  refine ⟨G, S, r, ?_⟩
  cases e : f S with
  | ok d => rw [e] at p; exact fun G' H' s => k d G' H' s p
  | exc x => rw [e] at p; exact hx x p
  | fail => rw [e] at p; exact hf p
theorem rdA_go {b : Bool} {f : FA} {G H : Hp} {S : Env} {σ : St} {Q : List V → Hp → Prop} {β : Type} {g : List D → R β} {Post : R β → Prop} (r : Rel c G S σ H) (p : Post (f S >>= g))
    (hx : ∀ x, Post (.exc x) → PX c σ x) (hf : Post .fail → False) (k : ∀ ds vs G' H', Step G H G' H' → Args c.k G' H' ds vs b → Post (g ds) → Q vs H') : RdA c b f σ H Q := by
  refine ⟨G, S, r, ?_⟩
  cases e : f S with
  | ok d => rw [e] at p; exact fun v G' H' s h => k d v G' H' s h p
  | exc x => rw [e] at p; exact hx x p
  | fail => rw [e] at p; exact hf p
abbrev PE' (X : Cx) (c : Cf) (kd : Kd) (e : Expr) (f : FE) : Prop := PE X e (RdE c kd f)
abbrev PT' (X : Cx) (c : Cf) (e : Expr) (f : FT) : Prop := PT X e (RdT c f)
abbrev PA' (X : Cx) (c : Cf) (b : Bool) (es : List Expr) (f : FA) : Prop := PA X es (RdA c b f)
theorem cst_of {e : Expr} {d : D} {v : V} (h : PE X e (tC v)) (r : ∀ G, RD c.k G d v) : PE' X c .st e (fun _ => .ok d) :=
  peI h fun σ H Q ⟨G, S, rel, p⟩ => p v G H (Step.refl rel.st.gh) (r G)
def eI (i : Int) : FE := fun _ => .ok (.int i)
def eS (x : Str) : FE := fun _ => .ok (.str x)
def eB (b : Bool) : FE := fun _ => .ok (.bl b)
def eN : FE := fun _ => .ok .non
theorem d_int {i j pos} : PE' X c .st (.Constant (.int i) j pos) (eI i) := cst_of pe_int fun _ => .int i
theorem d_bl {i j pos} : PE' X c .st (.Constant (.bool i) j pos) (eB i) := cst_of pe_bl fun _ => .bl i
theorem d_non {j pos} : PE' X c .st (.Constant .none j pos) eN := cst_of pe_non fun _ => .non
def eV (i : Nat) : FE := fun S => match S[i]? with
  | some (some ⟨false, d⟩) => .ok d
  | _ => .fail
def eW (i : Nat) : FE := fun S => match S[i]? with
  | some (some ⟨_, d⟩) => .ok d
  | _ => .fail
theorem d_v (i : Nat) {x : Str} {pos : Pos} (hN : X.N[i]? = some x := by rfl) (hv : Vis X.env.scope x := by first | exact Or.inl rfl | exact Or.inr (Or.inl rfl) | exact Or.inr (Or.inr rfl)) (hd : (x == ("__debug__" : Str)) = false := by decide)
    (hcd : (x == ("__classdict__" : Str)) = false := by decide) : PE' X c .st (.Name x pos) (eV i) :=
  peI (pe_var hN hv hd hcd) fun σ H Q ⟨G, S, r, p⟩ => by
    unfold eV at p
    split at p
    · rename_i d e
      obtain ⟨v, e1, q⟩ := r.fz i d e
      exact ⟨v, e1, p v G H (Step.refl r.st.gh) q⟩
    · exact p.elim
theorem d_w (i : Nat) {x : Str} {pos : Pos} (hN : X.N[i]? = some x := by rfl) (hv : Vis X.env.scope x := by first | exact Or.inl rfl | exact Or.inr (Or.inl rfl) | exact Or.inr (Or.inr rfl)) (hd : (x == ("__debug__" : Str)) = false := by decide)
    (hcd : (x == ("__classdict__" : Str)) = false := by decide) : PE' X c .bo (.Name x pos) (eW i) :=
  peI (pe_var hN hv hd hcd) fun σ H Q ⟨G, S, r, p⟩ => by
    unfold eW at p
    split at p
    · rename_i b d e
      cases b with
      | false =>
        obtain ⟨v, e1, q⟩ := r.fz i d e
        exact ⟨v, e1, p v G H (Step.refl r.st.gh) (.inl q)⟩
      | true =>
        obtain ⟨a, o, e1, hg, h0, ho, ct⟩ := r.ow i d e
        exact ⟨_, e1, p _ G H (Step.refl r.st.gh) (.inr ⟨a, o, rfl, ho, ct⟩)⟩
    · exact p.elim
theorem d_z {e : Expr} {f : FE} (h : PE' X c .fr e f) : PE' X c .st e f :=
  peI h fun σ H Q ⟨G, S, r, p⟩ => ⟨G, S, r, by
    cases e1 : f S with
    | ok d =>
      rw [e1] at p
      rintro v G' H' s ⟨a, o, rfl, hg, hn, ha, ct⟩
      exact p _ (upd G' a o) H' (s.frz ha hn hg) ((ct.mono (Ex.new hg)).rd upd_same)
    | exc x => rw [e1] at p; exact p
    | fail => rw [e1] at p; exact p⟩
def Op2 (X : Cx) (k : Kn) (f : Value → Value → Sem Value) (kd : Kd) (g : D → D → R D) : Prop :=
  ∃ r : R2, OpR X f r ∧ ∀ G H x y u v d, Ex G H → Now k G H x u → Now k G H y v → g x y = .ok d → ∀ Q : VK, (∀ w G' H', Step G H G' H' → Res k H G' H' d w kd → Q w H') → r u v H Q
variable {kd k1 k2 k3 : Kd} {a b : Expr} {f g h : FE} {pos : Pos}
def e2 (o : D → D → R D) (f g : FE) : FE := fun S => do
  let x ← f S
  let y ← g S
  (o x y).nox
theorem e2_go {o : D → D → R D} {σ : St} {H : Hp} {Q : VK} {r : R2} (hr : ∀ G H x y u v d, Ex G H → Now c.k G H x u → Now c.k G H y v → o x y = .ok d → ∀ Q : VK, (∀ w G' H', Step G H G' H' → Res c.k H G' H' d w kd → Q w H') → r u v H Q)
    (q : RdE c kd (e2 o f g) σ H Q) : RdE c k1 f σ H fun x H1 => RdE c k2 g σ H1 fun y H2 => r x y H2 Q := by
  obtain ⟨G, S, rel, p⟩ := q
  refine rdE_go (g := fun x => do let y ← g S; (o x y).nox) (Post := PostE c kd G S σ H Q) rel p (fun _ z => z) (fun z => z) fun d1 v1 G1 H1 s1 q1 p1 => ?_
  refine rdE_go (g := fun y => (o d1 y).nox) (Post := PostE c kd G S σ H Q) (rel.grow s1) p1 (fun _ z => z) (fun z => z) fun d2 v2 G2 H2 s2 q2 p2 => ?_
  cases e : o d1 d2 with
  | ok d =>
    rw [e] at p2
    exact hr G2 H2 d1 d2 v1 v2 d s2.gh (q1.now.grow s2) q2.now e Q fun w G3 H3 s3 q3 => p2 w G3 H3 ((s1.trans s2).trans s3) (q3.mono (s1.h.trans s2.h))
  | exc x => rw [e] at p2; exact p2.elim
  | fail => rw [e] at p2; exact p2.elim
theorem d_op {op : Operator} {o : D → D → R D} (ho : Op2 X c.k (binaryOp op) kd o) (ha : PE' X c k1 a f) (hb : PE' X c k2 b g) : PE' X c kd (.BinOp a op b pos) (e2 o f g) := by
  obtain ⟨r, h1, h2⟩ := ho
  exact peI (pe_op h1 ha hb) fun σ H Q q => e2_go h2 q
theorem d_cmp {op : CmpOp} {o : D → D → R D} (ho : Op2 X c.k (compareOp op) kd o) (ha : PE' X c k1 a f) (hb : PE' X c k2 b g) (hm : behindInMarks op b = false := by rfl) : PE' X c kd (.Compare a [op] [b] pos) (e2 o f g) := by
  obtain ⟨r, h1, h2⟩ := ho
  exact peI (pe_cmpR h1 ha hb hm) fun σ H Q q => e2_go h2 q
def Ix2 (X : Cx) (k : Kn) (g : D → D → R D) : Prop :=
  ∃ r : R2, IxR X r ∧ ∀ G H x y u v d, Ex G H → Now k G H x u → Now k G H y v → g x y = .ok d → ∀ Q : VK, (∀ w G' H', Step G H G' H' → Res k H G' H' d w .st → Q w H') → r u v H Q
theorem d_ix {o : D → D → R D} (ho : Ix2 X c.k o) (ha : PE' X c k1 a f) (hb : PE' X c k2 b g) (hi : PlainIx b := by exact fun _ _ => rfl) : PE' X c .st (.Subscript a b pos) (e2 o f g) := by
  obtain ⟨r, h1, h2⟩ := ho
  exact peI (pe_ix h1 ha hb hi) fun σ H Q q => e2_go h2 q
def e1 (o : D → R D) (f : FE) : FE := fun S => do
  let x ← f S
  (o x).nox
theorem e1_go {o : D → R D} {σ : St} {H : Hp} {Q : VK} {r : V → Hp → VK → Prop} (hr : ∀ G H x u d, Ex G H → Now c.k G H x u → o x = .ok d → ∀ Q : VK, (∀ w G' H', Step G H G' H' → Res c.k H G' H' d w kd → Q w H') → r u H Q)
    (q : RdE c kd (e1 o f) σ H Q) : RdE c k1 f σ H fun x H1 => r x H1 Q := by
  obtain ⟨G, S, rel, p⟩ := q
  refine rdE_go (g := fun x => (o x).nox) (Post := PostE c kd G S σ H Q) rel p (fun _ z => z) (fun z => z) fun d1 v1 G1 H1 s1 q1 p1 => ?_
  cases e : o d1 with
  | ok d =>
    rw [e] at p1
    exact hr G1 H1 d1 v1 d s1.gh q1.now e Q fun w G3 H3 s3 q3 => p1 w G3 H3 (s1.trans s3) (q3.mono s1.h)
  | exc x => rw [e] at p1; exact p1.elim
  | fail => rw [e] at p1; exact p1.elim
def Un1 (X : Cx) (k : Kn) (f : Value → Sem Value) (g : D → R D) : Prop :=
  ∃ r : V → Hp → VK → Prop, UnR X f r ∧ ∀ G H x u d, Ex G H → Now k G H x u → g x = .ok d → ∀ Q : VK, (∀ w G' H', Step G H G' H' → Res k H G' H' d w .st → Q w H') → r u H Q
theorem d_un {op : UnaryOp} {o : D → R D} (ho : Un1 X c.k (unaryOp op) o) (ha : PE' X c k1 a f) : PE' X c .st (.UnaryOp op a pos) (e1 o f) := by
  obtain ⟨r, h1, h2⟩ := ho
  exact peI (pe_un h1 ha) fun σ H Q q => e1_go h2 q
def aN : FA := fun _ => .ok []
def aC (f : FE) (g : FA) : FA := fun S => do
  let x ← f S
  let xs ← g S
  .ok (x :: xs)
theorem d_an {b : Bool} : PA' X c b [] aN := paI pa_nil fun σ H Q ⟨G, S, r, p⟩ => p [] G H (Step.refl r.st.gh) (by cases b <;> exact .nil)
theorem d_ac {e : Expr} {es : List Expr} {ga : FA} (ha : PE' X c .st e f) (hr : PA' X c false es ga) (hs : starEach (e :: es) X.env = (false, eval e X.env) :: starEach es X.env := by rfl) : PA' X c false (e :: es) (aC f ga) :=
  paI (pa_cons ha hr hs) fun σ H Q ⟨G, S, rel, p⟩ => by
    refine rdE_go (g := fun x => do let xs ← ga S; .ok (x :: xs)) (Post := PostA c false G S σ H Q) rel p (fun _ z => z) (fun z => z) fun d1 v1 G1 H1 s1 q1 p1 => ?_
    refine rdA_go (g := fun xs => .ok (d1 :: xs)) (Post := PostA c false G S σ H Q) (rel.grow s1) p1 (fun _ z => z) (fun z => z) fun d2 v2 G2 H2 s2 q2 p2 => ?_
    exact p2 _ G2 H2 (s1.trans s2) (.cons (RD.mono s2.g q1) q2)
theorem d_ab {e : Expr} {es : List Expr} {ga : FA} (ha : PE' X c k1 e f) (hr : PA' X c true es ga) (hs : starEach (e :: es) X.env = (false, eval e X.env) :: starEach es X.env := by rfl) : PA' X c true (e :: es) (aC f ga) :=
  paI (pa_cons ha hr hs) fun σ H Q ⟨G, S, rel, p⟩ => by
    refine rdE_go (g := fun x => do let xs ← ga S; .ok (x :: xs)) (Post := PostA c true G S σ H Q) rel p (fun _ z => z) (fun z => z) fun d1 v1 G1 H1 s1 q1 p1 => ?_
    refine rdA_go (g := fun xs => .ok (d1 :: xs)) (Post := PostA c true G S σ H Q) (rel.grow s1) p1 (fun _ z => z) (fun z => z) fun d2 v2 G2 H2 s2 q2 p2 => ?_
    exact p2 _ G2 H2 (s1.trans s2) (.cons (q1.now.grow s2) q2)
def mkT (xs : List D) : R D := if xs.length ≤ sizeLine then .ok (.tup xs) else .fail
def mkL (xs : List D) : R D := if xs.length ≤ sizeLine then .ok (.lst xs) else .fail
def eT (g : FA) : FE := fun S => g S >>= mkT
def eL (g : FA) : FE := fun S => g S >>= mkL
theorem d_tup {es : List Expr} {ga : FA} {x1} (h : PA' X c false es ga) : PE' X c .st (.Tuple es x1 pos) (eT ga) :=
  peI (pe_tup h) fun σ H Q ⟨G, S, rel, p⟩ => by
    refine rdA_go (g := mkT) (Post := PostE c .st G S σ H Q) rel p (fun _ z => z) (fun z => z) fun ds vs G1 H1 s1 q1 p1 => ?_
    have q1 : RDs c.k G1 ds vs := q1
    by_cases hl : ds.length ≤ sizeLine
    · unfold mkT at p1; rw [if_pos hl] at p1
      exact ⟨by rw [← q1.length]; exact hl, fun p hp => p1 _ _ _ (s1.trans (Step.new s1.gh hp)) (.tup (SqU.of upd_same) (q1.mono (Ex.new (s1.gh.free hp))))⟩
    · unfold mkT at p1; rw [if_neg hl] at p1; exact p1.elim
theorem d_lst {es : List Expr} {ga : FA} (h : PA' X c false es ga) : PE' X c .fr (.List es pos) (eL ga) :=
  peI (pe_lst h) fun σ H Q ⟨G, S, rel, p⟩ => by
    refine rdA_go (g := mkL) (Post := PostE c .fr G S σ H Q) rel p (fun _ z => z) (fun z => z) fun ds vs G1 H1 s1 q1 p1 => ?_
    have q1 : RDs c.k G1 ds vs := q1
    by_cases hl : ds.length ≤ sizeLine
    · unfold mkL at p1; rw [if_pos hl] at p1
      exact ⟨by rw [← q1.length]; exact hl, fun p hp => p1 _ _ _ (s1.trans (Step.new' s1.gh hp)) ⟨p, _, rfl, s1.gh.free hp, s1.h.free hp, upd_same, .lst q1⟩⟩
    · unfold mkL at p1; rw [if_neg hl] at p1; exact p1.elim
def ClR (X : Cx) (k : Kn) (f : Value) (kd : Kd) (g : List D → R D) : Prop :=
  ∃ r : List V → Hp → VK → Prop, CallR X f r ∧ ∀ G H ds vs d, Ex G H → Nows k G H ds vs → g ds = .ok d → ∀ Q : VK, (∀ w G' H', Step G H G' H' → Res k H G' H' d w kd → Q w H') → r vs H Q
def eC (o : List D → R D) (g : FA) : FE := fun S => do
  let xs ← g S
  (o xs).nox
theorem eC_go {ba : Bool} {ga : FA} {o : List D → R D} {σ : St} {H : Hp} {Q : VK} {r : List V → Hp → VK → Prop} (hr : ∀ G H ds vs d, Ex G H → Nows c.k G H ds vs → o ds = .ok d → ∀ Q : VK, (∀ w G' H', Step G H G' H' → Res c.k H G' H' d w kd → Q w H') → r vs H Q)
    (q : RdE c kd (eC o ga) σ H Q) : RdA c ba ga σ H fun x H1 => r x H1 Q := by
  obtain ⟨G, S, rel, p⟩ := q
  refine rdA_go (g := fun x => (o x).nox) (Post := PostE c kd G S σ H Q) rel p (fun _ z => z) (fun z => z) fun d1 v1 G1 H1 s1 q1 p1 => ?_
  cases e : o d1 with
  | ok d =>
    rw [e] at p1
    exact hr G1 H1 d1 v1 d s1.gh q1.nows e Q fun w G3 H3 s3 q3 => p1 w G3 H3 (s1.trans s3) (q3.mono s1.h)
  | exc x => rw [e] at p1; exact p1.elim
  | fail => rw [e] at p1; exact p1.elim
theorem d_bltn {ba : Bool} {x : Str} {p : Pos} {e : Expr} {es : List Expr} {ga : FA} {id : String} {o : List D → R D} (ho : ClR X c.k (.builtin id) kd o) (hm : X.mg x = none) (ha : PA' X c ba (e :: es) ga) (hv : bootBuiltins x = some (.builtin id) := by decide +kernel) (hg : Gl X x := by rfl)
    (hn : x ≠ "__name__" := by decide) (hdb : (x == ("__debug__" : Str)) = false := by decide)
    (hs : starEach (e :: es) X.env = (false, eval e X.env) :: starEach es X.env := by rfl) (hs2 : ((backTo pos (starEach es X.env)).any fun x => x.1) = false := by rfl) :
    PE' X c kd (.Call (.Name x p) (e :: es) [] pos) (eC o ga) := by
  obtain ⟨r, h1, h2⟩ := ho
  exact peI (pe_callB h1 hg hm hv ha hn hdb hs hs2) fun σ H Q q => eC_go h2 q
theorem d_btyp {ba : Bool} {x : Str} {p : Pos} {e : Expr} {es : List Expr} {ga : FA} {id : String} {o : List D → R D} (ho : ClR X c.k (.type id) kd o) (hm : X.mg x = none) (ha : PA' X c ba (e :: es) ga) (hv : bootBuiltins x = some (.type id) := by decide +kernel) (hg : Gl X x := by rfl)
    (hn : x ≠ "__name__" := by decide) (hdb : (x == ("__debug__" : Str)) = false := by decide)
    (hs : starEach (e :: es) X.env = (false, eval e X.env) :: starEach es X.env := by rfl) (hs2 : ((backTo pos (starEach es X.env)).any fun x => x.1) = false := by rfl) :
    PE' X c kd (.Call (.Name x p) (e :: es) [] pos) (eC o ga) := by
  obtain ⟨r, h1, h2⟩ := ho
  exact peI (pe_callTy h1 hg hm hv ha hn hdb hs hs2) fun σ H Q q => eC_go h2 q
end
end M
set_option Elab.async false
set_option linter.all false
set_option maxRecDepth 100000
set_option maxHeartbeats 4000000
namespace M
open PySem L2
mutual
def D.toP : D → PyData
  | .bl b => .bool b
  | .int i => .int i
  | .str x => .str x
  | .tup xs => .tuple (D.toPs xs)
  | .lst xs => .list (D.toPs xs)
  | _ => .none
def D.toPs : List D → List PyData
  | [] => []
  | x :: xs => x.toP :: D.toPs xs
end
mutual
def deq : D → D → Bool
  | .non, .non => true
  | .bl a, .bl b => a == b
  | .bl a, .int j => (if a then 1 else 0) == j
  | .int i, .bl b => i == (if b then 1 else 0)
  | .int i, .int j => i == j
  | .str x, .str y => x == y
  | .lst xs, .lst ys => deqs xs ys
  | .tup xs, .tup ys => deqs xs ys
  | _, _ => false
def deqs : List D → List D → Bool
  | [], [] => true
  | x :: xs, y :: ys => deq x y && deqs xs ys
  | _, _ => false
end
mutual
def dok : Nat → D → Bool
  | _, .non => true
  | _, .bl _ => true
  | _, .int _ => true
  | _, .str x => PyData.strOk x
  | n + 1, .tup xs => doks n xs
  | n + 1, .lst xs => doks n xs
  | _, _ => false
def doks : Nat → List D → Bool
  | _, [] => true
  | n, x :: xs => dok n x && doks n xs
end
mutual
theorem dok_lay : ∀ (n : Nat) (d : D), dok n d = true → PyData.canLay0 d.toP = true ∧ PyData.depth d.toP ≤ n
  | n, .non, _ => by simp [D.toP, PyData.canLay0, PyData.depth]
  | n, .bl _, _ => by simp [D.toP, PyData.canLay0, PyData.depth]
  | n, .int _, _ => by simp [D.toP, PyData.canLay0, PyData.depth]
  | n, .str x, h => by
    cases n <;> (simp only [dok] at h; simp [D.toP, PyData.canLay0, PyData.depth, h])
  | n + 1, .tup xs, h => by
    simp only [dok] at h
    have := doks_lay n xs h
    simp only [D.toP, PyData.canLay0, PyData.depth]
    exact ⟨this.1, by omega⟩
  | n + 1, .lst xs, h => by
    simp only [dok] at h
    have := doks_lay n xs h
    simp only [D.toP, PyData.canLay0, PyData.depth]
    exact ⟨this.1, by omega⟩
  | 0, .tup xs, h => by simp [dok] at h
  | 0, .lst xs, h => by simp [dok] at h
  | n, .ty _, h => by cases n <;> simp [dok] at h
  | n, .dic _ _, h => by cases n <;> simp [dok] at h
  | n, .dit _ _, h => by cases n <;> simp [dok] at h
  | n, .dkf _ _, h => by cases n <;> simp [dok] at h
  | n, .dig _ _, h => by cases n <;> simp [dok] at h
  | n, .obj _ _, h => by cases n <;> simp [dok] at h
  | n, .scr _, h => by cases n <;> simp [dok] at h
  | n, .cls _, h => by cases n <;> simp [dok] at h
theorem doks_lay : ∀ (n : Nat) (ds : List D), doks n ds = true → PyData.canLayAll0 (D.toPs ds) = true ∧ PyData.depthAll (D.toPs ds) ≤ n
  | n, [], _ => by simp [D.toPs, PyData.canLayAll0, PyData.depthAll]
  | n, x :: xs, h => by
    simp only [doks, Bool.and_eq_true] at h
    have a := dok_lay n x h.1
    have b := doks_lay n xs h.2
    simp only [D.toPs, PyData.canLayAll0, PyData.depthAll, Bool.and_eq_true]
    exact ⟨⟨a.1, b.1⟩, by omega⟩
end
mutual
theorem deq_eqv : ∀ (n m : Nat) (x y : D), dok n x = true → dok m y = true → PyData.eqv x.toP y.toP = deq x y
  | n, m, .non, y, _, h => by cases y <;> first | (simp [D.toP, PyData.eqv, deq]; done) | (cases m <;> simp [dok] at h)
  | n, m, .bl _, y, _, h => by cases y <;> first | (simp [D.toP, PyData.eqv, deq]; done) | (cases m <;> simp [dok] at h)
  | n, m, .int _, y, _, h => by cases y <;> first | (simp [D.toP, PyData.eqv, deq]; done) | (cases m <;> simp [dok] at h)
  | n, m, .str _, y, _, h => by cases y <;> first | (simp [D.toP, PyData.eqv, deq]; done) | (cases m <;> simp [dok] at h)
  | n + 1, m, .tup xs, y, h1, h => by
    cases y with
    | tup ys =>
      cases m with
      | zero => simp [dok] at h
      | succ m =>
        simp only [dok] at h h1
        simp only [D.toP, PyData.eqv, deq]
        exact deqs_eqv n m xs ys h1 h
    | _ => first | (simp [D.toP, PyData.eqv, deq]; done) | (cases m <;> simp [dok] at h)
  | n + 1, m, .lst xs, y, h1, h => by
    cases y with
    | lst ys =>
      cases m with
      | zero => simp [dok] at h
      | succ m =>
        simp only [dok] at h h1
        simp only [D.toP, PyData.eqv, deq]
        exact deqs_eqv n m xs ys h1 h
    | _ => first | (simp [D.toP, PyData.eqv, deq]; done) | (cases m <;> simp [dok] at h)
  | 0, _, .tup xs, _, h, _ => by simp [dok] at h
  | 0, _, .lst xs, _, h, _ => by simp [dok] at h
  | n, _, .ty _, _, h, _ => by cases n <;> simp [dok] at h
  | n, _, .dic _ _, _, h, _ => by cases n <;> simp [dok] at h
  | n, _, .dit _ _, _, h, _ => by cases n <;> simp [dok] at h
  | n, _, .dkf _ _, _, h, _ => by cases n <;> simp [dok] at h
  | n, _, .dig _ _, _, h, _ => by cases n <;> simp [dok] at h
  | n, _, .obj _ _, _, h, _ => by cases n <;> simp [dok] at h
  | n, _, .scr _, _, h, _ => by cases n <;> simp [dok] at h
  | n, _, .cls _, _, h, _ => by cases n <;> simp [dok] at h
theorem deqs_eqv : ∀ (n m : Nat) (xs ys : List D), doks n xs = true → doks m ys = true → PyData.eqvAll (D.toPs xs) (D.toPs ys) = deqs xs ys
  | n, m, [], [], _, _ => by simp [D.toPs, PyData.eqvAll, deqs]
  | n, m, [], _ :: _, _, _ => by simp [D.toPs, PyData.eqvAll, deqs]
  | n, m, _ :: _, [], _, _ => by simp [D.toPs, PyData.eqvAll, deqs]
  | n, m, x :: xs, y :: ys, h1, h2 => by
    simp only [doks, Bool.and_eq_true] at h1 h2
    simp only [D.toPs, PyData.eqvAll, deqs]
    rw [deq_eqv n m x y h1.1 h2.1, deqs_eqv n m xs ys h1.2 h2.2]
end
mutual
theorem RD.dp {k : Kn} {H : Hp} : ∀ {d : D} {v : V} (n : Nat), RD k H d v → dok n d = true → Dp k.K H v d.toP
  | _, _, _, .non, _ => by simp only [D.toP]; exact .non
  | _, _, _, .bl b, _ => by simp only [D.toP]; exact .bl b
  | _, _, _, .int b, _ => by simp only [D.toP]; exact .int b
  | _, _, _, .str b, _ => by simp only [D.toP]; exact .str b
  | _, _, n, .tup h r, e => by
    cases n with
    | zero => simp [dok] at e
    | succ n => simp only [dok] at e; simp only [D.toP]; exact .tup h.t (RDs.dp n r e)
  | _, _, n, .lst h r, e => by
    cases n with
    | zero => simp [dok] at e
    | succ n => simp only [dok] at e; simp only [D.toP]; exact .lst (SqL.of h) (RDs.dp n r e)
  | _, _, n, .ty _, e => by cases n <;> simp [dok] at e
  | _, _, n, .scr _, e => by cases n <;> simp [dok] at e
  | _, _, n, .cls _, e => by cases n <;> simp [dok] at e
  | _, _, n, .dic _ _ _, e => by cases n <;> simp [dok] at e
  | _, _, n, .dit _ _ _, e => by cases n <;> simp [dok] at e
  | _, _, n, .dkf _ _ _, e => by cases n <;> simp [dok] at e
  | _, _, n, .dig _ _ _ _, e => by cases n <;> simp [dok] at e
  | _, _, n, .obj _ _ _, e => by cases n <;> simp [dok] at e
theorem RDs.dp {k : Kn} {H : Hp} : ∀ {ds : List D} {vs : List V} (n : Nat), RDs k H ds vs → doks n ds = true → DpAll k.K H vs (D.toPs ds)
  | _, _, _, .nil, _ => by simp only [D.toPs]; exact .nil
  | _, _, n, .cons a b, e => by
    simp only [doks, Bool.and_eq_true] at e
    simp only [D.toPs]
    exact .cons (RD.dp n a e.1) (RDs.dp n b e.2)
end
theorem dok_shaped {d : D} (h : dok 60 d = true) : SeqAt.shaped d.toP = true := by
  have := dok_lay 60 d h
  unfold SeqAt.shaped
  simp only [this.1, Bool.true_and, decide_eq_true_eq]
  omega
def eqD (a b : D) : R D := if dok 60 a && dok 60 b then .ok (.bl (deq a b)) else .fail
def neD (a b : D) : R D := if dok 60 a && dok 60 b then .ok (.bl (!deq a b)) else .fail
section
variable {X : Cx} {k : Kn}
theorem o_eq (hk : k.K = X.K) (hu : X.A.units + 64 < cLine) : Op2 X k (compareOp .Eq) .st eqD := by
  refine ⟨_, op_eqD hu, ?_⟩
  intro G H x y u v d e nx ny hg Q q
  unfold eqD at hg
  split at hg
  · rename_i h
    simp only [Bool.and_eq_true] at h
    cases hg
    refine ⟨x.toP, y.toP, hk ▸ (nx.rd e).dp 60 h.1, hk ▸ (ny.rd e).dp 60 h.2, dok_shaped h.1, dok_shaped h.2, ?_⟩
    rw [deq_eqv 60 60 x y h.1 h.2]
    exact q _ G H (Step.refl e) (.bl _)
  · cases hg
theorem o_ne (hk : k.K = X.K) (hu : X.A.units + 64 < cLine) : Op2 X k (compareOp .NotEq) .st neD := by
  refine ⟨_, op_neD hu, ?_⟩
  intro G H x y u v d e nx ny hg Q q
  unfold neD at hg
  split at hg
  · rename_i h
    simp only [Bool.and_eq_true] at h
    cases hg
    refine ⟨x.toP, y.toP, hk ▸ (nx.rd e).dp 60 h.1, hk ▸ (ny.rd e).dp 60 h.2, dok_shaped h.1, dok_shaped h.2, ?_⟩
    rw [deq_eqv 60 60 x y h.1 h.2]
    exact q _ G H (Step.refl e) (.bl _)
  · cases hg
def addD : D → D → R D
  | .int i, .int j => .ok (.int (i + j))
  | .str x, .str y => if x.length + y.length ≤ sizeLine then .ok (.str (x ++ y)) else .fail
  | .lst xs, .lst ys => if xs.length + ys.length ≤ sizeLine then .ok (.lst (xs ++ ys)) else .fail
  | .tup xs, .tup ys => if xs.length + ys.length ≤ sizeLine then .ok (.tup (xs ++ ys)) else .fail
  | _, _ => .fail
theorem o_add (hk : k.K = X.K) : Op2 X k (binaryOp .Add) .st addD := by
  refine ⟨_, op_add.or (op_add_str.or (op_cat.or op_catA)), ?_⟩
  intro G H x y u v d e nx ny hg Q q
  unfold addD at hg
  split at hg
  · cases hg; obtain rfl := nx.int; obtain rfl := ny.int
    exact .inl ⟨_, _, rfl, rfl, q _ G H (Step.refl e) (.int _)⟩
  · split at hg
    · rename_i hl
      cases hg; obtain rfl := nx.str; obtain rfl := ny.str
      exact .inr (.inl ⟨_, _, rfl, rfl, hl, q _ G H (Step.refl e) (.str _)⟩)
    · cases hg
  · split at hg
    · rename_i hl
      cases hg
      obtain ⟨a, vs, rfl, ha, ra⟩ := nx.lst e
      obtain ⟨b, us, rfl, hb, rb⟩ := ny.lst e
      exact .inr (.inr (.inl ⟨a, b, vs, us, rfl, rfl, ha, hb, by rw [← ra.length, ← rb.length]; exact hl, fun p hp => q _ _ _ (Step.new e hp) (.lst upd_same ((ra.append rb).mono (Ex.new (e.free hp))))⟩))
    · cases hg
  · split at hg
    · rename_i hl
      cases hg
      obtain ⟨a, vs, rfl, ha, ra⟩ := nx.tup
      obtain ⟨b, us, rfl, hb, rb⟩ := ny.tup
      refine .inr (.inr (.inr ⟨a, b, vs, us, rfl, rfl, hk ▸ e.sqT ha.t, hk ▸ e.sqT hb.t, by rw [← ra.length, ← rb.length]; exact hl, fun z => ?_, fun z1 z2 => ?_, fun _ _ p hp => q _ _ _ (Step.new e hp) (.tup (SqU.of upd_same) ((ra.append rb).mono (Ex.new (e.free hp))))⟩))
      · subst z; cases ra; exact q _ _ _ (Step.refl e) (.tup hb rb)
      · subst z2; cases rb; rw [List.append_nil] at q; exact q _ _ _ (Step.refl e) (.tup ha ra)
    · cases hg
  · cases hg
theorem o_int {f : Value → Value → Sem Value} {C : Int → Int → Prop} [∀ i j, Decidable (C i j)] {gv : Int → Int → V} {gd : Int → Int → D} (h : OpR X f (rI C gv)) (r : ∀ i j G, RD k G (gd i j) (gv i j)) :
    Op2 X k f .st (fun x y => match x, y with | .int i, .int j => if C i j then .ok (gd i j) else .fail | _, _ => .fail) := by
  refine ⟨_, h, ?_⟩
  intro G H x y u v d e nx ny hg Q q
  dsimp only at hg
  split at hg
  · split at hg
    · rename_i hc
      cases hg; obtain rfl := nx.int; obtain rfl := ny.int
      exact ⟨_, _, rfl, rfl, hc, q _ G H (Step.refl e) (r _ _ _)⟩
    · cases hg
  · cases hg
theorem o_int0 {f : Value → Value → Sem Value} {gv : Int → Int → V} {gd : Int → Int → D} (h : OpR X f (rI0 gv)) (r : ∀ i j G, RD k G (gd i j) (gv i j)) :
    Op2 X k f .st (fun x y => match x, y with | .int i, .int j => .ok (gd i j) | _, _ => .fail) := by
  refine ⟨_, h, ?_⟩
  intro G H x y u v d e nx ny hg Q q
  dsimp only at hg
  split at hg
  · cases hg; obtain rfl := nx.int; obtain rfl := ny.int
    exact ⟨_, _, rfl, rfl, q _ G H (Step.refl e) (r _ _ _)⟩
  · cases hg
def subD : D → D → R D := fun x y => match x, y with | .int i, .int j => .ok (.int (i - j)) | _, _ => .fail
theorem o_sub : Op2 X k (binaryOp .Sub) .st subD := o_int0 op_sub fun _ _ _ => .int _
instance (i j : Int) : Decidable (CMul i j) := by unfold CMul; exact inferInstance
instance (i j : Int) : Decidable (CMulX i j) := by unfold CMulX; exact inferInstance
instance (i j : Int) : Decidable (CDiv i j) := by unfold CDiv; exact inferInstance
instance (i j : Int) : Decidable (CPow i j) := by unfold CPow; exact inferInstance
def fdivD : D → D → R D := fun x y => match x, y with | .int i, .int j => if CDiv i j then .ok (.int (i / j)) else .fail | _, _ => .fail
theorem o_fdiv : Op2 X k (binaryOp .FloorDiv) .st fdivD := o_int op_fdiv fun _ _ _ => .int _
def modD : D → D → R D := fun x y => match x, y with | .int i, .int j => if 0 < j then .ok (.int (i % j)) else .fail | _, _ => .fail
theorem o_mod : Op2 X k (binaryOp .Mod) .st modD := o_int (C := fun _ j => 0 < j) op_mod fun _ _ _ => .int _
def powD : D → D → R D := fun x y => match x, y with | .int i, .int j => if CPow i j then .ok (.int (i ^ j.toNat)) else .fail | _, _ => .fail
def mulD : D → D → R D
  | .int i, .int j => if CMul i j ∨ CMulX i j then .ok (.int (i * j)) else .fail
  | .lst xs, .int j => if -(2 ^ 63) ≤ j ∧ j < 2 ^ 63 ∧ xs.length * j.toNat ≤ sizeLine then .ok (.lst (List.replicate j.toNat xs).flatten) else .fail
  | .tup xs, .int j => if xs ≠ [] ∧ 2 ≤ j ∧ j ≤ 1000 ∧ xs.length ≤ 1000 then .ok (.tup (List.replicate j.toNat xs).flatten) else .fail
  | _, _ => .fail
theorem RDs.rep {G : Hp} {ds : List D} {vs : List V} (r : RDs k G ds vs) : ∀ n : Nat, RDs k G (List.replicate n ds).flatten (List.replicate n vs).flatten
  | 0 => by simpa using .nil
  | n + 1 => by rw [List.replicate_succ, List.replicate_succ, List.flatten_cons, List.flatten_cons]; exact r.append (RDs.rep r n)
theorem o_mul (hk : k.K = X.K) : Op2 X k (binaryOp .Mult) .st mulD := by
  refine ⟨_, (op_mul.or op_mulX).or (op_rep.or op_repT), ?_⟩
  intro G H x y u v d e nx ny hg Q q
  unfold mulD at hg
  split at hg
  · split at hg
    · rename_i hc
      cases hg; obtain rfl := nx.int; obtain rfl := ny.int
      rcases hc with hc | hc
      · exact .inl (.inl ⟨_, _, rfl, rfl, hc, q _ G H (Step.refl e) (.int _)⟩)
      · exact .inl (.inr ⟨_, _, rfl, rfl, hc, q _ G H (Step.refl e) (.int _)⟩)
    · cases hg
  · split at hg
    · rename_i hc
      cases hg; obtain rfl := ny.int
      obtain ⟨a, vs, rfl, ha, ra⟩ := nx.lst e
      exact .inr (.inl ⟨a, _, vs, rfl, rfl, ha, hc.1, hc.2.1, by rw [← ra.length]; exact hc.2.2, fun p hp => q _ _ _ (Step.new e hp) (.lst upd_same ((ra.rep _).mono (Ex.new (e.free hp))))⟩)
    · cases hg
  · split at hg
    · rename_i hc
      cases hg; obtain rfl := ny.int
      obtain ⟨a, vs, rfl, ha, ra⟩ := nx.tup
      exact .inr (.inr ⟨a, _, vs, rfl, rfl, hk ▸ e.sqT ha.t, fun z => hc.1 (by subst z; cases ra; rfl), hc.2.1, hc.2.2.1, by rw [← ra.length]; exact hc.2.2.2, fun p hp => q _ _ _ (Step.new e hp) (.tup (SqU.of upd_same) ((ra.rep _).mono (Ex.new (e.free hp))))⟩)
    · cases hg
  · cases hg
def ltD : D → D → R D := fun x y => match x, y with | .int i, .int j => .ok (.bl (decide (i < j))) | _, _ => .fail
theorem o_lt : Op2 X k (compareOp .Lt) .st ltD := o_int0 op_lt fun _ _ _ => .bl _
def leD : D → D → R D := fun x y => match x, y with | .int i, .int j => .ok (.bl (decide (i ≤ j))) | _, _ => .fail
theorem o_le : Op2 X k (compareOp .LtE) .st leD := o_int0 op_le fun _ _ _ => .bl _
def gtD : D → D → R D := fun x y => match x, y with | .int i, .int j => .ok (.bl (decide (j < i))) | _, _ => .fail
theorem o_gt : Op2 X k (compareOp .Gt) .st gtD := o_int0 op_gt fun _ _ _ => .bl _
def geD : D → D → R D := fun x y => match x, y with | .int i, .int j => .ok (.bl (decide (j ≤ i))) | _, _ => .fail
theorem o_ge : Op2 X k (compareOp .GtE) .st geD := o_int0 op_ge fun _ _ _ => .bl _
def negD : D → R D := fun x => match x with | .int i => .ok (.int (-i)) | _ => .fail
theorem o_neg : Un1 X k (unaryOp .USub) negD := by
  refine ⟨_, un_neg, ?_⟩
  intro G H x u d e nx hg Q q
  unfold negD at hg
  split at hg
  · cases hg; obtain rfl := nx.int
    exact ⟨_, rfl, q _ G H (Step.refl e) (.int _)⟩
  · cases hg
def D.isNon : D → Bool
  | .non => true
  | _ => false
def isD : D → D → R D := fun x y => match y with | .non => .ok (.bl x.isNon) | _ => .fail
theorem Now.isNon {G H : Hp} {x : D} {u : V} (n : Now k G H x u) : decide (u = V.non) = x.isNon := by
  rcases n with n | ⟨a, o, rfl, h, ct⟩
  · cases n <;> simp [D.isNon]
  · cases ct <;> simp [D.isNon]
theorem o_is : Op2 X k (compareOp .Is) .st isD := by
  refine ⟨_, op_isN, ?_⟩
  intro G H x y u v d e nx ny hg Q q
  unfold isD at hg
  split at hg
  · cases hg; obtain rfl := ny.non
    exact ⟨rfl, by rw [nx.isNon]; exact q _ G H (Step.refl e) (.bl _)⟩
  · cases hg
def isntD : D → D → R D := fun x y => match y with | .non => .ok (.bl (!x.isNon)) | _ => .fail
theorem o_isnt : Op2 X k (compareOp .IsNot) .st isntD := by
  refine ⟨_, op_notN, ?_⟩
  intro G H x y u v d e nx ny hg Q q
  unfold isntD at hg
  split at hg
  · cases hg; obtain rfl := ny.non
    exact ⟨rfl, by rw [nx.isNon]; exact q _ G H (Step.refl e) (.bl _)⟩
  · cases hg
theorem RDs.atI {G : Hp} {ds : List D} {vs : List V} {i : Int} {d : D} (r : RDs k G ds vs) (h : L2.atI ds i = some d) : ∃ v, L2.atI vs i = some v ∧ RD k G d v := by
  unfold L2.atI at h ⊢
  rw [← r.length]
  cases e : ixN ds.length i with
  | none => rw [e] at h; cases h
  | some j => rw [e] at h; exact r.get h
def ixD : D → D → R D
  | .lst xs, .int i => match L2.atI xs i with | some d => .ok d | none => .fail
  | .tup xs, .int i => match L2.atI xs i with | some d => .ok d | none => .fail
  | .scr ns, .int i => match L2.atI ns i with | some d => .ok (.int d) | none => .fail
  | .str x, .int i => if x.length ≤ sizeLine then match L2.atI x.cps.toList i with | some c => .ok (.str ⟨#[c]⟩) | none => .fail else .fail
  | _, _ => .fail
theorem IxR.or {r r' : R2} (h : IxR X r) (h' : IxR X r') : IxR X (fun x y H Q => r x y H Q ∨ r' x y H Q) := fun v sl pins s σ H x y u w Q I rx ry q hs => by
  rcases q with q | q
  · exact h v sl pins s σ H x y u w Q I rx ry q hs
  · exact h' v sl pins s σ H x y u w Q I rx ry q hs
theorem atI_map {α β : Type} (f : α → β) (xs : List α) (i : Int) : L2.atI (xs.map f) i = (L2.atI xs i).map f := by
  unfold L2.atI
  rw [List.length_map]
  cases ixN xs.length i with
  | none => rfl
  | some j => simp
theorem o_ix (hk : k.K = X.K) : Ix2 X k ixD := by
  refine ⟨_, IxR.or ix_list (IxR.or ix_tup ix_str), ?_⟩
  intro G H x y u v d e nx ny hg Q q
  unfold ixD at hg
  split at hg
  · split at hg
    · rename_i d' hd
      cases hg; obtain rfl := ny.int
      obtain ⟨a, vs, rfl, ha, ra⟩ := nx.lst e
      obtain ⟨w, h1, h2⟩ := ra.atI hd
      exact .inl ⟨a, vs, _, w, rfl, rfl, SqL.of ha, h1, q _ G H (Step.refl e) h2⟩
    · cases hg
  · split at hg
    · rename_i d' hd
      cases hg; obtain rfl := ny.int
      obtain ⟨a, vs, rfl, ha, ra⟩ := nx.tup
      obtain ⟨w, h1, h2⟩ := ra.atI hd
      exact .inr (.inl ⟨a, vs, _, w, rfl, rfl, hk ▸ e.sqT ha.t, h1, q _ G H (Step.refl e) h2⟩)
    · cases hg
  · split at hg
    · rename_i d' hd
      cases hg; obtain rfl := ny.int
      obtain ⟨a, rfl, ha⟩ := nx.scr
      exact .inl ⟨a, _, _, .int d', rfl, rfl, hk ▸ e.sqL ha, by rw [atI_map, hd]; rfl, q _ G H (Step.refl e) (.int _)⟩
    · cases hg
  · split at hg
    · rename_i hl
      split at hg
      · rename_i d' hd
        cases hg; obtain rfl := ny.int; obtain rfl := nx.str
        exact .inr (.inr ⟨_, _, d', rfl, rfl, hl, hd, q _ G H (Step.refl e) (.str _)⟩)
      · cases hg
    · cases hg
  · cases hg
end
end M
set_option Elab.async false
set_option linter.all false
set_option maxRecDepth 100000
set_option maxHeartbeats 4000000
namespace M
open PySem L2
section
variable {X : Cx} {c : Cf} {kd k1 k2 k3 : Kd} {a b e : Expr} {f g h : FE} {pos : Pos}
def toB : D → R Bool
  | .bl b => .ok b
  | _ => .fail
def tB' (f : FE) : FT := fun S => f S >>= toB
def truD : D → R Bool
  | .non => .ok false
  | .bl b => .ok b
  | .int i => .ok (i != 0)
  | .str x => if x.length ≤ sizeLine then .ok (x.length != 0) else .fail
  | .tup xs => .ok (!xs.isEmpty)
  | .lst xs => .ok (!xs.isEmpty)
  | .dic ks _ => .ok (!ks.isEmpty)
  | _ => .fail
def tT' (f : FE) : FT := fun S => f S >>= truD
theorem Now.toB {k : Kn} {G H : Hp} {d : D} {v : V} {b : Bool} (n : Now k G H d v) (h : toB d = .ok b) : v = .bl b := by
  cases d <;> simp only [M.toB] at h <;> first | (cases h; done) | (cases h; exact n.bl)
theorem Nows.isEmpty {k : Kn} {G : Hp} {ds : List D} {vs : List V} (r : RDs k G ds vs) : (!ds.isEmpty) = !vs.isEmpty := by
  cases r <;> rfl
theorem Now.tru {k : Kn} {G H : Hp} {d : D} {v : V} {b : Bool} (e : Ex G H) (n : Now k G H d v) (h : truD d = .ok b) : TruV k.K v H b := by
  unfold truD at h
  split at h
  · cases h; obtain rfl := n.non; rfl
  · cases h; obtain rfl := n.bl; rfl
  · cases h; obtain rfl := n.int; rfl
  · split at h
    · rename_i hl
      cases h; obtain rfl := n.str
      exact ⟨hl, by simp [bne, BEq.beq]⟩
    · cases h
  · cases h; obtain ⟨p, vs, rfl, hp, r⟩ := n.tup
    exact .inr (.inl ⟨vs, e.sqT hp.t, Nows.isEmpty r⟩)
  · cases h; obtain ⟨p, vs, rfl, hp, r⟩ := n.lst e
    exact .inl ⟨vs, SqL.of hp, Nows.isEmpty r⟩
  · cases h; obtain ⟨p, vs, rfl, hp, l, r⟩ := n.dic e
    refine .inr (.inr ⟨_, hp, ?_⟩)
    have l2 := r.length
    rename_i ks ds
    cases ks with
    | nil => rfl
    | cons x xs =>
      cases vs with
      | nil => simp at l2; subst l2; simp at l
      | cons y ys => rfl
  · cases h
theorem d_tt {kd : Kd} (hk : c.k.K = X.K) (ha : PE' X c kd a f) (he : ∀ whole, isTrue a X.env whole = (do let v ← whole; standAt a.pos; holding [v] (truthy v)) := by intro _; rfl) : PT' X c a (tT' f) :=
  ptI (pt_truth ha he) fun σ H Q ⟨G, S, rel, p⟩ => by
    refine rdE_go (g := truD) (Post := PostT c G S σ H Q) rel p (fun _ z => z) (fun z => z) fun d v G' H' s q p1 => ?_
    cases e1 : truD d with
    | ok b => rw [e1] at p1; exact ⟨b, hk ▸ q.now.tru s.gh e1, p1 G' H' s⟩
    | exc x => cases d <;> simp only [truD] at e1 <;> first | (cases e1; done) | (split at e1 <;> cases e1)
    | fail => rw [e1] at p1; exact p1.elim
theorem tB_go {t : TE} {σ : St} {H : Hp} {Q : Bool → Hp → Prop} (ht : ∀ σ H Q, RdE c .st f σ H Q → t σ H Q) (q : RdT c (tB' f) σ H Q) : t σ H fun x H' => ∃ k, x = .bl k ∧ Q k H' := by
  obtain ⟨G, S, rel, p⟩ := q
  refine ht σ H _ (rdE_go (g := toB) (Post := PostT c G S σ H Q) rel p (fun _ z => z) (fun z => z) fun d v G' H' s q p1 => ?_)
  cases e1 : toB d with
  | ok b => rw [e1] at p1; exact ⟨b, q.now.toB e1, p1 G' H' s⟩
  | exc x => cases d <;> simp only [toB] at e1 <;> cases e1
  | fail => rw [e1] at p1; exact p1.elim
theorem d_tc {op : CmpOp} {o : D → D → R D} (ho : Op2 X c.k (compareOp op) .st o) (ha : PE' X c k1 a f) (hb : PE' X c k2 b g) (hm : behindInMarks op b = false := by rfl) : PT' X c (.Compare a [op] [b] pos) (tB' (e2 o f g)) := by
  obtain ⟨r, h1, h2⟩ := ho
  exact ptI (pt_cmpR h1 ha hb hm) fun σ H Q q => tB_go (t := tOp r (RdE c k1 f) (RdE c k2 g)) (fun σ H Q q => e2_go h2 q) q
def e3 (o o' : D → D → R D) (f g h : FE) : FE := fun S => do
  let x ← f S
  let y ← g S
  let b ← (o x y).nox
  let b ← toB b
  if b then do
    let z ← h S
    (o' y z).nox
  else .ok (.bl false)
theorem e3_go {o o' : D → D → R D} {r r' : R2} {σ : St} {H : Hp} {Q : VK} (hr : ∀ G H x y u v d, Ex G H → Now c.k G H x u → Now c.k G H y v → o x y = .ok d → ∀ Q : VK, (∀ w G' H', Step G H G' H' → Res c.k H G' H' d w .st → Q w H') → r u v H Q)
    (hr' : ∀ G H x y u v d, Ex G H → Now c.k G H x u → Now c.k G H y v → o' x y = .ok d → ∀ Q : VK, (∀ w G' H', Step G H G' H' → Res c.k H G' H' d w .st → Q w H') → r' u v H Q)
    (q : RdE c .st (e3 o o' f g h) σ H Q) : tChain r r' (RdE c k1 f) (RdE c k2 g) (RdE c k3 h) σ H Q := by
  obtain ⟨G, S, rel, p⟩ := q
  refine rdE_go (g := fun x => do let y ← g S; let b ← (o x y).nox; let b ← toB b; if b then do { let z ← h S; (o' y z).nox } else .ok (.bl false)) (Post := PostE c .st G S σ H Q) rel p (fun _ z => z) (fun z => z) fun d1 v1 G1 H1 s1 q1 p1 => ?_
  refine rdE_go (g := fun y => do let b ← (o d1 y).nox; let b ← toB b; if b then do { let z ← h S; (o' y z).nox } else .ok (.bl false)) (Post := PostE c .st G S σ H Q) (rel.grow s1) p1 (fun _ z => z) (fun z => z) fun d2 v2 G2 H2 s2 q2 p2 => ?_
  cases eo : o d1 d2 with
  | exc x => rw [eo] at p2; exact p2.elim
  | fail => rw [eo] at p2; exact p2.elim
  | ok db =>
    rw [eo] at p2
    refine hr G2 H2 d1 d2 v1 v2 db s2.gh (q1.now.grow s2) q2.now eo _ fun w G3 H3 s3 q3 => ?_
    cases eb : toB db with
    | exc x => cases db <;> simp only [toB] at eb <;> cases eb
    | fail => simp only [R.nox_ok, R.ok_bind, eb, R.fail_bind] at p2; exact p2.elim
    | ok kb =>
      simp only [R.nox_ok, R.ok_bind, eb] at p2
      refine ⟨kb, (Res.now (kd := .st) q3).toB eb, ?_⟩
      cases kb with
      | false =>
        rw [if_neg Bool.false_ne_true] at p2 ⊢
        exact p2 _ G3 H3 ((s1.trans s2).trans s3) (.bl _)
      | true =>
        rw [if_pos rfl] at p2 ⊢
        refine rdE_go (g := fun z => (o' d2 z).nox) (Post := PostE c .st G S σ H Q) (((rel.grow s1).grow s2).grow s3) p2 (fun _ z => z) (fun z => z) fun d4 v4 G4 H4 s4 q4 p4 => ?_
        cases eo' : o' d2 d4 with
        | exc x => rw [eo'] at p4; exact p4.elim
        | fail => rw [eo'] at p4; exact p4.elim
        | ok dr =>
          rw [eo'] at p4
          exact hr' G4 H4 d2 d4 v2 v4 dr s4.gh (q2.now.grow (s3.trans s4)) q4.now eo' Q fun w' G5 H5 s5 q5 => p4 w' G5 H5 ((((s1.trans s2).trans s3).trans s4).trans s5) q5
theorem d_tch {op op' : CmpOp} {cc : Expr} {o o' : D → D → R D} (ho : Op2 X c.k (compareOp op) .st o) (ho' : Op2 X c.k (compareOp op') .st o') (ha : PE' X c k1 a f) (hb : PE' X c k2 b g) (hc : PE' X c k3 cc h)
    (hm : lastMarks [op, op'] [b, cc] = false := by with_unfolding_all rfl) : PT' X c (.Compare a [op, op'] [b, cc] pos) (tB' (e3 o o' f g h)) := by
  obtain ⟨r, h1, h2⟩ := ho
  obtain ⟨r', h1', h2'⟩ := ho'
  exact ptI (pt_chain h1 h1' ha hb hc hm) fun σ H Q q => tB_go (t := tChain r r' (RdE c k1 f) (RdE c k2 g) (RdE c k3 h)) (fun σ H Q q => e3_go h2 h2' q) q
def tNo (t : FT) : FT := fun S => t S >>= fun b => .ok (!b)
def tA (t u : FT) : FT := fun S => t S >>= fun b => if b then u S else .ok false
def tO (t u : FT) : FT := fun S => t S >>= fun b => if b then .ok true else u S
variable {t u : FT}
theorem d_not (ha : PT' X c a t) : PT' X c (.UnaryOp .Not a pos) (tNo t) :=
  ptI (pt_not ha) fun σ H Q ⟨G, S, rel, p⟩ => rdT_go (g := fun b => .ok (!b)) (Post := PostT c G S σ H Q) rel p (fun _ z => z) (fun z => z) fun b G' H' s p1 => p1 G' H' s
abbrev PW' (X : Cx) (c : Cf) (e : Expr) (f : FT) : Prop := PW X e (RdT c f)
theorem PostT.grow {G H G' H' : Hp} {S : Env} {σ : St} {Q : Bool → Hp → Prop} {r : R Bool} (s : Step G H G' H') (p : PostT c G S σ H Q r) : PostT c G' S σ H' Q r := by
  cases r with
  | ok b => exact fun G2 H2 s2 => p G2 H2 (s.trans s2)
  | exc x => exact p
  | fail => exact p
theorem PostE.grow {G H G' H' : Hp} {S : Env} {σ : St} {Q : VK} {r : R D} (s : Step G H G' H') (p : PostE c kd G S σ H Q r) : PostE c kd G' S σ H' Q r := by
  cases r with
  | ok b => exact fun v G2 H2 s2 q => p v G2 H2 (s.trans s2) (q.mono s.h)
  | exc x => exact p
  | fail => exact p
theorem d_and1 (ha : PT' X c a t) : PW' X c (.BoolOp .And [a] pos) t := pw_and1 ha
theorem d_or1 (ha : PT' X c a t) : PW' X c (.BoolOp .Or [a] pos) t := pw_or1 ha
theorem d_and {rest : List Expr} (ha : PT' X c a t) (hb : PW' X c (.BoolOp .And (b :: rest) pos) u) : PW' X c (.BoolOp .And (a :: b :: rest) pos) (tA t u) :=
  pwI (pw_and ha hb) fun σ H Q ⟨G, S, rel, p⟩ => rdT_go (g := fun b => if b then u S else .ok false) (Post := PostT c G S σ H Q) rel p (fun _ z => z) (fun z => z) fun b G' H' s p1 => by
    cases b with
    | true => exact ⟨G', S, rel.grow s, PostT.grow s p1⟩
    | false => exact p1 G' H' s
theorem d_or {rest : List Expr} (ha : PT' X c a t) (hb : PW' X c (.BoolOp .Or (b :: rest) pos) u) : PW' X c (.BoolOp .Or (a :: b :: rest) pos) (tO t u) :=
  pwI (pw_or ha hb) fun σ H Q ⟨G, S, rel, p⟩ => rdT_go (g := fun b => if b then .ok true else u S) (Post := PostT c G S σ H Q) rel p (fun _ z => z) (fun z => z) fun b G' H' s p1 => by
    cases b with
    | true => exact p1 G' H' s
    | false => exact ⟨G', S, rel.grow s, PostT.grow s p1⟩
theorem d_pw (h : PW' X c a t) : PT' X c a t := h.pt
def eAnd (f g : FE) : FE := fun S => f S >>= toB >>= fun b => if b then g S else .ok (.bl false)
def eOr (f g : FE) : FE := fun S => f S >>= toB >>= fun b => if b then .ok (.bl true) else g S
def eNot (f : FE) : FE := fun S => f S >>= toB >>= fun b => .ok (.bl (!b))
def eIf (t : FT) (f g : FE) : FE := fun S => t S >>= fun b => if b then f S else g S
theorem bind_toB {β : Type} (r : R D) (k : Bool → R β) : (r >>= toB >>= k) = r >>= fun d => toB d >>= k := by cases r <;> rfl
theorem d_vone {op} (h : PE' X c .st a f) : PE' X c .st (.BoolOp op [a] pos) f := pe_one h
theorem d_vand {rest : List Expr} (ha : PE' X c .st a f) (hb : PE' X c .st (.BoolOp .And (b :: rest) pos) g) : PE' X c .st (.BoolOp .And (a :: b :: rest) pos) (eAnd f g) :=
  peI (pe_and ha hb) fun σ H Q ⟨G, S, rel, p⟩ => by
    unfold eAnd at p
    rw [bind_toB] at p
    refine rdE_go (Post := PostE c .st G S σ H Q) rel p (fun _ z => z) (fun z => z) fun d v G' H' s q p1 => ?_
    cases d with
    | bl k =>
      refine ⟨k, (Res.now (kd := .st) q).bl, ?_⟩
      cases k with
      | true => exact ⟨G', S, rel.grow s, PostE.grow s p1⟩
      | false => exact p1 _ G' H' s (.bl _)
    | _ => exact p1.elim
theorem d_vnot (ha : PE' X c .st a f) : PE' X c .st (.UnaryOp .Not a pos) (eNot f) :=
  peI (pe_not ha) fun σ H Q ⟨G, S, rel, p⟩ => by
    unfold eNot at p
    rw [bind_toB] at p
    refine rdE_go (Post := PostE c .st G S σ H Q) rel p (fun _ z => z) (fun z => z) fun d v G' H' s q p1 => ?_
    cases d with
    | bl k => exact ⟨k, (Res.now (kd := .st) q).bl, p1 _ G' H' s (.bl _)⟩
    | _ => exact p1.elim
end
end M
set_option Elab.async false
set_option linter.all false
set_option maxRecDepth 100000
set_option maxHeartbeats 4000000
namespace M
open PySem L2
abbrev PS' (X : Cx) (c : Cf) (fr : Bool) (as : List Nat) (st : Stmt) (s : FS) : Prop := PS X st (RdS c fr as s)
abbrev PB' (X : Cx) (c : Cf) (fr : Bool) (as : List Nat) (st : List Stmt) (s : FS) : Prop := PSs X st (RdS c fr as s)
section
variable {X : Cx} {c : Cf} {kd k1 k2 k3 : Kd} {a b e : Expr} {f g h : FE} {t u : FT} {pos : Pos} {fr : Bool} {as bs : List Nat} {s r : FS} {st : Stmt} {sts : List Stmt}
theorem PostS.mv {G G' H H' : Hp} {S S' : Env} {σ σ' : St} {Dn : Ends} {q : R (Fl × Env)} (hg : Ex G G') (fm : Frm as S σ H S' σ' H') (hs : ∀ i, i ∈ as ++ bs → i ∈ as ∨ i ∈ bs) (p : PostS c fr (as ++ bs) G S σ H Dn q) : PostS c fr bs G' S' σ' H' Dn q := by
  cases q with
  | exc x => exact p
  | fail => exact p
  | ok z =>
    obtain ⟨fl, S2⟩ := z
    cases fl with
    | nx => exact fun G2 σ2 H2 e r2 f2 => p G2 σ2 H2 (hg.trans e) r2 (fm.trans f2)
    | bk => exact fun G2 σ2 H2 e r2 f2 => p G2 σ2 H2 (hg.trans e) r2 (fm.trans f2)
    | ct => exact fun G2 σ2 H2 e r2 f2 => p G2 σ2 H2 (hg.trans e) r2 (fm.trans f2)
    | rt d => exact fun v G2 H2 st rv ow => p v G2 H2 st rv (ow.mv fm)
theorem PostS.sub {as' : List Nat} {G H : Hp} {S : Env} {σ : St} {Dn : Ends} {q : R (Fl × Env)} (hs : ∀ i, i ∈ as' → i ∈ as) (p : PostS c fr as G S σ H Dn q) : PostS c fr as' G S σ H Dn q := by
  cases q with
  | exc x => exact p
  | fail => exact p
  | ok z =>
    obtain ⟨fl, S2⟩ := z
    cases fl with
    | nx => exact fun G2 σ2 H2 e r2 f2 => p G2 σ2 H2 e r2 (f2.mono hs)
    | bk => exact fun G2 σ2 H2 e r2 f2 => p G2 σ2 H2 e r2 (f2.mono hs)
    | ct => exact fun G2 σ2 H2 e r2 f2 => p G2 σ2 H2 e r2 (f2.mono hs)
    | rt d => exact fun v G2 H2 st rv ow => p v G2 H2 st rv (ow.sub hs)
theorem PostS.gr {G H G' H' : Hp} {S : Env} {σ : St} {Dn : Ends} {q : R (Fl × Env)} (rel : Rel c G S σ H) (sp : Step G H G' H') (p : PostS c fr as G S σ H Dn q) : PostS c fr as G' S σ H' Dn q :=
  PostS.mv (as := []) (bs := as) sp.g (Frm.step rel sp) (fun i h => .inr (by simpa using h)) p
def sNil : FS := fun S => .ok (.nx, S)
def sBrk : FS := fun S => .ok (.bk, S)
def sSeq (s r : FS) : FS := fun S => s S >>= fun z => match z.1 with | .nx => r z.2 | _ => .ok z
def sSet (i : Nat) (f : FE) : FS := fun S => f S >>= fun d => .ok (.nx, S.set i (some ⟨false, d⟩))
def sOwn (i : Nat) (f : FE) : FS := fun S => f S >>= fun d => .ok (.nx, S.set i (some ⟨true, d⟩))
def sDrop (f : FE) : FS := fun S => f S >>= fun _ => .ok (.nx, S)
def sRet (f : FE) : FS := fun S => f S >>= fun d => .ok (.rt d, S)
def sRetN : FS := fun S => .ok (.rt .non, S)
def eO (i : Nat) : FE := fun S => match S[i]? with
  | some (some ⟨true, d⟩) => .ok d
  | _ => .fail
def sRetO (i : Nat) : FS := fun S => eO i S >>= fun d => .ok (.rt d, S)
def sIf (t : FT) (s r : FS) : FS := fun S => t S >>= fun b => if b then s S else r S
def sNo : FS := fun _ => .fail
def fzS (S : Env) (i : Nat) : Env := match S[i]? with
  | some (some ⟨true, d⟩) => S.set i (some ⟨false, d⟩)
  | _ => S
def sFz (i : Nat) (s : FS) : FS := fun S => s (fzS S i)
theorem b_nil : PB' X c fr [] [] sNil := pssI pss_nil fun Dn σ H ⟨G, S, rel, p⟩ => p G σ H (Ex.refl _) rel (Frm.refl _ _ _ _)
theorem s_brk : PS' X c fr [] (.Break pos) sBrk := psI ps_break fun Dn σ H ⟨G, S, rel, p⟩ => p G σ H (Ex.refl _) rel (Frm.refl _ _ _ _)
theorem b_cons (h1 : PS' X c fr as st s) (h2 : PB' X c fr bs sts r) : PB' X c fr (as ++ bs) (st :: sts) (sSeq s r) :=
  pssI (pss_cons h1 h2) fun Dn σ H ⟨G, S, rel, p⟩ => ⟨G, S, rel, by
    have p : PostS c fr (as ++ bs) G S σ H Dn (s S >>= fun z => match z.1 with | .nx => r z.2 | _ => .ok z) := p
    cases e1 : s S with
    | exc x => rw [e1] at p; exact p
    | fail => rw [e1] at p; exact p
    | ok z =>
      rw [e1] at p
      obtain ⟨fl, S1⟩ := z
      cases fl with
      | nx => exact fun G1 σ1 H1 ex r1 f1 => ⟨G1, S1, r1, PostS.mv (as := as) (bs := bs) ex f1 (fun i => List.mem_append.mp) p⟩
      | bk => exact PostS.sub (fun i q => List.mem_append_left _ q) p
      | ct => exact PostS.sub (fun i q => List.mem_append_left _ q) p
      | rt d => exact PostS.sub (fun i q => List.mem_append_left _ q) p⟩
theorem b_one (h1 : PS' X c fr as st s) : PB' X c fr as [st] s := pss_one h1
theorem s_fz (i : Nat) (h1 : PS' X c fr as st s) : PS' X c fr (i :: as) st (sFz i s) :=
  psI h1 fun Dn σ H ⟨G, S, rel, p⟩ => by
    have p : PostS c fr (i :: as) G S σ H Dn (s (fzS S i)) := p
    unfold fzS at p
    split at p
    · rename_i d hd
      obtain ⟨G', ex, rel'⟩ := rel.frz hd
      refine ⟨G', _, rel', PostS.mv (as := [i]) (bs := as) ex ⟨rfl, fun _ _ => rfl, fun j hj _ => ?_, fun _ _ _ _ _ => rfl⟩ (fun j q => by simpa using q) p⟩
      rw [List.getElem?_set_ne (fun z => hj (by simp [z]))]
    · exact ⟨G, S, rel, PostS.sub (fun j q => List.mem_cons_of_mem _ q) p⟩
abbrev PG' (X : Cx) (c : Cf) (as : List Nat) (e : Expr) (g : FG) : Prop := PG X e (RdG c as g)
abbrev FGs := List D → Env → R Env
def RdGs (c : Cf) (as : List Nat) (g : FGs) : TGs := fun vs σ H Q => ∃ G S ds, Rel c G S σ H ∧ RDs c.k G ds vs ∧ PostG c as G S σ H Q (g ds S)
abbrev PGs' (X : Cx) (c : Cf) (as : List Nat) (e : List Expr) (g : FGs) : Prop := PGs X e (RdGs c as g)
def gN (i : Nat) : FG := fun d S => .ok (S.set i (some ⟨false, d⟩))
def gsN : FGs := fun ds S => match ds with | [] => .ok S | _ => .fail
def gsC (g : FG) (r : FGs) : FGs := fun ds S => match ds with | d :: ds => g d S >>= r ds | [] => .fail
def gT (n : Nat) (r : FGs) : FG := fun d S => match d with | .tup ds => if ds.length = n then r ds S else .fail | _ => .fail
theorem Frm.set {S : Env} {σ : St} {H : Hp} (i : Nat) (x : Option Sl) (v : Option V) : Frm [i] S σ H (S.set i x) (σ.set i v) H :=
  ⟨by simp, fun j hj => List.getElem?_set_ne (fun z => hj (by simp [z])), fun j hj _ => List.getElem?_set_ne (fun z => hj (by simp [z])), fun _ _ _ _ _ => rfl⟩
theorem g_n (i : Nat) {x : Str} (hN : X.N.Nodup) (hi : X.N[i]? = some x := by rfl) (hx : Loc X.env.scope x := by first | exact Or.inl rfl | exact Or.inr rfl) (hf : X.fn x = true ∨ X.env.scope.names.lookup x = some .local := by first | exact .inl rfl | exact .inr rfl) : PG' X c [i] (.Name x pos) (gN i) :=
  pgI (pg_name hN hi hx hf) fun v σ H Q ⟨G, S, d, rel, q, p⟩ => p G _ H (Step.refl rel.st.gh) (rel.setS i q) (Frm.set i _ _)
theorem gs_n : PGs' X c [] [] gsN :=
  pgsI pgs_nil fun vs σ H Q ⟨G, S, ds, rel, q, p⟩ => by
    cases q with
    | nil => exact ⟨rfl, p G σ H (Step.refl rel.st.gh) rel (Frm.refl _ _ _ _)⟩
    | cons _ _ => exact p.elim
theorem gs_c {e : Expr} {es : List Expr} {ga : FG} {ra : FGs} (h1 : PG' X c as e ga) (h2 : PGs' X c bs es ra) (hs : (assignEach (e :: es) X.env).map (·.2) = assign e X.env :: (assignEach es X.env).map (·.2) := by rfl) : PGs' X c (as ++ bs) (e :: es) (gsC ga ra) :=
  pgsI (pgs_cons h1 h2 hs) fun vs σ H Q ⟨G, S, ds, rel, q, p⟩ => by
    cases q with
    | nil => exact p.elim
    | @cons d ds v vs q1 q2 =>
      refine ⟨v, vs, rfl, G, S, d, rel, q1, ?_⟩
      have p : PostG c (as ++ bs) G S σ H Q (ga d S >>= ra ds) := p
      cases e1 : ga d S with
      | exc x => rw [e1] at p; exact p.elim
      | fail => rw [e1] at p; exact p.elim
      | ok S1 =>
        rw [e1] at p
        refine fun G1 σ1 H1 ex r1 f1 => ⟨G1, S1, ds, r1, q2.mono ex.g, ?_⟩
        have p : PostG c (as ++ bs) G S σ H Q (ra ds S1) := p
        cases e2 : ra ds S1 with
        | exc x => rw [e2] at p; exact p.elim
        | fail => rw [e2] at p; exact p.elim
        | ok S2 => rw [e2] at p; exact fun G2 σ2 H2 ex2 r2 f2 => p G2 σ2 H2 (ex.trans ex2) r2 (f1.trans f2)
theorem g_t {es : List Expr} {k : Nat} {ra : FGs} {n : Nat} (hk : c.k.K = X.K) (hc : X.calm = true) (h : PGs' X c as es ra) (hn : (assignEach es X.env).length = n := by rfl) (hst : (assignEach es X.env).findIdx? (·.1) = none := by rfl) : PG' X c as (.Tuple es k pos) (gT n ra) :=
  pgI (pg_tup hc h hn hst) fun v σ H Q ⟨G, S, d, rel, q, p⟩ => by
    cases q with
    | @tup ds a vs hs hr =>
      have p : PostG c as G S σ H Q (if ds.length = n then ra ds S else .fail) := p
      by_cases hl : ds.length = n
      · rw [if_pos hl] at p
        exact ⟨a, vs, rfl, hk ▸ rel.st.gh.sqT hs.t, by rw [← hr.length]; exact hl, G, S, ds, rel, hr, p⟩
      · rw [if_neg hl] at p; exact p.elim
    | _ => exact p.elim
def sAsg (g : FG) (f : FE) : FS := fun S => f S >>= fun d => (g d S).nox >>= fun S' => .ok (Fl.nx, S')
theorem asg_go {ga : FG} {tg : TG} {Dn : Ends} {σ : St} {H : Hp} (hg : ∀ v σ H Q, RdG c as ga v σ H Q → tg v σ H Q) (q : RdS c fr as (sAsg ga f) Dn σ H) : RdE c .st f σ H fun x H1 => tg x σ H1 Dn.nx := by
  obtain ⟨G, S, rel, p⟩ := q
  refine rdE_go (g := fun d => (ga d S).nox >>= fun S' => .ok (Fl.nx, S')) (Post := PostS c fr as G S σ H Dn) rel p (fun _ z => z _) (fun z => z) fun d v G' H' sp q p1 => ?_
  refine hg v σ H' _ ⟨G', S, d, rel.grow sp, q, ?_⟩
  cases e1 : ga d S with
  | exc x => rw [e1] at p1; exact p1.elim
  | fail => rw [e1] at p1; exact p1.elim
  | ok S1 =>
    rw [e1] at p1
    exact fun G2 σ2 H2 ex r2 f2 => p1 G2 σ2 H2 (sp.g.trans ex.g) r2 ((Frm.step (as := []) rel sp).trans f2)
theorem s_asg {tg : Expr} {ga : FG} (he : PE' X c .st e f) (hg : PG' X c as tg ga) (hs : swapsWithSole [tg] e pos.line X.env = pure false := by rfl) (hw : swappedStores [tg] e X.env = pure none := by rfl) (h1 : (assignEach [tg] X.env).map (·.2) = [assign tg X.env] := by rfl) : PS' X c fr as (.Assign [tg] e pos) (sAsg ga f) :=
  psI (ps_asg he hg hs hw h1) fun Dn σ H q => asg_go (fun _ _ _ _ z => z) q
theorem s_set (i : Nat) {x : Str} {pos' : Pos} (hN : X.N.Nodup) (he : PE' X c .st e f) (hi : X.N[i]? = some x := by rfl) (hx : Loc X.env.scope x := by first | exact Or.inl rfl | exact Or.inr rfl) (hs : swapsWith e (some (.Name x pos')) pos.line X.env = pure false := by rfl)
    (hf : X.fn x = true ∨ X.env.scope.names.lookup x = some .local := by first | exact .inl rfl | exact .inr rfl) : PS' X c fr [i] (.Assign [.Name x pos'] e pos) (sSet i f) :=
  psI (ps_set hN hi hx he hs hf) fun Dn σ H ⟨G, S, rel, p⟩ => by
    refine rdE_go (g := fun d => .ok (Fl.nx, S.set i (some ⟨false, d⟩))) (Post := PostS c fr [i] G S σ H Dn) rel p (fun _ z => z _) (fun z => z) fun d v G' H' sp q p1 => ?_
    exact p1 G' _ H' sp.g ((rel.grow sp).setS i q) ((Frm.step (as := []) rel sp).trans (Frm.set i _ _))
theorem own_go {i : Nat} {Dn : Ends} {σ : St} {H : Hp} (q : RdS c fr [i] (sOwn i f) Dn σ H) : RdE c .fr f σ H fun x H1 => gName i x σ H1 Dn.nx := by
  obtain ⟨G, S, rel, p⟩ := q
  refine rdE_go (g := fun d => .ok (Fl.nx, S.set i (some ⟨true, d⟩))) (Post := PostS c fr [i] G S σ H Dn) rel p (fun _ z => z _) (fun z => z) fun d v G' H' sp q p1 => ?_
  obtain ⟨a, o, rfl, hg, hn, ha, ct⟩ := q
  refine p1 G' _ H' sp.g ((rel.grow sp).setO i ha hg (rel.st.h.free hn) ct (fun j ow => ?_) (fun _ _ => rfl)) ((Frm.step (as := []) rel sp).trans (Frm.set i _ _))
  obtain ⟨_, _, u, _, q, _⟩ := rel.own ow
  rw [hn] at q; cases q
theorem s_own (i : Nat) {x : Str} {pos' : Pos} (hN : X.N.Nodup) (he : PE' X c .fr e f) (hi : X.N[i]? = some x := by rfl) (hx : Loc X.env.scope x := by first | exact Or.inl rfl | exact Or.inr rfl) (hs : swapsWith e (some (.Name x pos')) pos.line X.env = pure false := by rfl)
    (hf : X.fn x = true ∨ X.env.scope.names.lookup x = some .local := by first | exact .inl rfl | exact .inr rfl) : PS' X c fr [i] (.Assign [.Name x pos'] e pos) (sOwn i f) :=
  psI (ps_set hN hi hx he hs hf) fun Dn σ H q => own_go q
theorem s_drop (he : PE' X c kd e f) (hs : swapsWith e none pos.line X.env = pure false := by rfl) : PS' X c fr [] (.Expr e pos) (sDrop f) :=
  psI (ps_expr he hs) fun Dn σ H ⟨G, S, rel, p⟩ => by
    refine rdE_go (g := fun d => .ok (Fl.nx, S)) (Post := PostS c fr [] G S σ H Dn) rel p (fun _ z => z _) (fun z => z) fun d v G' H' sp q p1 => ?_
    exact p1 G' σ H' sp.g (rel.grow sp) (Frm.step rel sp)
theorem s_ret (he : PE' X c .st e f) : PS' X c false [] (.Return (some e) pos) (sRet f) :=
  psI (ps_ret he) fun Dn σ H ⟨G, S, rel, p⟩ => by
    refine rdE_go (g := fun d => .ok (Fl.rt d, S)) (Post := PostS c false [] G S σ H Dn) rel p (fun _ z => z _) (fun z => z) fun d v G' H' sp q p1 => ?_
    exact p1 v G' H' (rel.st.trans sp) q (rel.grow sp).owR
theorem s_retF (he : PE' X c .fr e f) : PS' X c true [] (.Return (some e) pos) (sRet f) :=
  psI (ps_ret he) fun Dn σ H ⟨G, S, rel, p⟩ => by
    refine rdE_go (g := fun d => .ok (Fl.rt d, S)) (Post := PostS c true [] G S σ H Dn) rel p (fun _ z => z _) (fun z => z) fun d v G' H' sp q p1 => ?_
    obtain ⟨a, o, rfl, hg, hn, ha, ct⟩ := q
    exact p1 _ G' H' (rel.st.trans sp) ⟨a, o, rfl, hg, rel.st.h.free hn, ha, ct⟩ (rel.grow sp).owR
theorem s_retO (i : Nat) {x : Str} {p' : Pos} (hN : X.N[i]? = some x := by rfl) (hv : Vis X.env.scope x := by first | exact Or.inl rfl | exact Or.inr (Or.inl rfl) | exact Or.inr (Or.inr rfl)) (hd : (x == ("__debug__" : Str)) = false := by decide)
    (hcd : (x == ("__classdict__" : Str)) = false := by decide) : PS' X c true [] (.Return (some (.Name x p')) pos) (sRetO i) :=
  psI (ps_ret (pe_var hN hv hd hcd)) fun Dn σ H ⟨G, S, rel, p⟩ => by
    have p : PostS c true [] G S σ H Dn (eO i S >>= fun d => .ok (.rt d, S)) := p
    unfold eO at p
    split at p
    · rename_i d hd
      obtain ⟨a, o, e1, hg, h0, ho, ct⟩ := rel.ow i d hd
      exact ⟨_, e1, p _ G H rel.st ⟨a, o, rfl, hg, h0, ho, ct⟩ rel.owR⟩
    · exact p.elim
theorem s_if {cc : Expr} {aa bb : List Stmt} (hc : PT' X c cc t) (ha : PB' X c fr as aa s) (hb : PB' X c fr bs bb r) : PS' X c fr (as ++ bs) (.If cc aa bb pos) (sIf t s r) :=
  psI (ps_if hc ha hb) fun Dn σ H ⟨G, S, rel, p⟩ => rdT_go (g := fun b => if b then s S else r S) (Post := PostS c fr (as ++ bs) G S σ H Dn) rel p (fun _ z => z _) (fun z => z) fun b G' H' sp p1 => by
    cases b with
    | true => exact ⟨G', S, rel.grow sp, PostS.sub (fun i q => List.mem_append_left _ q) (PostS.gr rel sp p1)⟩
    | false => exact ⟨G', S, rel.grow sp, PostS.sub (fun i q => List.mem_append_right _ q) (PostS.gr rel sp p1)⟩
def whileF (t : FT) (s : FS) : Nat → FS
  | 0 => fun _ => .fail
  | n + 1 => fun S => t S >>= fun b => if b then s S >>= fun z => match z.1 with
    | .nx => whileF t s n z.2
    | .ct => whileF t s n z.2
    | .bk => .ok (.nx, z.2)
    | .rt d => .ok (.rt d, z.2) else .ok (.nx, S)
theorem s_while (n : Nat) {cc : Expr} {body : List Stmt} (hp : PassesOwn (model X.prog X.w) X.A X.env X.xe) (hc : PT' X c cc t) (hb : PB' X c fr as body s) : PS' X c fr as (.While cc body [] pos) (whileF t s n) :=
  psI (ps_while hp hc hb) fun Dn σ H ⟨G, S, rel, p⟩ => by
    refine ⟨fun m σ1 H1 => ∃ G1 S1, Rel c G1 S1 σ1 H1 ∧ Ex G G1 ∧ Frm as S σ H S1 σ1 H1 ∧ PostS c fr as G S σ H Dn (whileF t s m S1), ⟨n, G, S, rel, Ex.refl _, Frm.refl _ _ _ _, p⟩, ?_⟩
    rintro m σ1 H1 ⟨G1, S1, r1, ex1, f1, p1⟩
    cases m with
    | zero => exact p1.elim
    | succ m =>
      refine rdT_go (g := fun b => if b then s S1 >>= fun z => match z.1 with
        | .nx => whileF t s m z.2
        | .ct => whileF t s m z.2
        | .bk => .ok (.nx, z.2)
        | .rt d => .ok (.rt d, z.2) else .ok (.nx, S1)) (Post := PostS c fr as G S σ H Dn) r1 p1 (fun _ z => z _) (fun z => z) fun b G2 H2 sp p2 => ?_
      have f2 : Frm as S σ H S1 σ1 H2 := (f1.trans (Frm.step (as := []) r1 sp)).mono (fun i q => by simpa using q)
      cases b with
      | false => exact p2 G2 σ1 H2 (ex1.trans sp.g) (r1.grow sp) f2
      | true =>
        rw [if_pos rfl] at p2 ⊢
        refine ⟨fun σ' H' => ∃ G3 S3, Rel c G3 S3 σ' H' ∧ Ex G G3 ∧ Frm as S σ H S3 σ' H' ∧ PostS c fr as G S σ H Dn (whileF t s m S3), fun σ' H' q => ⟨m, Nat.lt_succ_self m, q⟩, G2, S1, r1.grow sp, ?_⟩
        cases e1 : s S1 with
        | exc x => rw [e1] at p2; exact p2
        | fail => rw [e1] at p2; exact p2
        | ok z =>
          rw [e1] at p2
          obtain ⟨fl, S3⟩ := z
          have fin : ∀ {σ3 : St} {H3 : Hp}, Frm as S1 σ1 H2 S3 σ3 H3 → Frm as S σ H S3 σ3 H3 := fun f3 => (f2.trans f3).mono (fun i q => by simpa using q)
          cases fl with
          | nx => exact fun G3 σ3 H3 e3 r3 f3 => ⟨G3, S3, r3, (ex1.trans sp.g).trans e3, fin f3, p2⟩
          | ct => exact fun G3 σ3 H3 e3 r3 f3 => ⟨G3, S3, r3, (ex1.trans sp.g).trans e3, fin f3, p2⟩
          | bk => exact fun G3 σ3 H3 e3 r3 f3 => p2 G3 σ3 H3 ((ex1.trans sp.g).trans e3) r3 (fin f3)
          | rt d => exact fun v G3 H3 st rv ow => p2 v G3 H3 st rv ((ow.mv f2).sub fun i q => by simpa using q)
def Itm (k : Kn) (ki : List Nat) (G1 : Hp) (S : Env) (σ : St) (H1 : Hp) (J : It) (ds : List D) : Prop :=
  ∀ G H, Ex G1 G → Ex G H → (∀ i, i ∈ ki → ∀ a, OwnAt S σ i a → H a = H1 a) → (∀ i : Nat, ds.length ≤ i → J.stop i H) ∧ ∀ (i : Nat) (d : D), ds[i]? = some d → J.go i H ∧ ∀ x H', J.yld i H x H' → ∃ G', Step G H G' H' ∧ RD k G' d x
abbrev FI := Env → R (List D)
def PostI (c : Cf) (ki : List Nat) (G : Hp) (S : Env) (σ : St) (H : Hp) (Q : It → Hp → Prop) : R (List D) → Prop
  | .ok ds => ∀ J G' H', Step G H G' H' → Itm c.k ki G' S σ H' J ds → Q J H'
  | .exc x => PX c σ x
  | .fail => False
def RdI (c : Cf) (ki : List Nat) (f : FI) : TI := fun σ H Q => ∃ G S, Rel c G S σ H ∧ PostI c ki G S σ H Q (f S)
abbrev PI' (X : Cx) (c : Cf) (ki : List Nat) (tg e : Expr) (f : FI) : Prop := PI X tg e (RdI c ki f)
def forF (g : FG) (s : FS) : List D → FS
  | [] => fun S => .ok (.nx, S)
  | d :: ds => fun S => (g d S).nox >>= fun S1 => s S1 >>= fun z => match z.1 with
    | .nx => forF g s ds z.2
    | .ct => forF g s ds z.2
    | .bk => .ok (.nx, z.2)
    | .rt d => .ok (.rt d, z.2)
def sFor (i : FI) (g : FG) (s : FS) : FS := fun S => i S >>= fun ds => forF g s ds S
theorem s_for {tg iter : Expr} {body : List Stmt} {ki gs : List Nat} {fi : FI} {ga : FG} (hp : PassesOwn (model X.prog X.w) X.A X.env X.xe) (hc : X.calm = true) (hi : PI' X c ki tg iter fi) (hg : PG' X c gs tg ga) (hb : PB' X c fr as body s)
    (hki : ∀ i, i ∈ ki → i ∉ gs ++ as ∧ i + 1000 ∉ gs ++ as := by decide) (hs : ∀ x, foldedSetIterable iter X.env x = pure x := by intro _; rfl) : PS' X c fr (gs ++ as) (.For tg iter body [] pos) (sFor fi ga s) :=
  psI (ps_for hp hc hi hg hb hs) fun Dn σ H ⟨G, S, rel, p⟩ => by
    refine ⟨G, S, rel, ?_⟩
    have p : PostS c fr (gs ++ as) G S σ H Dn (fi S >>= fun ds => forF ga s ds S) := p
    cases e0 : fi S with
    | exc x => rw [e0] at p; exact p _
    | fail => rw [e0] at p; exact p
    | ok ds =>
      rw [e0] at p
      have p : PostS c fr (gs ++ as) G S σ H Dn (forF ga s ds S) := p
      intro J G0 H0 sp it
      refine ⟨fun i m σ1 H1 => m = ds.length - i ∧ i ≤ ds.length ∧ ∃ G1 S1, Rel c G1 S1 σ1 H1 ∧ Ex G0 G1 ∧ Frm (gs ++ as) S σ H0 S1 σ1 H1 ∧ PostS c fr (gs ++ as) G S σ H Dn (forF ga s (ds.drop i) S1),
        ⟨_, rfl, Nat.zero_le _, G0, S, rel.grow sp, Ex.refl _, Frm.refl _ _ _ _, by simpa using p⟩, ?_⟩
      rintro i m σ1 H1 ⟨rfl, hle, G1, S1, r1, ex1, f1, p1⟩
      have keep : ∀ j, j ∈ ki → ∀ a, OwnAt S σ j a → H1 a = H0 a := fun j hj a ow => f1.ow j a (hki j hj).1 (hki j hj).2 ow
      have itm := it G1 H1 ex1 r1.st.gh keep
      have fm : Frm (gs ++ as) S σ H S1 σ1 H1 := ((Frm.step (as := []) rel sp).trans f1).mono (fun i q => by simpa using q)
      by_cases hlt : i < ds.length
      · obtain ⟨d, hd⟩ : ∃ d, ds[i]? = some d := ⟨ds[i], List.getElem?_eq_getElem hlt⟩
        have hdrop : ds.drop i = d :: ds.drop (i + 1) := by
          rw [List.drop_eq_getElem_cons hlt]; congr 1; rw [List.getElem?_eq_getElem hlt] at hd; exact Option.some.inj hd
        rw [hdrop] at p1
        obtain ⟨hgo, hy⟩ := itm.2 i d hd
        refine .inr ⟨hgo, fun σ' H' => ∃ G3 S3, Rel c G3 S3 σ' H' ∧ Ex G0 G3 ∧ Frm (gs ++ as) S σ H0 S3 σ' H' ∧ PostS c fr (gs ++ as) G S σ H Dn (forF ga s (ds.drop (i + 1)) S3), fun σ' H' q => ⟨ds.length - (i + 1), by omega, rfl, hlt, q⟩, fun x H2 hx => ?_⟩
        obtain ⟨G2, sp2, hd2⟩ := hy x H2 hx
        refine ⟨G2, S1, d, r1.grow sp2, hd2, ?_⟩
        have p1 : PostS c fr (gs ++ as) G S σ H Dn ((ga d S1).nox >>= fun S1 => s S1 >>= fun z => match z.1 with
          | .nx => forF ga s (ds.drop (i + 1)) z.2
          | .ct => forF ga s (ds.drop (i + 1)) z.2
          | .bk => .ok (.nx, z.2)
          | .rt d => .ok (.rt d, z.2)) := p1
        cases e1 : ga d S1 with
        | exc x => rw [e1] at p1; exact p1.elim
        | fail => rw [e1] at p1; exact p1.elim
        | ok S2 =>
          rw [e1] at p1
          refine fun G3 σ3 H3 e3 r3 f3 => ⟨G3, S2, r3, ?_⟩
          have f03 : Frm (gs ++ as) S σ H0 S2 σ3 H3 := (f1.trans ((Frm.step (as := []) r1 sp2).trans f3)).mono (fun i q => by simp only [List.mem_append, List.not_mem_nil, false_or] at q ⊢; rcases q with q | q; exact q; exact .inl q)
          have p1 : PostS c fr (gs ++ as) G S σ H Dn (s S2 >>= fun z => match z.1 with
            | .nx => forF ga s (ds.drop (i + 1)) z.2
            | .ct => forF ga s (ds.drop (i + 1)) z.2
            | .bk => .ok (.nx, z.2)
            | .rt d => .ok (.rt d, z.2)) := p1
          have g03 : Ex G0 G3 := (ex1.trans sp2.g).trans e3.g
          cases e2 : s S2 with
          | exc x => rw [e2] at p1; exact p1
          | fail => rw [e2] at p1; exact p1
          | ok z =>
            rw [e2] at p1
            obtain ⟨fl, S4⟩ := z
            have fin : ∀ {σ4 : St} {H4 : Hp}, Frm as S2 σ3 H3 S4 σ4 H4 → Frm (gs ++ as) S σ H0 S4 σ4 H4 := fun f4 => (f03.trans f4).mono (fun i q => by simp only [List.mem_append] at q ⊢; rcases q with q | q; exact q; exact .inr q)
            have fin2 : ∀ {σ4 : St} {H4 : Hp}, Frm as S2 σ3 H3 S4 σ4 H4 → Frm (gs ++ as) S σ H S4 σ4 H4 := fun f4 => ((Frm.step (as := []) rel sp).trans (fin f4)).mono (fun i q => by simpa using q)
            cases fl with
            | nx => exact fun G4 σ4 H4 e4 r4 f4 => ⟨G4, S4, r4, g03.trans e4, fin f4, p1⟩
            | ct => exact fun G4 σ4 H4 e4 r4 f4 => ⟨G4, S4, r4, g03.trans e4, fin f4, p1⟩
            | bk => exact fun G4 σ4 H4 e4 r4 f4 => p1 G4 σ4 H4 ((sp.g.trans g03).trans e4) r4 (fin2 f4)
            | rt d => exact fun v G4 H4 st rv ow => p1 v G4 H4 st rv ((ow.mv f03).sub fun i q => by simp only [List.mem_append] at q ⊢; rcases q with q | q; exact q; exact .inr q)
      · have hi : i = ds.length := by omega
        subst hi
        rw [List.drop_length] at p1
        exact .inl ⟨itm.1 _ (Nat.le_refl _), p1 G1 σ1 H1 (sp.g.trans ex1) r1 fm⟩
end
end M
set_option Elab.async false
set_option linter.all false
set_option maxRecDepth 100000
set_option maxHeartbeats 4000000
namespace M
open PySem L2
section
variable {X : Cx} {c : Cf} {kd k1 k2 k3 : Kd} {a b e tg : Expr} {f g h : FE} {t u : FT} {pos : Pos} {fr : Bool} {as bs : List Nat} {s r : FS}
def chrs (x : Str) : List D := x.cps.toList.map fun n => .str ⟨#[n]⟩
def itemsD : D → R (List D)
  | .lst ds => .ok ds
  | .tup ds => .ok ds
  | .scr ns => .ok (ns.map .int)
  | .str x => .ok (chrs x)
  | _ => .fail
theorem itm_list {k : Kn} {ki : List Nat} {G1 H1 : Hp} {S : Env} {σ : St} {K : PySem.W.Frag} {ds : List D} {vs : List V} {p : Addr} (hr : RDs k G1 ds vs) (hs : ∀ G H, Ex G1 G → Ex G H → (∀ i, i ∈ ki → ∀ a, OwnAt S σ i a → H a = H1 a) → SqL K H p vs)
    : Itm k ki G1 S σ H1 (Itl K p) ds := fun G H e1 e2 kp => by
  have q := hs G H e1 e2 kp
  refine ⟨fun i hi => ⟨vs, q, by rw [← hr.length]; exact hi⟩, fun i d hd => ?_⟩
  obtain ⟨v, hv, r⟩ := (hr.mono e1).get hd
  refine ⟨⟨vs, v, q, hv⟩, fun x H' hx => ?_⟩
  obtain ⟨rfl, hy⟩ := hx
  have := hy vs q
  rw [hv] at this; cases this
  exact ⟨G, Step.refl e2, r⟩
theorem itm_tup {k : Kn} {ki : List Nat} {G1 H1 : Hp} {S : Env} {σ : St} {K : PySem.W.Frag} {ds : List D} {vs : List V} {p : Addr} (hr : RDs k G1 ds vs) (hs : SqT K G1 p vs) : Itm k ki G1 S σ H1 (Itt K p) ds := fun G H e1 e2 kp => by
  have q := e2.sqT (e1.sqT hs)
  refine ⟨fun i hi => ⟨vs, q, by rw [← hr.length]; exact hi⟩, fun i d hd => ?_⟩
  obtain ⟨v, hv, r⟩ := (hr.mono e1).get hd
  refine ⟨⟨vs, v, q, hv⟩, fun x H' hx => ?_⟩
  obtain ⟨rfl, hy⟩ := hx
  have := hy vs q
  rw [hv] at this; cases this
  exact ⟨G, Step.refl e2, r⟩
theorem itm_str {k : Kn} {ki : List Nat} {G1 H1 : Hp} {S : Env} {σ : St} (x : Str) : Itm k ki G1 S σ H1 (Its x) (chrs x) := fun G H e1 e2 kp => by
  refine ⟨fun i hi => ?_, fun i d hd => ?_⟩
  · show x.cps.size ≤ i
    simpa [chrs] using hi
  · unfold chrs at hd
    rw [List.getElem?_map] at hd
    cases q : x.cps.toList[i]? with
    | none => rw [q] at hd; cases hd
    | some n =>
      rw [q] at hd; cases hd
      have q' : x.cps[i]? = some n := by simpa using q
      refine ⟨?_, fun y H' hy => ?_⟩
      · have := (Array.getElem?_eq_some_iff.mp q').1
        exact this
      · obtain ⟨e3, n', q2, e4⟩ := hy
        subst e3; subst e4
        rw [q'] at q2; cases q2
        exact ⟨G, Step.refl e2, .str _⟩
theorem i_seq (hk : c.k.K = X.K) (he : PE' X c .st e f) : PI' X c [] tg e (fun S => f S >>= itemsD) := by
  refine ⟨fun pins st σ H Rq I q => ?_⟩
  obtain ⟨G, S, rel, p⟩ := q
  have p : PostI c [] G S σ H Rq (f S >>= itemsD) := p
  cases e1 : f S with
  | exc x => exact (pi_list he).run pins st σ H Rq I ⟨G, S, rel, by rw [e1] at p ⊢; exact p⟩
  | fail => rw [e1] at p; exact p.elim
  | ok d =>
    rw [e1] at p
    cases d with
    | lst ds =>
      refine (pi_list he).run pins st σ H Rq I ⟨G, S, rel, ?_⟩
      rw [e1]
      intro v G' H' sp q
      cases q with
      | lst h r => exact ⟨_, rfl, ⟨_, SqL.of (sp.gh _ _ h)⟩, p _ G' H' sp (itm_list r fun G2 H2 a1 a2 _ => SqL.of (a2 _ _ (a1 _ _ h)))⟩
    | scr ns =>
      refine (pi_list he).run pins st σ H Rq I ⟨G, S, rel, ?_⟩
      rw [e1]
      intro v G' H' sp q
      cases q with
      | scr h => exact ⟨_, rfl, ⟨_, hk ▸ sp.gh.sqL h⟩, p _ G' H' sp (itm_list (RDs.ints ns) fun G2 H2 a1 a2 _ => hk ▸ a2.sqL (a1.sqL h))⟩
    | tup ds =>
      refine (pi_tup he).run pins st σ H Rq I ⟨G, S, rel, ?_⟩
      rw [e1]
      intro v G' H' sp q
      cases q with
      | tup h r => exact ⟨_, rfl, ⟨_, hk ▸ sp.gh.sqT h.t⟩, p _ G' H' sp (itm_tup r (hk ▸ h.t))⟩
    | str x =>
      refine (pi_str he).run pins st σ H Rq I ⟨G, S, rel, ?_⟩
      rw [e1]
      intro v G' H' sp q
      cases q with
      | str => exact ⟨_, rfl, p _ G' H' sp (itm_str x)⟩
    | _ => exact p.elim
theorem i_own (i : Nat) {x : Str} (hN : X.N[i]? = some x := by rfl) (hv : Vis X.env.scope x := by first | exact Or.inl rfl | exact Or.inr (Or.inl rfl) | exact Or.inr (Or.inr rfl)) (hd : (x == ("__debug__" : Str)) = false := by decide)
    (hcd : (x == ("__classdict__" : Str)) = false := by decide) : PI' X c [i] tg (.Name x pos) (fun S => eO i S >>= itemsD) :=
  piI (pi_list (pe_var hN hv hd hcd)) fun σ H Rq ⟨G, S, rel, p⟩ => by
    have p : PostI c [i] G S σ H Rq (eO i S >>= itemsD) := p
    unfold eO at p
    split at p
    · rename_i d hd
      obtain ⟨a, o, e1, hg, h0, ho, ct⟩ := rel.ow i d hd
      cases ct with
      | lst r =>
        refine ⟨_, e1, a, rfl, ⟨_, SqL.of ho⟩, p _ G H (Step.refl rel.st.gh) (itm_list r fun G2 H2 a1 a2 kp => SqL.of ?_)⟩
        rw [kp i (by simp) a ⟨⟨_, hd⟩, e1⟩]; exact ho
      | _ => exact p.elim
    · exact p.elim
def rngL (lo : Int) (n : Nat) : List D := (List.range n).map fun (i : Nat) => .int (lo + i)
def rng1 : List D → R (List D)
  | [.int j] => if -(2 ^ 62) ≤ j ∧ j < 2 ^ 62 then .ok (rngL 0 j.toNat) else .fail
  | _ => .fail
def rng2 : List D → R (List D)
  | [.int i, .int j] => if -(2 ^ 62) ≤ i ∧ i < 2 ^ 62 ∧ -(2 ^ 62) ≤ j ∧ j < 2 ^ 62 then .ok (rngL i (j - i).toNat) else .fail
  | _ => .fail
theorem itm_rng {k : Kn} {ki : List Nat} {G1 H1 : Hp} {S : Env} {σ : St} (lo : Int) (n : Nat) : Itm k ki G1 S σ H1 (Itr lo n) (rngL lo n) := fun G H e1 e2 kp => by
  refine ⟨fun i hi => (by simpa [rngL] using hi : n ≤ i), fun i d hd => ?_⟩
  unfold rngL at hd
  rw [List.getElem?_map] at hd
  have hi : i < n := by
    rcases Nat.lt_or_ge i n with z | z
    · exact z
    · rw [List.getElem?_eq_none (by simpa using z)] at hd; cases hd
  rw [List.getElem?_range hi] at hd
  cases hd
  refine ⟨hi, fun x H' hx => ?_⟩
  obtain ⟨rfl, rfl⟩ := hx
  exact ⟨G, Step.refl e2, .int _⟩
theorem i_rng1 {p : Pos} {fa : FA} {ba : Bool} (hm : X.mg "range" = none) (ha : PA' X c ba [a] fa) (hg : Gl X "range" := by rfl) (hs : starEach [a] X.env = [(false, eval a X.env)] := by rfl) : PI' X c [] tg (.Call (.Name "range" p) [a] [] pos) (fun S => fa S >>= rng1) :=
  piI (pi_range1 hg hm ha hs) fun σ H Rq ⟨G, S, rel, p⟩ => by
    refine rdA_go (g := rng1) (Post := PostI c [] G S σ H Rq) rel p (fun _ z => z) (fun z => z) fun ds vs G' H' sp q p1 => ?_
    rcases ds with _ | ⟨d1, _ | ⟨d2, dr⟩⟩
    · exact p1.elim
    · cases d1 with
      | int j =>
        have p1 : PostI c [] G S σ H Rq (if -(2 ^ 62) ≤ j ∧ j < 2 ^ 62 then .ok (rngL 0 j.toNat) else .fail) := p1
        cases q.nows with
        | cons n1 n2 =>
          cases n2
          obtain rfl := n1.int
          by_cases hj : -(2 ^ 62) ≤ j ∧ j < 2 ^ 62
          · rw [if_pos hj] at p1
            exact ⟨j, rfl, hj.1, hj.2, p1 _ G' H' sp (itm_rng 0 _)⟩
          · rw [if_neg hj] at p1; exact p1.elim
      | _ => exact p1.elim
    · cases d1 <;> exact p1.elim
theorem i_rng2 {p : Pos} {fa : FA} {ba : Bool} (hm : X.mg "range" = none) (ha : PA' X c ba [a, b] fa) (hg : Gl X "range" := by rfl) (hs : starEach [a, b] X.env = [(false, eval a X.env), (false, eval b X.env)] := by rfl) (hs2 : starEach [b] X.env = [(false, eval b X.env)] := by rfl) :
    PI' X c [] tg (.Call (.Name "range" p) [a, b] [] pos) (fun S => fa S >>= rng2) :=
  piI (pi_range2 hg hm ha hs hs2) fun σ H Rq ⟨G, S, rel, p⟩ => by
    refine rdA_go (g := rng2) (Post := PostI c [] G S σ H Rq) rel p (fun _ z => z) (fun z => z) fun ds vs G' H' sp q p1 => ?_
    rcases ds with _ | ⟨d1, _ | ⟨d2, _ | ⟨d3, dr⟩⟩⟩
    · exact p1.elim
    · cases d1 <;> exact p1.elim
    · cases d1 with
      | int i =>
        cases d2 with
        | int j =>
          have p1 : PostI c [] G S σ H Rq (if -(2 ^ 62) ≤ i ∧ i < 2 ^ 62 ∧ -(2 ^ 62) ≤ j ∧ j < 2 ^ 62 then .ok (rngL i (j - i).toNat) else .fail) := p1
          cases q.nows with
          | cons n1 n2 =>
            cases n2 with
            | cons n2 n3 =>
              cases n3
              obtain rfl := n1.int
              obtain rfl := n2.int
              by_cases hj : -(2 ^ 62) ≤ i ∧ i < 2 ^ 62 ∧ -(2 ^ 62) ≤ j ∧ j < 2 ^ 62
              · rw [if_pos hj] at p1
                exact ⟨i, j, rfl, hj, p1 _ G' H' sp (itm_rng i _)⟩
              · rw [if_neg hj] at p1; exact p1.elim
        | _ => exact p1.elim
      | _ => exact p1.elim
    · cases d1 <;> first | exact p1.elim | (cases d2 <;> exact p1.elim)
theorem Rel.cw {c : Cf} {W : WX} {G H : Hp} {S : Env} {σ : St} (r : Rel c G S σ H) : Rel { c with W := W } G S σ H := ⟨r.st, r.len, r.fz, r.ow, r.nd⟩
theorem wipe_in {i : Nat} : ∀ {vs : List Nat} {σ : St}, i ∈ vs → i < σ.length → (L2.wipe σ vs)[i]? = some none
  | v :: vs, σ, hm, hi => by
    unfold L2.wipe
    by_cases h : v = i
    · subst h; rw [List.getElem?_set_self (by rw [wipe_length]; exact hi)]
    · rw [List.getElem?_set_ne h]
      exact wipe_in (by rcases List.mem_cons.mp hm with z | z; exact absurd z.symm h; exact z) hi
theorem wipe_eq {vs : List Nat} {σ σ' : St} (hl : σ'.length = σ.length) (h : ∀ (i : Nat), i ∉ vs → σ'[i]? = (L2.wipe σ vs)[i]?) : L2.wipe σ' vs = L2.wipe σ vs := by
  apply List.ext_getElem?
  intro i
  by_cases hm : i ∈ vs
  · by_cases hi : i < σ.length
    · rw [wipe_in hm hi, wipe_in hm (by rw [hl]; exact hi)]
    · rw [List.getElem?_eq_none (by rw [wipe_length, hl]; omega), List.getElem?_eq_none (by rw [wipe_length]; omega)]
  · rw [wipe_out hm, h i hm]
abbrev Cf.nx (c : Cf) : Cf := { c with W := liftX E0 }
abbrev PTs' (X : Cx) (c : Cf) (ifs : List Expr) (t : FT) : Prop := PTs X ifs (RdT c t)
def tY : FT := fun _ => .ok true
theorem ts_n : PTs' X c [] tY := ptsI pts_nil fun σ H Q ⟨G, S, rel, p⟩ => p G H (Step.refl rel.st.gh)
theorem ts_1 (h : PT' X c a t) : PTs' X c [a] t := pts_one h
def lcF (ga : FG) (t : FT) (fe : FE) (S : Env) : List D → R (List D)
  | [] => .ok []
  | d :: ds => (ga d S).nox >>= fun S1 => (t S1).nox >>= fun b => if b then (fe S1).nox >>= fun y => lcF ga t fe S ds >>= fun ys => .ok (y :: ys) else lcF ga t fe S ds
def lcE (fi : FI) (ga : FG) (t : FT) (fe : FE) (vs : List Nat) : FE := fun S => fi S >>= fun ds => if ds.length ≤ sizeLine then lcF ga t fe (wipeS S vs) ds >>= fun ys => .ok (.lst ys) else .fail
theorem lcF_exc {ga : FG} {t : FT} {fe : FE} {S : Env} {x : Exc} : ∀ ds, lcF ga t fe S ds ≠ .exc x
  | [] => by intro h; cases h
  | d :: ds => by
    intro h
    unfold lcF at h
    cases e1 : ga d S <;> rw [e1] at h <;> first | (cases h; done) | skip
    simp only [R.nox_ok, R.ok_bind] at h
    rename_i S1
    cases e2 : t S1 <;> rw [e2] at h <;> first | (cases h; done) | skip
    simp only [R.nox_ok, R.ok_bind] at h
    rename_i b
    cases b with
    | false => exact lcF_exc ds h
    | true =>
      rw [if_pos rfl] at h
      cases e3 : fe S1 <;> rw [e3] at h <;> first | (cases h; done) | skip
      simp only [R.nox_ok, R.ok_bind] at h
      cases e4 : lcF ga t fe S ds with
      | ok ys => rw [e4] at h; cases h
      | exc y => exact lcF_exc ds e4
      | fail => rw [e4] at h; cases h
theorem lc_go {ki gs vs : List Nat} {fi : FI} {ga : FG} {fe : FE} {σ : St} {H : Hp} {Q : VK} {gi : TG} {tt : TT} {te : TE} (hg : ∀ v σ H Q, RdG c.nx gs ga v σ H Q → gi v σ H Q) (ht : ∀ σ H Q, RdT c.nx t σ H Q → tt σ H Q) (he : ∀ σ H Q, RdE c.nx .st fe σ H Q → te σ H Q)
    (hgs : ∀ i, i ∈ gs → i ∈ vs) (q : RdE c .fr (lcE fi ga t fe vs) σ H Q) : tLc (RdI c ki fi) gi tt te vs σ H Q := by
  obtain ⟨G, S, rel, p⟩ := q
  refine ⟨G, S, rel, ?_⟩
  have p : PostE c .fr G S σ H Q (fi S >>= fun ds => if ds.length ≤ sizeLine then lcF ga t fe (wipeS S vs) ds >>= fun ys => .ok (.lst ys) else .fail) := p
  cases e0 : fi S with
  | exc x => rw [e0] at p; exact p
  | fail => rw [e0] at p; exact p
  | ok ds =>
    rw [e0, R.ok_bind] at p
    by_cases hz : ds.length ≤ sizeLine
    · rw [if_pos hz] at p
      intro J G1 H1 sp it Dl hD
      have relb := ((rel.grow sp).wipe vs).cw (W := liftX E0)
      have hD0 : H Dl = none := sp.h.free hD
      refine ⟨fun i m H2 => m = ds.length - i ∧ i ≤ ds.length ∧ ∃ G2 ac av, Step G1 H1 G2 H2 ∧ G2 Dl = none ∧ H2 Dl = some (.lst av) ∧ RDs c.k G2 ac av ∧ ac.length ≤ i ∧
          PostE c .fr G S σ H Q (lcF ga t fe (wipeS S vs) (ds.drop i) >>= fun ys => .ok (.lst (ac ++ ys))),
        ⟨_, rfl, Nat.zero_le _, G1, [], [], Step.new' sp.gh hD, sp.gh.free hD, upd_same, .nil, Nat.zero_le _, by simpa using p⟩, ?_⟩
      rintro i m H2 ⟨rfl, hle, G2, ac, av, sp2, hGD, hHD, hr, hal, p2⟩
      have rel2 : Rel c.nx G2 (wipeS S vs) (L2.wipe σ vs) H2 := relb.grow sp2
      have itm := it G2 H2 sp2.g sp2.gh fun j hj x ow => by
        obtain ⟨_, _, o, _, ho, _⟩ := (rel.grow sp).own ow
        rw [ho, sp2.h _ _ ho]
      by_cases hlt : i < ds.length
      · obtain ⟨d, hd⟩ : ∃ d, ds[i]? = some d := ⟨ds[i], List.getElem?_eq_getElem hlt⟩
        have hdrop : ds.drop i = d :: ds.drop (i + 1) := by
          rw [List.drop_eq_getElem_cons hlt]; congr 1; rw [List.getElem?_eq_getElem hlt] at hd; exact Option.some.inj hd
        rw [hdrop] at p2
        obtain ⟨hgo, hy⟩ := itm.2 i d hd
        refine .inr ⟨hgo, fun H' => ∃ G3 ac av, Step G1 H1 G3 H' ∧ G3 Dl = none ∧ H' Dl = some (.lst av) ∧ RDs c.k G3 ac av ∧ ac.length ≤ i + 1 ∧
          PostE c .fr G S σ H Q (lcF ga t fe (wipeS S vs) (ds.drop (i + 1)) >>= fun ys => .ok (.lst (ac ++ ys))), fun H' ⟨G3, r3⟩ => ⟨_, by omega, rfl, hlt, G3, r3⟩, fun x H3 hx => ?_⟩
        obtain ⟨G3, sp3, hd3⟩ := hy x H3 hx
        refine hg x _ H3 _ ⟨G3, wipeS S vs, d, rel2.grow sp3, hd3, ?_⟩
        unfold lcF at p2
        cases e1 : ga d (wipeS S vs) with
        | exc x => rw [e1] at p2; exact p2.elim
        | fail => rw [e1] at p2; exact p2.elim
        | ok S1 =>
          rw [e1, R.nox_ok, R.ok_bind] at p2
          intro G4 σ4 H4 sp4 rel4 f4
          refine ⟨wipe_eq (by rw [f4.len, wipe_length]) fun j hj => f4.sg j fun z => hj (hgs j z), ht σ4 H4 _ ⟨G4, S1, rel4, ?_⟩⟩
          cases e2 : t S1 with
          | exc x => rw [e2] at p2; exact p2.elim
          | fail => rw [e2] at p2; exact p2.elim
          | ok b =>
            rw [e2, R.nox_ok, R.ok_bind] at p2
            intro G5 H5 sp5
            have spA : Step G2 H2 G5 H5 := (sp3.trans sp4).trans sp5
            have nD : ∀ {G6 H6 : Hp}, Step G2 H2 G6 H6 → G6 Dl = none ∧ H6 Dl = some (.lst av) := fun {G6 H6} z => by
              refine ⟨?_, z.h _ _ hHD⟩
              cases q : G6 Dl with
              | none => rfl
              | some o =>
                rcases z.gr _ _ q with w | w
                · rw [hGD] at w; cases w
                · rw [hHD] at w; cases w
            cases b with
            | false =>
              rw [if_neg Bool.false_ne_true] at p2 ⊢
              exact ⟨G5, ac, av, sp2.trans spA, (nD spA).1, (nD spA).2, hr.mono spA.g, by omega, p2⟩
            | true =>
              rw [if_pos rfl] at p2 ⊢
              refine he σ4 H5 _ ⟨G5, S1, rel4.grow sp5, ?_⟩
              cases e3 : fe S1 with
              | exc x => rw [e3] at p2; exact p2.elim
              | fail => rw [e3] at p2; exact p2.elim
              | ok y =>
                rw [e3, R.nox_ok, R.ok_bind] at p2
                intro v G6 H6 sp6 hv
                have spB := spA.trans sp6
                refine ⟨av, (nD spB).2, by rw [← hr.length]; omega, ?_⟩
                have spC : Step G1 H1 G6 (upd H6 Dl (.lst (av ++ [v]))) := by
                  have z := sp2.trans spB
                  exact ⟨z.g, z.h.upd hD, z.gh.upd (nD spB).1, z.gr⟩
                refine ⟨G6, ac ++ [y], av ++ [v], spC, (nD spB).1, upd_same, (hr.mono spB.g).append (.cons hv .nil), by rw [List.length_append]; simp; omega, ?_⟩
                cases e4 : lcF ga t fe (wipeS S vs) (ds.drop (i + 1)) with
                | exc x => exact absurd e4 (lcF_exc _)
                | fail => rw [e4] at p2; exact p2.elim
                | ok ys => rw [e4] at p2; simpa using p2
      · have hi : i = ds.length := by omega
        subst hi
        rw [List.drop_length] at p2
        refine .inl ⟨itm.1 _ (Nat.le_refl _), ?_⟩
        have p2 : PostE c .fr G S σ H Q (.ok (.lst (ac ++ []))) := p2
        rw [List.append_nil] at p2
        exact p2 _ G2 H2 (sp.trans sp2) ⟨Dl, _, rfl, hGD, hD0, hHD, .lst hr⟩
    · rw [if_neg hz] at p; exact p.elim
theorem d_lc {elt iter : Expr} {ifs : List Expr} {scope : Scope} (own : List (Str × Nat)) {ki gs : List Nat} {fi : FI} {ga : FG} {fe : FE} (hc : X.calm = true) (hN : X.N.Nodup) (hi : PI' X c ki tg iter fi) (ok : BlkOk X.N X.env.scope scope own)
    (hg : ∀ (s : Shared) (H : Hp) (C : Addr) (cl : List (Str × Addr)) (fp : List Addr), PG' (X.blk s H scope (compEnvC scope cl C X.env) fp) c.nx gs tg ga) (ht : ∀ (s : Shared) (H : Hp) (C : Addr) (cl : List (Str × Addr)) (fp : List Addr), PTs' (X.blk s H scope (compEnvC scope cl C X.env) fp) c.nx ifs t)
    (he : ∀ (s : Shared) (H : Hp) (C : Addr) (cl : List (Str × Addr)) (fp : List Addr), PE' (X.blk s H scope (compEnvC scope cl C X.env) fp) c.nx .st elt fe) (hgs : ∀ i, i ∈ gs → i ∈ own.map (·.2) := by decide) (hs : ∀ x, foldedSetIterable iter X.env x = pure x := by intro _; rfl) :
    PE' X c .fr (.ListComp elt [⟨tg, iter, ifs, 0⟩] scope pos) (lcE fi ga t fe (own.map (·.2))) :=
  peI (pe_lc hc hN hi ok hg ht he hs) fun σ H Q q => lc_go (fun _ _ _ _ z => z) (fun _ _ _ z => z) (fun _ _ _ z => z) hgs q
end
end M
set_option Elab.async false
set_option linter.all false
set_option maxRecDepth 100000
set_option maxHeartbeats 4000000
namespace M
open PySem L2
abbrev kdOf (fr : Bool) : Kd := if fr then .fr else .st
def PostF (k : Kn) (fr : Bool) (G0 H : Hp) (Q : VK) (E : XK) : R D → Prop
  | .ok d => ∀ v G' H', Step G0 H G' H' → Res k H G' H' d v (kdOf fr) → Q v H'
  | .exc x => PXs ⟨k, H, G0, liftX E⟩ x
  | .fail => False
def SpF (k : Kn) (fr : Bool) (n : Nat) (den : List D → R D) : Sp := fun vs H Q E => vs.length = n ∧ ∃ G0 ds, Ex G0 H ∧ RDs k G0 ds vs ∧ PostF k fr G0 H Q E (den ds)
def startS (n : Nat) (ds : List D) : Env := ds.map (fun d => some ⟨false, d⟩) ++ List.replicate (n - ds.length) none
def endF (fr : Bool) : R (Fl × Env) → R D
  | .ok (.rt d, _) => .ok d
  | .ok (.nx, _) => if fr then .fail else .ok .non
  | .ok _ => .fail
  | .exc x => .exc x
  | .fail => .fail
def runF (fr : Bool) (n : Nat) (s : FS) (ds : List D) : R D := endF fr (s (startS n ds))
theorem rel_start {c : Cf} {N : List Str} {ds : List D} {vs : List V} (e : Ex c.G0 c.H0) (r : RDs c.k c.G0 ds vs) : Rel c c.G0 (startS N.length ds) (L2.start N vs) c.H0 := by
  have own : ∀ (i : Nat) (d : D), (startS N.length ds)[i]? ≠ some (some ⟨true, d⟩) := fun i d q => by
    unfold startS at q
    rw [List.getElem?_append] at q
    split at q
    · rw [List.getElem?_map] at q
      cases h : ds[i]? <;> rw [h] at q <;> cases q
    · rw [List.getElem?_replicate] at q
      split at q <;> cases q
  refine ⟨Step.refl e, by simp [startS, L2.start, r.length], fun i d q => ?_, fun i d q => absurd q (own i d), fun i j a o => ?_⟩
  · unfold startS at q
    rw [List.getElem?_append] at q
    split at q
    · rename_i hlt
      rw [List.getElem?_map] at q
      cases h : ds[i]? with
      | none => rw [h] at q; cases q
      | some d' =>
        rw [h] at q; cases q
        obtain ⟨v, h1, h2⟩ := r.get h
        refine ⟨v, ?_, h2⟩
        unfold L2.start
        rw [List.getElem?_append_left (by rw [List.length_map]; exact (List.getElem?_eq_some_iff.mp h1).1), List.getElem?_map, h1]; rfl
    · rw [List.getElem?_replicate] at q
      split at q <;> cases q
  · obtain ⟨⟨d, q⟩, _⟩ := o
    exact absurd q (own i d)
theorem body_ok {k : Kn} {fr : Bool} {as : List Nat} {N : List Str} {X : Cx} {body : List Stmt} {s : FS} {H : Hp} {vs : List V} {Q : VK} {E : XK} {n : Nat} (hb : ∀ G0, PB' X ⟨k, H, G0, liftX E⟩ fr as body s) (q : SpF k fr n (runF fr N.length s) vs H Q E) :
    ∃ t, PSs X body t ∧ t { nx := fun _ H' => Q .non H', rt := Q } (L2.start N vs) H := by
  obtain ⟨hl, G0, ds, e, r, p⟩ := q
  refine ⟨_, hb G0, G0, _, rel_start (c := ⟨k, H, G0, liftX E⟩) e r, ?_⟩
  unfold runF at p
  cases e1 : s (startS N.length ds) with
  | exc x => rw [e1] at p; exact p
  | fail => rw [e1] at p; exact p.elim
  | ok z =>
    rw [e1] at p
    obtain ⟨fl, S1⟩ := z
    cases fl with
    | nx =>
      cases fr with
      | true => exact p.elim
      | false => exact fun G' σ' H' _ rel _ => p .non G' H' rel.st .non
    | bk => exact p.elim
    | ct => exact p.elim
    | rt d =>
      intro v G' H' st rv _
      refine p v G' H' st ?_
      cases fr with
      | true => exact rv
      | false => exact rv
section
variable {P : Program} {w : World} {K : PySem.W.Frag} {mg : Str → Option Value} {base : Heap}
theorem fn_ok {k : Kn} {fr : Bool} {as : List Nat} {x qual : Str} {params : Arguments} {body : List Stmt} {scope : Scope} {dvs : List V} {kws : List (Str × V)} {f : Addr} {fd : FuncData} {N ps : List Str} {lv : Nat} {s : FS} (F : FunD K x qual params body scope dvs kws f fd) (S : FnScope N ps scope)
    (hb : ∀ (cdv : Value) (A : Around) (outer : List PySem.Env) (sh : Shared) (H G0 : Hp), Room lv (A.deeper (PyProof.Rows.envOfC qual scope sh.heap.objs.size f cdv)) → PB' (cxOf CX0 P w K mg base N qual scope f cdv A outer sh H E0).nox ⟨k, H, G0, liftX E0⟩ fr as body s) :
    FnOk P w K mg base CX0 (lv + 1) f fd ps (SpF k fr ps.length (fun ds => (runF fr N.length s ds).nox)) := by
  refine F.ok S (fun vs H Q E q => q.1) fun cdv A outer sh H vs Q E hr q => ?_
  have q' : SpF k fr ps.length (runF fr N.length s) vs H Q E0 := by
    obtain ⟨hl, G0, ds, e, r, p⟩ := q
    refine ⟨hl, G0, ds, e, r, ?_⟩
    dsimp only at p
    cases e1 : runF fr N.length s ds with
    | ok d => rw [e1] at p; exact p
    | exc x => rw [e1] at p; exact p.elim
    | fail => rw [e1] at p; exact p.elim
  obtain ⟨t, h1, h2⟩ := body_ok (X := (cxOf CX0 P w K mg base N qual scope f cdv A outer sh H E0).nox) (fun G0 => hb cdv A outer sh H G0 hr) q'
  exact ⟨t, h1.nox, h2⟩
end
structure Fn0 (X : Cx) (k : Kn) (x : Str) (n : Nat) (fr : Bool) (den : List D → R D) : Prop where
  ex : ∃ (f : Addr) (fd : FuncData) (lv : Nat) (ps : List Str), ps.length = n ∧ FnOk X.prog X.w X.K X.mg X.base CX0 lv f fd ps (SpF k fr n den) ∧ Room lv X.A ∧ X.mg x = some (.ref f) ∧ PySem.W.keepIn X.K (.ref f) = true ∧ Binds X.K fd ps []
section
variable {X : Cx} {c : Cf} {kd k1 k2 k3 : Kd} {a b e : Expr} {pos : Pos} {fr : Bool} {den : List D → R D}
theorem call_go {n : Nat} {fa : FA} {σ : St} {H : Hp} {Q : VK} (hl : ∀ S ds, fa S = .ok ds → ds.length = n) (q : RdE c (kdOf fr) (eC den fa) σ H Q) : RdA c false fa σ H fun vs H1 => SpF c.k fr n den (vs ++ []) H1 Q E0 := by
  obtain ⟨G, S, rel, p⟩ := q
  have p : PostE c (kdOf fr) G S σ H Q (fa S >>= fun ds => (den ds).nox) := p
  refine ⟨G, S, rel, ?_⟩
  cases e0 : fa S with
  | exc x => rw [e0] at p; exact p
  | fail => rw [e0] at p; exact p
  | ok ds =>
    rw [e0] at p
    intro vs G1 H1 s1 q1
    have q1 : RDs c.k G1 ds vs := q1
    rw [List.append_nil]
    refine ⟨by rw [← q1.length]; exact hl S ds e0, G1, ds, s1.gh, q1, ?_⟩
    have p : PostE c (kdOf fr) G S σ H Q (den ds).nox := p
    cases e1 : den ds with
    | ok d => rw [e1] at p; exact fun v G' H' s2 r2 => p v G' H' (s1.trans s2) (r2.mono s1.h)
    | exc x => rw [e1] at p; exact p.elim
    | fail => rw [e1] at p; exact p.elim
def Len (n : Nat) (fa : FA) : Prop := ∀ S ds, fa S = .ok ds → ds.length = n
theorem len_n : Len 0 aN := fun S ds h => by cases h; rfl
theorem len_c {n : Nat} {f : FE} {fa : FA} (h : Len n fa) : Len (n + 1) (aC f fa) := fun S ds q => by
  unfold aC at q
  cases e1 : f S with
  | exc x => rw [e1] at q; cases q
  | fail => rw [e1] at q; cases q
  | ok d =>
    rw [e1] at q
    have q : (fa S >>= fun xs => R.ok (d :: xs)) = .ok ds := q
    cases e2 : fa S with
    | exc x => rw [e2] at q; cases q
    | fail => rw [e2] at q; cases q
    | ok xs => rw [e2] at q; cases q; simp [h S xs e2]
theorem d_call {x : Str} {n : Nat} {p : Pos} {es : List Expr} {fa : FA} (F : Fn0 X c.k x n fr den) (ha : PA' X c false (e :: es) fa) (hl : Len n fa) (hg : Gl X x := by rfl) (hdb : (x == ("__debug__" : Str)) = false := by decide)
    (hs : starEach (e :: es) X.env = (false, eval e X.env) :: starEach es X.env := by rfl) (hs2 : ((backTo pos (starEach es X.env)).any fun x => x.1) = false := by rfl) : PE' X c (kdOf fr) (.Call (.Name x p) (e :: es) [] pos) (eC den fa) := by
  obtain ⟨f, fd, lv, ps, hn, ok, hr, hm, hk, hb⟩ := F.ex
  exact peI (pe_call ok hr hg hm hk hb .nil pass0 ha hdb hs hs2) fun σ H Q q => call_go hl q
mutual
def D.noMut : D → Bool
  | .lst _ => false
  | .dic _ _ => false
  | .dit _ _ => false
  | .dkf _ _ => false
  | .dig _ _ => false
  | .tup xs => D.noMuts xs
  | .obj _ _ => false
  | .scr _ => false
  | _ => true
def D.noMuts : List D → Bool
  | [] => true
  | x :: xs => x.noMut && D.noMuts xs
end
noncomputable def cut (S : Env) (σ : St) (H : Hp) : Hp := fun b => open Classical in if ∃ i, OwnAt S σ i b then none else H b
theorem cut_get {S : Env} {σ : St} {H : Hp} {b : Addr} (h : ∀ i, ¬ OwnAt S σ i b) : cut S σ H b = H b := by
  unfold cut; rw [if_neg (fun ⟨i, q⟩ => h i q)]
theorem Cont.notup {k : Kn} {G : Hp} {d : D} {o : HO} (c : Cont k G d o) : (∀ vs, o ≠ .tup vs) ∧ (∀ q vs, o ≠ .frz q vs) := by
  cases c <;> exact ⟨fun _ z => (by cases z), fun _ _ z => (by cases z)⟩
mutual
theorem RD.cut {c : Cf} {G H H' : Hp} {S : Env} {σ : St} (rel : Rel c G S σ H) (e : Ex H H') : ∀ {d : D} {v : V}, RD c.k H' d v → d.noMut = true → RD c.k (M.cut S σ H') d v
  | _, _, .non, _ => .non
  | _, _, .bl b, _ => .bl b
  | _, _, .int b, _ => .int b
  | _, _, .str b, _ => .str b
  | _, _, .ty b, _ => .ty b
  | _, _, .cls b, _ => .cls b
  | _, _, .tup h r, q => by
    simp only [D.noMut] at q
    refine .tup ?_ (RDs.cut rel e r q)
    rcases h with h | h
    · refine .inl ?_
      rw [cut_get]; exact h
      intro i ow
      obtain ⟨_, _, o, d, ho, _, ct⟩ := rel.own ow
      have := e _ _ ho
      rw [h] at this; cases this
      exact ct.notup.1 _ rfl
    · exact .inr h
  | _, _, .scr _, q => by simp [D.noMut] at q
  | _, _, .lst _ _, q => by simp [D.noMut] at q
  | _, _, .dic _ _ _, q => by simp [D.noMut] at q
  | _, _, .dit _ _ _, q => by simp [D.noMut] at q
  | _, _, .dkf _ _ _, q => by simp [D.noMut] at q
  | _, _, .dig _ _ _ _, q => by simp [D.noMut] at q
  | _, _, .obj _ _ _, q => by simp [D.noMut] at q
theorem RDs.cut {c : Cf} {G H H' : Hp} {S : Env} {σ : St} (rel : Rel c G S σ H) (e : Ex H H') : ∀ {ds : List D} {vs : List V}, RDs c.k H' ds vs → D.noMuts ds = true → RDs c.k (M.cut S σ H') ds vs
  | _, _, .nil, _ => .nil
  | _, _, .cons a b, q => by
    simp only [D.noMuts, Bool.and_eq_true] at q
    exact .cons (RD.cut rel e a q.1) (RDs.cut rel e b q.2)
end
end
end M
set_option Elab.async false
set_option linter.all false
set_option maxRecDepth 100000
set_option maxHeartbeats 4000000
namespace M
open PySem L2
section
variable {X : Cx} {k : Kn}
theorem CallR.or {f : Value} {r r' : List V → Hp → VK → Prop} (h : CallR X f r) (h' : CallR X f r') : CallR X f (fun xs H Q => r xs H Q ∨ r' xs H Q) := fun pins s σ H xs us Q I rx q => by
  rcases q with q | q
  · exact h pins s σ H xs us Q I rx q
  · exact h' pins s σ H xs us Q I rx q
theorem cl1 {f : Value} {kd : Kd} {g : D → R D} {r : List V → Hp → VK → Prop} (h : CallR X f r) (q : ∀ G H x v d, Ex G H → Now k G H x v → g x = .ok d → ∀ Q : VK, (∀ w G' H', Step G H G' H' → Res k H G' H' d w kd → Q w H') → r [v] H Q) :
    ClR X k f kd (fun xs => match xs with | [x] => g x | _ => .fail) := by
  refine ⟨r, h, ?_⟩
  intro G H ds vs d e ns hg Q p
  cases ns with
  | nil => cases hg
  | cons n1 n2 =>
    cases n2 with
    | nil => exact q G H _ _ d e n1 hg Q p
    | cons _ _ => cases hg
theorem cl2 {f : Value} {kd : Kd} {g : D → D → R D} {r : List V → Hp → VK → Prop} (h : CallR X f r) (q : ∀ G H x v y u d, Ex G H → Now k G H x v → Now k G H y u → g x y = .ok d → ∀ Q : VK, (∀ w G' H', Step G H G' H' → Res k H G' H' d w kd → Q w H') → r [v, u] H Q) :
    ClR X k f kd (fun xs => match xs with | [x, y] => g x y | _ => .fail) := by
  refine ⟨r, h, ?_⟩
  intro G H ds vs d e ns hg Q p
  cases ns with
  | nil => cases hg
  | cons n1 n2 =>
    cases n2 with
    | nil => cases hg
    | cons n2 n3 =>
      cases n3 with
      | nil => exact q G H _ _ _ _ d e n1 n2 hg Q p
      | cons _ _ => cases hg
def f1 (g : D → R D) : List D → R D := fun xs => match xs with | [x] => g x | _ => .fail
def f2 (g : D → D → R D) : List D → R D := fun xs => match xs with | [x, y] => g x y | _ => .fail
def lenD : D → R D
  | .str x => if x.length ≤ sizeLine then .ok (.int x.length) else .fail
  | .lst xs => .ok (.int xs.length)
  | .tup xs => .ok (.int xs.length)
  | .scr ns => .ok (.int ns.length)
  | .dic ks _ => .ok (.int ks.length)
  | .dkf ks _ => .ok (.int ks.length)
  | _ => .fail
theorem call_lenFz : CallR X (.builtin "len") (fun xs H Q => ∃ a o kvs, xs = [V.ref a] ∧ H a = some (.frz o (.dK kvs)) ∧ Q (.int kvs.length) H) := by
  intro pins s σ H xs us Q I r h
  obtain ⟨a, o, kvs, rfl, ha, q⟩ := h
  obtain ⟨u, rfl, ru⟩ := vals1 r
  cases ru
  exact d_len I (.inr ⟨o, ha⟩) fun t s' I' => ⟨.int kvs.length, H, I', ⟨t, rfl⟩, q⟩
theorem c_len (hk : k.K = X.K) : ClR X k (.builtin "len") .st (f1 lenD) := cl1 ((call_len.or call_lenD).or call_lenFz) fun G H x v d e n hg Q p => by
  unfold lenD at hg
  split at hg
  · split at hg
    · rename_i hl
      cases hg; obtain rfl := n.str
      exact .inl (.inl ⟨_, _, rfl, ⟨hl, rfl⟩, p _ G H (Step.refl e) (.int _)⟩)
    · cases hg
  · cases hg; obtain ⟨a, vs, rfl, ha, r⟩ := n.lst e
    exact .inl (.inl ⟨_, _, rfl, .inl ⟨vs, SqL.of ha, rfl⟩, by rw [← r.length]; exact p _ G H (Step.refl e) (.int _)⟩)
  · cases hg; obtain ⟨a, vs, rfl, ha, r⟩ := n.tup
    exact .inl (.inl ⟨_, _, rfl, .inr ⟨vs, hk ▸ e.sqT ha.t, rfl⟩, by rw [← r.length]; exact p _ G H (Step.refl e) (.int _)⟩)
  · cases hg; obtain ⟨a, rfl, ha⟩ := n.scr
    exact .inl (.inl ⟨_, _, rfl, .inl ⟨_, hk ▸ e.sqL ha, rfl⟩, by rw [List.length_map]; exact p _ G H (Step.refl e) (.int _)⟩)
  · cases hg; obtain ⟨a, vs, rfl, ha, l, r⟩ := n.dic e
    refine .inl (.inr ⟨a, _, rfl, ha, ?_⟩)
    rw [List.length_zip, ← r.length, ← l, Nat.min_self]; exact p _ G H (Step.refl e) (.int _)
  · cases hg; obtain ⟨a, o, vs, rfl, ha, l, r⟩ := n.dkf e
    refine .inr ⟨a, o, _, rfl, ha, ?_⟩
    rw [List.length_zip, ← r.length, ← l, Nat.min_self]; exact p _ G H (Step.refl e) (.int _)
  · cases hg
def absD : D → R D
  | .int i => .ok (.int (if i < 0 then -i else i))
  | _ => .fail
theorem c_abs : ClR X k (.builtin "abs") .st (f1 absD) := cl1 call_abs fun G H x v d e n hg Q p => by
  cases x <;> simp only [absD] at hg <;> first | (cases hg; done) | skip
  cases hg; obtain rfl := n.int
  exact ⟨_, rfl, p _ G H (Step.refl e) (.int _)⟩
def intD : D → R D
  | .int i => .ok (.int i)
  | .bl b => .ok (.int (if b then 1 else 0))
  | _ => .fail
theorem c_int : ClR X k (.type "int") .st (f1 intD) := cl1 call_int1 fun G H x v d e n hg Q p => by
  cases x <;> simp only [intD] at hg <;> first | (cases hg; done) | skip
  · cases hg; obtain rfl := n.bl
    exact .inr ⟨_, rfl, p _ G H (Step.refl e) (.int _)⟩
  · cases hg; obtain rfl := n.int
    exact .inl ⟨_, rfl, p _ G H (Step.refl e) (.int _)⟩
def min2D : D → D → R D
  | .int i, .int j => .ok (.int (if j < i then j else i))
  | _, _ => .fail
theorem c_min2 (hc : X.calm = true) : ClR X k (.builtin "min") .st (f2 min2D) := cl2 (call_min2 hc) fun G H x v y u d e n m hg Q p => by
  unfold min2D at hg
  split at hg
  · cases hg; obtain rfl := n.int; obtain rfl := m.int
    exact ⟨_, _, rfl, p _ G H (Step.refl e) (.int _)⟩
  · cases hg
def asI : List D → Option (List Int)
  | [] => some []
  | .int i :: r => (asI r).map (i :: ·)
  | _ => none
def asB : List D → Option (List Bool)
  | [] => some []
  | .bl i :: r => (asB r).map (i :: ·)
  | _ => none
def asS : List D → Option (List Str)
  | [] => some []
  | .str i :: r => (asS r).map (i :: ·)
  | _ => none
theorem asI_of {G : Hp} : ∀ {ds : List D} {vs : List V} {ns : List Int}, RDs k G ds vs → asI ds = some ns → vs = ns.map V.int
  | _, _, ns, .nil, h => by cases h; rfl
  | _, _, ns, .cons a b, h => by
    cases a with
    | int i =>
      simp only [asI, Option.map_eq_some_iff] at h
      obtain ⟨r, h1, rfl⟩ := h
      rw [asI_of b h1]; rfl
    | _ => simp [asI] at h
theorem asS_of {G : Hp} : ∀ {ds : List D} {vs : List V} {ns : List Str}, RDs k G ds vs → asS ds = some ns → vs = ns.map V.str
  | _, _, ns, .nil, h => by cases h; rfl
  | _, _, ns, .cons a b, h => by
    cases a with
    | str i =>
      simp only [asS, Option.map_eq_some_iff] at h
      obtain ⟨r, h1, rfl⟩ := h
      rw [asS_of b h1]; rfl
    | _ => simp [asS] at h
@[simp] theorem asI_map (ns : List Int) : asI (ns.map D.int) = some ns := by
  induction ns with
  | nil => rfl
  | cons n ns ih => simp [asI, ih]
@[simp] theorem asB_map (ns : List Bool) : asB (ns.map D.bl) = some ns := by
  induction ns with
  | nil => rfl
  | cons n ns ih => simp [asB, ih]
@[simp] theorem asS_map (ns : List Str) : asS (ns.map D.str) = some ns := by
  induction ns with
  | nil => rfl
  | cons n ns ih => simp [asS, ih]
def minL : List Int → Int
  | [] => 0
  | x :: r => r.foldl (fun a b => if b < a then b else a) x
theorem minL_fold : ∀ (r : List Int) (x : Int), (∀ y, y ∈ x :: r → r.foldl (fun a b => if b < a then b else a) x ≤ y) ∧ r.foldl (fun a b => if b < a then b else a) x ∈ x :: r
  | [], x => by simp
  | y :: r, x => by
    simp only [List.foldl_cons]
    by_cases h : y < x
    · rw [if_pos h]
      obtain ⟨h1, h2⟩ := minL_fold r y
      refine ⟨fun z hz => ?_, List.mem_cons_of_mem _ h2⟩
      rcases List.mem_cons.mp hz with rfl | hz
      · have := h1 y (by simp); omega
      · exact h1 z hz
    · rw [if_neg h]
      obtain ⟨h1, h2⟩ := minL_fold r x
      refine ⟨fun z hz => ?_, ?_⟩
      · rcases List.mem_cons.mp hz with rfl | hz
        · exact h1 z (by simp)
        · rcases List.mem_cons.mp hz with rfl | hz
          · have := h1 x (by simp); omega
          · exact h1 z (by simp [hz])
      · rcases List.mem_cons.mp h2 with z | z
        · rw [z]; simp
        · exact List.mem_cons_of_mem _ (List.mem_cons_of_mem _ z)
def minD : D → R D
  | .lst ds => match asI ds with | some (n :: ns) => .ok (.int (minL (n :: ns))) | _ => .fail
  | _ => .fail
theorem c_min (hc : X.calm = true) : ClR X k (.builtin "min") .st (f1 minD) := cl1 (cr_min hc) fun G H x v d e n hg Q p => by
  cases x <;> simp only [minD] at hg <;> first | (cases hg; done) | skip
  split at hg
  · rename_i n0 ns hn
    cases hg; obtain ⟨a, vs, rfl, ha, r⟩ := n.lst e
    have := asI_of r hn; subst this
    refine ⟨a, n0 :: ns, rfl, SqL.of ha, by simp, fun m hm hle => ?_⟩
    have q := minL_fold ns n0
    have : m = minL (n0 :: ns) := Int.le_antisymm (hle _ q.2) (q.1 m hm)
    rw [this]; exact p _ G H (Step.refl e) (.int _)
  · cases hg
def tupD : D → R D
  | .lst ds => .ok (.tup ds)
  | .tup ds => .ok (.tup ds)
  | _ => .fail
theorem c_tup (hk : k.K = X.K) : ClR X k (.type "tuple") .st (f1 tupD) := cl1 call_tuple_of fun G H x v d e n hg Q p => by
  cases x <;> simp only [tupD] at hg <;> first | (cases hg; done) | skip
  · cases hg; obtain ⟨a, vs, rfl, ha, r⟩ := n.tup
    exact ⟨a, vs, rfl, .inr ⟨hk ▸ e.sqT ha.t, p _ G H (Step.refl e) (.tup ha r)⟩⟩
  · cases hg; obtain ⟨a, vs, rfl, ha, r⟩ := n.lst e
    exact ⟨a, vs, rfl, .inl ⟨SqL.of ha, fun l hl => p _ _ _ (Step.new e hl) (.tup (SqU.of upd_same) (r.mono (Ex.new (e.free hl))))⟩⟩
def lstD : D → R D
  | .lst ds => .ok (.lst ds)
  | .tup ds => .ok (.lst ds)
  | _ => .fail
theorem c_lst (hk : k.K = X.K) : ClR X k (.type "list") .fr (f1 lstD) := cl1 call_list_of fun G H x v d e n hg Q p => by
  cases x <;> simp only [lstD] at hg <;> first | (cases hg; done) | skip
  · cases hg; obtain ⟨a, vs, rfl, ha, r⟩ := n.tup
    exact ⟨a, vs, rfl, .inr (hk ▸ e.sqT ha.t), fun l hl => p _ _ _ (Step.new' e hl) ⟨l, _, rfl, e.free hl, hl, upd_same, .lst r⟩⟩
  · cases hg; obtain ⟨a, vs, rfl, ha, r⟩ := n.lst e
    exact ⟨a, vs, rfl, .inl (SqL.of ha), fun l hl => p _ _ _ (Step.new' e hl) ⟨l, _, rfl, e.free hl, hl, upd_same, .lst r⟩⟩
def flatD : D → Bool
  | .non => true
  | .bl _ => true
  | .int _ => true
  | .str _ => true
  | _ => false
theorem RD.flat {G : Hp} {d : D} {v : V} (r : RD k G d v) (h : flatD d = true) : flatV v = true := by
  cases r <;> first | rfl | (simp [flatD] at h; done)
theorem RDs.flat {G : Hp} : ∀ {ds : List D} {vs : List V}, RDs k G ds vs → ds.all flatD = true → vs.all flatV = true
  | _, _, .nil, _ => rfl
  | _, _, .cons a b, h => by
    simp only [List.all_cons, Bool.and_eq_true] at h ⊢
    exact ⟨a.flat h.1, RDs.flat b h.2⟩
theorem RD.eqV {G : Hp} {d d' : D} {v v' : V} (r : RD k G d v) (r' : RD k G d' v') (h : flatD d = true) (h' : flatD d' = true) : L2.eqV v v' = deq d d' := by
  cases r <;> first | (simp [flatD] at h; done) | skip
  all_goals (cases r' <;> first | (simp [flatD] at h'; done) | (simp [L2.eqV, deq]; done))
theorem RDs.inV {G : Hp} {x : D} {u : V} (r : RD k G x u) (hx : flatD x = true) : ∀ {ds : List D} {vs : List V}, RDs k G ds vs → ds.all flatD = true → L2.inV u vs = ds.any fun z => deq z x
  | _, _, .nil, _ => rfl
  | _, _, .cons a b, h => by
    simp only [List.all_cons, Bool.and_eq_true] at h
    have ih := RDs.inV r hx b h.2
    simp only [L2.inV, List.any_cons] at ih ⊢
    rw [ih, a.eqV r h.1 hx]
theorem toPs_any (n : Nat) (x : D) (hx : dok n x = true) : ∀ {ds : List D} {m : Nat}, doks m ds = true → ((D.toPs ds).any fun z => PyData.eqv z x.toP) = ds.any fun z => deq z x
  | [], _, _ => by simp [D.toPs]
  | d :: ds, m, h => by
    simp only [doks, Bool.and_eq_true] at h
    simp only [D.toPs, List.any_cons]
    rw [toPs_any n x hx h.2, deq_eqv m n d x h.1 hx]
def signD : D → Str → Option Bool
  | .str a, z => match a.cps.toList with
    | [c] => some (decide (c ∈ z.cps.toList))
    | _ => none
  | _, _ => none
theorem signD_of {x : D} {z : Str} {b : Bool} (h : signD x z = some b) : ∃ c, x = .str ⟨#[c]⟩ ∧ b = decide (c ∈ z.cps.toList) := by
  cases x with
  | str a =>
    simp only [signD] at h
    split at h
    · rename_i c hc
      cases h
      obtain ⟨⟨l⟩⟩ := a
      cases hc
      exact ⟨c, rfl, rfl⟩
    · cases h
  | _ => simp [signD] at h
def inD' (x : D) : D → Option Bool
  | .lst ds => if flatD x && ds.all flatD then some (ds.any fun z => deq z x) else if dok 60 x && doks 59 ds then some (ds.any fun z => deq z x) else none
  | .tup ds => if flatD x && ds.all flatD then some (ds.any fun z => deq z x) else none
  | .str z => signD x z
  | _ => none
def inD (x y : D) : R D := match inD' x y with | some b => .ok (.bl b) | none => .fail
def notInD (x y : D) : R D := match inD' x y with | some b => .ok (.bl (!b)) | none => .fail
def rSign (neg : Bool) : R2 := fun x y H Q => ∃ (c : Nat) (z : Str), x = .str ⟨#[c]⟩ ∧ y = .str z ∧ Q (.bl (if neg = true then !decide (c ∈ z.cps.toList) else decide (c ∈ z.cps.toList))) H
theorem in_go {neg : Bool} (hk : k.K = X.K) {G H : Hp} {x y : D} {u v : V} {b : Bool} {Q : VK} (e : Ex G H) (nx : Now k G H x u) (ny : Now k G H y v) (hg : inD' x y = some b) (q : Q (.bl (if neg = true then !b else b)) H) :
    (rIn X.K neg u v H Q ∨ ∃ d ds, Dp X.K H u d ∧ Dp X.K H v (.list ds) ∧ SeqAt.shaped d = true ∧ SeqAt.shaped (.list ds) = true ∧ Q (.bl (if neg = true then !(ds.any fun z => PyData.eqv z d) else ds.any fun z => PyData.eqv z d)) H) ∨ rSign neg u v H Q := by
  cases y with
  | str z =>
    simp only [inD'] at hg
    obtain ⟨c, rfl, rfl⟩ := signD_of hg
    obtain rfl := nx.str
    obtain rfl := ny.str
    exact .inr ⟨c, z, rfl, rfl, q⟩
  | lst ds =>
    simp only [inD'] at hg
    obtain ⟨a, vs, rfl, ha, r⟩ := ny.lst e
    split at hg
    · rename_i hf
      simp only [Bool.and_eq_true] at hf
      cases hg
      have rx := nx.rd e
      have r' := r.mono e
      exact .inl <| .inl ⟨a, vs, rfl, .inl (SqL.of ha), rx.flat hf.1, r'.flat hf.2, by rw [RDs.inV rx hf.1 r' hf.2]; exact q⟩
    · split at hg
      · rename_i hf
        simp only [Bool.and_eq_true] at hf
        cases hg
        have hl : dok 60 (.lst ds) = true := by simp only [dok]; exact hf.2
        have ds' : SeqAt.shaped (.list (D.toPs ds)) = true := by
          have := dok_shaped hl
          simpa only [D.toP] using this
        exact .inl <| .inr ⟨x.toP, D.toPs ds, hk ▸ (nx.rd e).dp 60 hf.1, hk ▸ .lst (SqL.of ha) ((r.mono e).dp 59 hf.2), dok_shaped hf.1, ds', by rw [toPs_any 60 x hf.1 hf.2]; exact q⟩
      · cases hg
  | tup ds =>
    simp only [inD'] at hg
    obtain ⟨a, vs, rfl, ha, r⟩ := ny.tup
    split at hg
    · rename_i hf
      simp only [Bool.and_eq_true] at hf
      cases hg
      have rx := nx.rd e
      have r' := r.mono e
      exact .inl <| .inl ⟨a, vs, rfl, .inr (hk ▸ e.sqT ha.t), rx.flat hf.1, r'.flat hf.2, by rw [RDs.inV rx hf.1 r' hf.2]; exact q⟩
    · cases hg
  | _ => simp [inD'] at hg
theorem o_in (hk : k.K = X.K) (hu : X.A.units + 65 < cLine) : Op2 X k (compareOp .In) .st inD := by
  refine ⟨_, (op_in_seq.or (op_inD hu)).or op_in_sign, ?_⟩
  intro G H x y u v d e nx ny hg Q q
  unfold inD at hg
  split at hg
  · rename_i b hb
    cases hg
    exact in_go (neg := false) hk e nx ny hb (q _ G H (Step.refl e) (.bl _))
  · cases hg
theorem o_notin (hk : k.K = X.K) (hu : X.A.units + 65 < cLine) : Op2 X k (compareOp .NotIn) .st notInD := by
  refine ⟨_, (op_notIn_seq.or (op_notInD hu)).or op_notIn_sign, ?_⟩
  intro G H x y u v d e nx ny hg Q q
  unfold notInD at hg
  split at hg
  · rename_i b hb
    cases hg
    exact in_go (neg := true) hk e nx ny hb (q _ G H (Step.refl e) (.bl _))
  · cases hg
end
end M
set_option Elab.async false
set_option linter.all false
set_option maxRecDepth 100000
set_option maxHeartbeats 4000000
namespace M
open PySem L2
section
variable {X : Cx} {c : Cf} {kd k1 k2 k3 : Kd} {a b e : Expr} {f g h : FE} {pos apos cpos p' : Pos} {fr : Bool} {x : Str}
def ownL (i : Nat) (S : Env) : R (List D) := match S[i]? with
  | some (some ⟨true, .lst ds⟩) => .ok ds
  | _ => .fail
theorem ownL_of {i : Nat} {S : Env} {ds : List D} (h : ownL i S = .ok ds) : S[i]? = some (some ⟨true, .lst ds⟩) := by
  unfold ownL at h
  split at h
  · cases h; assumption
  · cases h
theorem ownL_exc {i : Nat} {S : Env} {x : Exc} : ownL i S ≠ .exc x := by unfold ownL; split <;> intro h <;> cases h
def sApp (i : Nat) (f : FE) : FS := fun S => ownL i S >>= fun ds => f S >>= fun d => if ds.length < sizeLine then .ok (.nx, S.set i (some ⟨true, .lst (ds ++ [d])⟩)) else .fail
theorem s_app (i : Nat) (he : PE' X c .st e f) (hN : X.N[i]? = some x := by rfl) (hv : Vis X.env.scope x := by first | exact Or.inl rfl | exact Or.inr (Or.inl rfl) | exact Or.inr (Or.inr rfl)) (hd : (x == ("__debug__" : Str)) = false := by decide)
    (hcd : (x == ("__classdict__" : Str)) = false := by decide) (h2 : (apos.endLine == cpos.line) = true := by rfl) (h3 : starEach [e] X.env = [(false, eval e X.env)] := by rfl) (hs : swapsWith (.Call (.Attribute (.Name x p') "append" apos) [e] [] cpos) none pos.line X.env = pure false := by rfl) :
    PS' X c fr [i + 1000] (.Expr (.Call (.Attribute (.Name x p') "append" apos) [e] [] cpos) pos) (sApp i f) :=
  psI (ps_expr (pe_bm PySem.F.plainAttrs_list PySem.F.slot_list_append PySem.F.type_list_append mt_append (pe_var hN hv hd hcd) (pa_cons he pa_nil h3) rfl (by rw [h3]; rfl) h2 h3 rfl) hs) fun Dn σ H ⟨G, S, rel, p⟩ => by
    have p : PostS c fr [i + 1000] G S σ H Dn (ownL i S >>= fun ds => f S >>= fun d => if ds.length < sizeLine then .ok (.nx, S.set i (some ⟨true, .lst (ds ++ [d])⟩)) else .fail) := p
    cases e0 : ownL i S with
    | exc x => exact absurd e0 ownL_exc
    | fail => rw [e0] at p; exact p.elim
    | ok ds =>
      rw [e0, R.ok_bind] at p
      have hS := ownL_of e0
      obtain ⟨l, o, es, hg, h0, ho, ct⟩ := rel.ow i _ hS
      cases ct with
      | @lst ds' vs r =>
        refine ⟨_, es, .inl ⟨rfl, vs, SqL.of ho⟩, ?_⟩
        refine rdE_go (g := fun d => if ds.length < sizeLine then .ok (Fl.nx, S.set i (some ⟨true, .lst (ds ++ [d])⟩)) else .fail) (Post := PostS c fr [i + 1000] G S σ H Dn) rel p (fun _ z => z _) (fun z => z) fun d v G' H' sp q p1 => ?_
        by_cases hl : ds.length < sizeLine
        · rw [if_pos hl] at p1
          have rel' := rel.grow sp
          have ow : OwnAt S σ i l := ⟨⟨_, hS⟩, es⟩
          refine ⟨l, vs, v, rfl, rfl, sp.h _ _ ho, by rw [← r.length]; exact hl, p1 G' σ _ sp.g (rel'.mut ow (.lst ((r.mono sp.g).append (.cons q .nil)))) ((Frm.step (as := []) rel sp).trans (Frm.mut rel' ow))⟩
        · rw [if_neg hl] at p1; exact p1.elim
def sExt (i : Nat) (f : FE) : FS := fun S => ownL i S >>= fun ds => f S >>= fun d => match d with
  | .lst es => if ds.length + es.length ≤ sizeLine then .ok (.nx, S.set i (some ⟨true, .lst (ds ++ es)⟩)) else .fail
  | _ => .fail
theorem s_ext (i : Nat) (he : PE' X c k1 e f) (hN : X.N[i]? = some x := by rfl) (hv : Vis X.env.scope x := by first | exact Or.inl rfl | exact Or.inr (Or.inl rfl) | exact Or.inr (Or.inr rfl)) (hd : (x == ("__debug__" : Str)) = false := by decide)
    (hcd : (x == ("__classdict__" : Str)) = false := by decide) (h2 : (apos.endLine == cpos.line) = true := by rfl) (h3 : starEach [e] X.env = [(false, eval e X.env)] := by rfl) (hs : swapsWith (.Call (.Attribute (.Name x p') "extend" apos) [e] [] cpos) none pos.line X.env = pure false := by rfl) :
    PS' X c fr [i + 1000] (.Expr (.Call (.Attribute (.Name x p') "extend" apos) [e] [] cpos) pos) (sExt i f) :=
  psI (ps_expr (pe_bm PySem.F.plainAttrs_list PySem.F.slot_list_extend PySem.F.type_list_extend mt_extend (pe_var hN hv hd hcd) (pa_cons he pa_nil h3) rfl (by rw [h3]; rfl) h2 h3 rfl) hs) fun Dn σ H ⟨G, S, rel, p⟩ => by
    have p : PostS c fr [i + 1000] G S σ H Dn (ownL i S >>= fun ds => f S >>= fun d => match d with
      | .lst es => if ds.length + es.length ≤ sizeLine then .ok (.nx, S.set i (some ⟨true, .lst (ds ++ es)⟩)) else .fail
      | _ => .fail) := p
    cases e0 : ownL i S with
    | exc x => exact absurd e0 ownL_exc
    | fail => rw [e0] at p; exact p.elim
    | ok ds =>
      rw [e0, R.ok_bind] at p
      have hS := ownL_of e0
      obtain ⟨l, o, es, hg, h0, ho, ct⟩ := rel.ow i _ hS
      cases ct with
      | @lst ds' vs r =>
        refine ⟨_, es, .inl ⟨rfl, vs, SqL.of ho⟩, ?_⟩
        refine rdE_go (Post := PostS c fr [i + 1000] G S σ H Dn) rel p (fun _ z => z _) (fun z => z) fun d v G' H' sp q p1 => ?_
        cases d with
        | lst es' =>
          have p1 : PostS c fr [i + 1000] G S σ H Dn (if ds.length + es'.length ≤ sizeLine then .ok (.nx, S.set i (some ⟨true, .lst (ds ++ es')⟩)) else .fail) := p1
          by_cases hl : ds.length + es'.length ≤ sizeLine
          · rw [if_pos hl] at p1
            have rel' := rel.grow sp
            have ow : OwnAt S σ i l := ⟨⟨_, hS⟩, es⟩
            obtain ⟨m, ws, rfl, hm, rm⟩ := q.now.lst sp.gh
            refine ⟨l, m, vs, ws, rfl, rfl, sp.h _ _ ho, hm, by rw [← r.length, ← rm.length]; exact hl, p1 G' σ _ sp.g (rel'.mut ow (.lst ((r.mono sp.g).append rm))) ((Frm.step (as := []) rel sp).trans (Frm.mut rel' ow))⟩
          · rw [if_neg hl] at p1; exact p1.elim
        | _ => exact p1.elim
theorem RDs.dropLast {k : Kn} {G : Hp} {ds : List D} {vs : List V} (r : RDs k G ds vs) : RDs k G ds.dropLast vs.dropLast := by
  rw [List.dropLast_eq_take, List.dropLast_eq_take, r.length]; exact r.take _
end
end M
set_option Elab.async false
set_option linter.all false
set_option maxRecDepth 100000
set_option maxHeartbeats 4000000
namespace M
open PySem L2
theorem zip_lookup : ∀ {nm : List Str} {vs : List V} {j : Nat} {f : Str} {v : V}, nm.Nodup → nm[j]? = some f → vs[j]? = some v → (nm.zip vs).lookup f = some v
  | [], _, j, _, _, _, h, _ => by simp at h
  | _ :: _, [], j, _, _, _, _, h => by simp at h
  | n :: nm, u :: vs, 0, f, v, _, h1, h2 => by
    simp at h1 h2; subst h1; subst h2; simp [List.lookup]
  | n :: nm, u :: vs, j + 1, f, v, hn, h1, h2 => by
    simp only [List.getElem?_cons_succ] at h1 h2
    have hne : f ≠ n := fun z => (List.nodup_cons.mp hn).1 (by rw [← z]; exact List.mem_of_getElem? h1)
    rw [List.zip_cons_cons, List.lookup_cons, beq_eq_false_iff_ne.mpr hne]
    exact zip_lookup (List.nodup_cons.mp hn).2 h1 h2
theorem zip_put : ∀ {nm : List Str} {vs : List V} {f : Str} {v : V}, nm.Nodup → nm[vs.length]? = some f → putF f v (nm.zip vs) = nm.zip (vs ++ [v])
  | [], vs, _, _, _, h => by simp at h
  | n :: nm, [], f, v, _, h => by
    simp at h; subst h
    simp [putF]
  | n :: nm, u :: vs, f, v, hn, h => by
    simp only [List.length_cons, List.getElem?_cons_succ] at h
    have hne : ¬ n = f := fun z => (List.nodup_cons.mp hn).1 (by rw [z]; exact List.mem_of_getElem? h)
    rw [List.zip_cons_cons, List.cons_append, List.zip_cons_cons, ← zip_put (List.nodup_cons.mp hn).2 h]
    simp only [putF]
    rw [if_neg hne]
structure ClsI (K : PySem.W.Frag) (k : Kn) (c : Nat) (nm : List Str) : Prop where
  ex : ∃ C, k.cl c = some (C, nm) ∧ Cls K C ∧ ∀ f, f ∈ nm → NoAttr K C f
  nd : nm.Nodup
  few : nm.length < 1000
section
variable {X : Cx} {c : Cf} {kd k1 k2 k3 : Kd} {a b e o : Expr} {f g h : FE} {pos apos cpos p' : Pos} {fr : Bool} {x : Str} {nm : List Str} {ci : Nat}
def fldD (ci j : Nat) : D → R D
  | .obj c ds => if c = ci then match ds[j]? with | some d => .ok d | none => .fail else .fail
  | _ => .fail
theorem d_fld (ci j : Nat) {fn : Str} (C : ClsI X.K c.k ci nm) (hj : nm[j]? = some fn) (he : PE' X c k1 o f) (hb : attributeBase o fn X.env (eval o X.env) = eval o X.env := by rfl) : PE' X c .st (.Attribute o fn pos) (e1 (fldD ci j) f) :=
  peI (pe_fld he hb) fun σ H Q q => e1_go (r := fun x H1 Q => ∃ a C dx fs v, x = .ref a ∧ H1 a = some (.ins C dx fs) ∧ Cls X.K C ∧ NoAttr X.K C fn ∧ fs.lookup fn = some v ∧ Q v H1) (fun G H d u r ex n hg Q p => by
    cases d with
    | obj c' ds =>
      simp only [fldD] at hg
      split at hg
      · rename_i hc
        subst hc
        split at hg
        · rename_i d' hd
          cases hg
          obtain ⟨ad, CA, dx, nm', vs, rfl, hcl, ha, hr⟩ := n.obj ex
          obtain ⟨CA', hcl', cl, na⟩ := C.ex
          rw [hcl] at hcl'; cases hcl'
          obtain ⟨v, hv, rv⟩ := hr.get hd
          exact ⟨ad, CA, dx, _, v, rfl, ha, cl, na _ (List.mem_of_getElem? hj), zip_lookup C.nd hj hv, p v G H (Step.refl ex) rv⟩
        · cases hg
      · cases hg
    | _ => simp [fldD] at hg) q
def ownO (ci i : Nat) (S : Env) : R (List D) := match S[i]? with
  | some (some ⟨true, .obj c ds⟩) => if c = ci then .ok ds else .fail
  | _ => .fail
theorem ownO_of {ci i : Nat} {S : Env} {ds : List D} (h : ownO ci i S = .ok ds) : S[i]? = some (some ⟨true, .obj ci ds⟩) := by
  unfold ownO at h
  split at h
  · split at h
    · rename_i hc; subst hc; cases h; assumption
    · cases h
  · cases h
theorem ownO_exc {ci i : Nat} {S : Env} {x : Exc} : ownO ci i S ≠ .exc x := by unfold ownO; split; split <;> intro h <;> cases h; intro h; cases h
def sFldN (ci i j : Nat) (f : FE) : FS := fun S => ownO ci i S >>= fun ds => f S >>= fun d => if ds.length = j then .ok (.nx, S.set i (some ⟨true, .obj ci (ds ++ [d])⟩)) else .fail
theorem s_fld (ci i j : Nat) {fn : Str} {px : Pos} (C : ClsI X.K c.k ci nm) (hj : nm[j]? = some fn) (he : PE' X c .st e f) (hN : X.N[i]? = some x := by rfl) (hv : Vis X.env.scope x := by first | exact Or.inl rfl | exact Or.inr (Or.inl rfl) | exact Or.inr (Or.inr rfl)) (hd : (x == ("__debug__" : Str)) = false := by decide)
    (hcd : (x == ("__classdict__" : Str)) = false := by decide) (hs : swapsWith e (some (.Attribute (.Name x px) fn p')) pos.line X.env = pure false := by rfl) : PS' X c fr [i + 1000] (.Assign [.Attribute (.Name x px) fn p'] e pos) (sFldN ci i j f) :=
  psI (ps_fld (pe_var hN hv hd hcd) he hs) fun Dn σ H ⟨G, S, rel, p⟩ => by
    have p : PostS c fr [i + 1000] G S σ H Dn (ownO ci i S >>= fun ds => f S >>= fun d => if ds.length = j then .ok (.nx, S.set i (some ⟨true, .obj ci (ds ++ [d])⟩)) else .fail) := p
    cases e0 : ownO ci i S with
    | exc x => exact absurd e0 ownO_exc
    | fail => rw [e0] at p; exact p.elim
    | ok ds =>
      rw [e0, R.ok_bind] at p
      have hS := ownO_of e0
      obtain ⟨l, ob, es, hg, h0, ho, ct⟩ := rel.ow i _ hS
      have ow : OwnAt S σ i l := ⟨⟨_, hS⟩, es⟩
      cases ct with
      | @obj _ _ CA dx nm' vs hcl hr =>
        obtain ⟨CA', hcl', cl, na⟩ := C.ex
        rw [hcl] at hcl'; cases hcl'
        refine rdE_go (g := fun d => if ds.length = j then .ok (Fl.nx, S.set i (some ⟨true, .obj ci (ds ++ [d])⟩)) else .fail) (Post := PostS c fr [i + 1000] G S σ H Dn) rel p (fun _ z => z _) (fun z => z) fun d v G1 H1 s1 q1 p1 => ?_
        by_cases hl : ds.length = j
        · rw [if_pos hl] at p1
          have rel' := rel.grow s1
          have hl2 : vs.length = j := by rw [← hr.length]; exact hl
          refine ⟨_, es, l, CA, dx, _, rfl, s1.h _ _ ho, cl, na _ (List.mem_of_getElem? hj), ?_, ?_⟩
          · rw [List.length_zip]; exact Nat.lt_of_le_of_lt (Nat.min_le_left _ _) C.few
          · rw [zip_put C.nd (by rw [hl2]; exact hj)]
            exact p1 G1 σ _ s1.g (rel'.mut ow (.obj hcl ((hr.mono s1.g).append (.cons q1 .nil)))) ((Frm.step (as := []) rel s1).trans (Frm.mut rel' ow))
        · rw [if_neg hl] at p1; exact p1.elim
end
noncomputable def less (H : Hp) (x : Addr) : Hp := fun b => open Classical in if b = x then none else H b
def PostN (k : Kn) (x : Addr) (G0 H : Hp) (Q : VK) (E : XK) : R D → Prop
  | .ok d => ∀ G' H' o, Ex G0 G' → (∀ b u, b ≠ x → H b = some u → H' b = some u) → Ex G' H' → G' x = none → (∀ b u, G' b = some u → G0 b = some u ∨ H b = none) → H' x = some o → Cont k G' d o → Q .non H'
  | .exc e => PXs ⟨k, less H x, G0, liftX E⟩ e
  | .fail => False
def SpN (k : Kn) (ci n : Nat) (den : List D → R D) : Sp := fun vs H Q E => vs.length = n ∧ ∃ x rest G0 ds C dx nm, vs = .ref x :: rest ∧ k.cl ci = some (C, nm) ∧ H x = some (.ins C dx []) ∧ G0 x = none ∧ Ex G0 H ∧ RDs k G0 ds rest ∧ PostN k x G0 H Q E (den ds)
def startN (n ci : Nat) (ds : List D) : Env := some ⟨true, .obj ci []⟩ :: (ds.map (fun d => some ⟨false, d⟩) ++ List.replicate (n - (ds.length + 1)) none)
def endN : R (Fl × Env) → R D
  | .ok (.nx, S) => match (S[(0 : Nat)]? : Option (Option Sl)) with
    | some (some ⟨true, d⟩) => .ok d
    | _ => .fail
  | .ok _ => .fail
  | .exc x => .exc x
  | .fail => .fail
def runN (n ci : Nat) (s : FS) (ds : List D) : R D := endN (s (startN n ci ds))
theorem less_self {H : Hp} {x : Addr} : less H x x = none := by unfold less; rw [if_pos rfl]
theorem less_ne {H : Hp} {x b : Addr} (h : b ≠ x) : less H x b = H b := by unfold less; rw [if_neg h]
theorem less_ex {H : Hp} {x : Addr} : Ex (less H x) H := fun b o h => by
  by_cases hb : b = x
  · subst hb; rw [less_self] at h; cases h
  · rw [less_ne hb] at h; exact h
theorem rel_startN {k : Kn} {E : XK} {H G0 : Hp} {N : List Str} {x C dx : Addr} {nm : List Str} {ci : Nat} {ds : List D} {rest : List V} (hcl : k.cl ci = some (C, nm)) (hx : H x = some (.ins C dx [])) (hg : G0 x = none) (e : Ex G0 H) (r : RDs k G0 ds rest) :
    Rel ⟨k, less H x, G0, liftX E⟩ G0 (startN N.length ci ds) (L2.start N (.ref x :: rest)) H := by
  have own : ∀ (i : Nat) (d : D), (startN N.length ci ds)[i]? = some (some ⟨true, d⟩) → i = 0 ∧ d = .obj ci [] := fun i d q => by
    unfold startN at q
    cases i with
    | zero => simp at q; exact ⟨rfl, q.symm⟩
    | succ i =>
      rw [List.getElem?_cons_succ, List.getElem?_append] at q
      split at q
      · rw [List.getElem?_map] at q
        cases h : ds[i]? <;> rw [h] at q <;> cases q
      · rw [List.getElem?_replicate] at q
        split at q <;> cases q
  have e0 : Ex G0 (less H x) := fun b o h => by rw [less_ne (ne_of_none h hg)]; exact e b o h
  refine ⟨⟨Ex.refl _, less_ex, e, fun _ _ h => .inl h⟩, by simp [startN, L2.start, r.length], fun i d q => ?_, fun i d q => ?_, fun i j a o1 o2 => ?_⟩
  · unfold startN at q
    cases i with
    | zero => simp at q
    | succ i =>
      rw [List.getElem?_cons_succ, List.getElem?_append] at q
      split at q
      · rw [List.getElem?_map] at q
        cases h : ds[i]? with
        | none => rw [h] at q; cases q
        | some d' =>
          rw [h] at q; cases q
          obtain ⟨v, h1, h2⟩ := r.get h
          refine ⟨v, ?_, h2⟩
          unfold L2.start
          rw [List.map_cons, List.cons_append, List.getElem?_cons_succ, List.getElem?_append_left (by rw [List.length_map]; exact (List.getElem?_eq_some_iff.mp h1).1), List.getElem?_map, h1]; rfl
      · rw [List.getElem?_replicate] at q
        split at q <;> cases q
  · obtain ⟨rfl, rfl⟩ := own i d q
    refine ⟨x, _, by simp [L2.start], hg, less_self, hx, ?_⟩
    have z : Cont k G0 (.obj ci []) (.ins C dx (nm.zip [])) := .obj hcl .nil
    rw [List.zip_nil_right] at z; exact z
  · obtain ⟨⟨d1, q1⟩, _⟩ := o1
    obtain ⟨⟨d2, q2⟩, _⟩ := o2
    rw [(own i d1 q1).1, (own j d2 q2).1]
theorem body_init {k : Kn} {as : List Nat} {N : List Str} {X : Cx} {body : List Stmt} {s : FS} {H : Hp} {vs : List V} {Q : VK} {E : XK} {n ci : Nat} (h0 : 0 ∉ as) (hb : ∀ H0 G0, PB' X ⟨k, H0, G0, liftX E⟩ false as body s) (q : SpN k ci n (runN N.length ci s) vs H Q E) :
    ∃ t, PSs X body t ∧ t { nx := fun _ H' => Q .non H', rt := Q } (L2.start N vs) H := by
  obtain ⟨hl, x, rest, G0, ds, C, dx, nm, rfl, hcl, hx, hg, e, r, p⟩ := q
  refine ⟨_, hb (less H x) G0, G0, _, rel_startN hcl hx hg e r, ?_⟩
  unfold runN at p
  cases e1 : s (startN N.length ci ds) with
  | exc y =>
    rw [e1] at p
    exact p
  | fail => rw [e1] at p; exact p.elim
  | ok z =>
    rw [e1] at p
    obtain ⟨fl, S1⟩ := z
    cases fl with
    | nx =>
      intro G' σ' H' ex rel fm
      have p : PostN k x G0 H Q E (match (S1[(0 : Nat)]? : Option (Option Sl)) with
        | some (some ⟨true, d⟩) => .ok d
        | _ => .fail) := p
      split at p
      · rename_i d hd
        obtain ⟨a, o, es, hg', h0', ho, ct⟩ := rel.ow 0 d hd
        have : σ'[0]? = some (some (.ref x)) := by rw [fm.sg 0 h0]; simp [L2.start]
        rw [this] at es; cases es
        refine p G' H' o ex (fun b u hb q => rel.st.h b u (by show less H x b = some u; rw [less_ne hb]; exact q)) rel.st.gh hg' (fun b u q => ?_) ho ct
        rcases rel.st.gr b u q with z | z
        · exact .inl z
        · by_cases hb : b = x
          · subst hb; rw [hg'] at q; cases q
          · exact .inr (by rw [← less_ne (H := H) hb]; exact z)
      · exact p.elim
    | bk => exact p.elim
    | ct => exact p.elim
    | rt d => exact p.elim
section
variable {P : Program} {w : World} {K : PySem.W.Frag} {mg : Str → Option Value} {base : Heap}
end
structure Mk0 (X : Cx) (k : Kn) (x : Str) (ci n : Nat) (den : List D → R D) : Prop where
  ex : ∃ (C f : Addr) (fd : FuncData) (lv : Nat) (ps : List Str) (nm : List Str), ps.length = n ∧ k.cl ci = some (C, nm) ∧ Mk X.K C f ∧ FnOk X.prog X.w X.K X.mg X.base CX0 lv f fd ps (SpN k ci n den) ∧ Room (lv + 1) X.A ∧ X.mg x = some (.ref C) ∧ Binds X.K fd ps []
section
variable {X : Cx} {c : Cf} {kd k1 k2 k3 : Kd} {a b e : Expr} {pos : Pos} {den : List D → R D} {ci : Nat}
end
end M
set_option Elab.async false
set_option linter.all false
set_option maxRecDepth 100000
set_option maxHeartbeats 4000000
namespace M
open PySem L2
section
variable {X : Cx} {k : Kn} {c : Cf} {kd k1 k2 k3 : Kd} {a b e o : Expr} {f g h : FE} {pos apos cpos p' : Pos} {fr : Bool}
theorem DpAll.zip {K : PySem.W.Frag} {H : Hp} : ∀ {xs : List V} {ds : List PyData}, DpAll K H xs ds → ∀ {us : List Value}, Vals xs us → PySem.W.EachIs (fun (u : Value) (b : V × PyData) => RelV b.1 u ∧ Dp K H b.1 b.2) us (xs.zip ds)
  | _, _, .nil, _, .nil => .nil
  | _, _, .cons a b, _, .cons r t => .cons ⟨r, a⟩ (DpAll.zip b t)
theorem EachIs.imp {α β : Type} {R R' : α → β → Prop} (h : ∀ a b, R a b → R' a b) : ∀ {as : List α} {bs : List β}, PySem.W.EachIs R as bs → PySem.W.EachIs R' as bs
  | _, _, .nil => .nil
  | _, _, .cons a b => .cons (h _ _ a) (EachIs.imp h b)
theorem each_vals : ∀ {us : List Value} {bs : List (V × PyData)}, PySem.W.EachIs (fun u b => RelV b.1 u) us bs → Vals (bs.map (·.1)) us
  | _, _, .nil => .nil
  | _, _, .cons a b => .cons a (each_vals b)
theorem DpAll.length {K : PySem.W.Frag} {H : Hp} : ∀ {xs : List V} {ds : List PyData}, DpAll K H xs ds → xs.length = ds.length
  | _, _, .nil => rfl
  | _, _, .cons _ b => by simp [DpAll.length b]
def rSrt (X : Cx) : List V → Hp → VK → Prop := fun vs H Q => ∃ a xs ds, vs = [V.ref a] ∧ SqL X.K H a xs ∧ DpAll X.K H xs ds ∧ PySem.W.AllAlike ds ∧ PySem.W.Sortable ds ∧ (∀ d, d ∈ ds → d.depth ≤ 60) ∧
  ∀ p, H p = none → Q (.ref p) (upd H p (.lst (((xs.zip ds).mergeSort (PySem.W.dataLe false (·.2))).map (·.1))))
theorem cr_srt (hu : X.A.units + 64 < cLine) : CallR X (.builtin "sorted") (rSrt X) := by
  intro pins s σ H vs us Q I r h
  obtain ⟨a, xs, ds, rfl, hs, hd, hal, hso, hdp, q⟩ := h
  obtain ⟨u, rfl, ru⟩ := vals1 r
  cases ru
  obtain ⟨its, rv, pl, hz⟩ := I.list hs
  have hlen := DpAll.length hd
  have hm : (xs.zip ds).map (·.2) = ds := by rw [List.map_snd_zip]; omega
  have ea := DpAll.zip hd rv
  refine PySem.W.sorted_data (enc := fun (b : V × PyData) => b.2) (R := fun u (b : V × PyData) => RelV b.1 u) (bs := xs.zip ds) pl.isList (EachIs.imp (fun _ _ z => z.1) ea) (EachIs.imp (fun u b z => Dp.reads I b.2 b.1 u z.2 z.1) ea) (by rw [hm]; exact hal) (by rw [hm]; exact hso) (by rw [List.length_zip]; omega) ?_ ?_
  · intro b hb
    have : b.2 ∈ ds := by rw [← hm]; exact List.mem_map.mpr ⟨b, hb, rfl⟩
    have := hdp _ this
    omega
  · intro out ho eo
    obtain ⟨m, F⟩ := I.fr
    obtain ⟨cn, _, N, _, kp⟩ := PySem.W.sorted_news (news := []) F (fun p hp => nomatch hp) its out
    have hobj := (N _ List.mem_cons_self).1
    have hv := each_vals eo
    refine ⟨.ref (s.heap.objs.size + 1), _, I.laid (a := s.heap.objs.size + 1) (t' := s.toks) (o := .lst _) kp (Nat.le_succ _) ⟨?_, out, cn, hv, hobj⟩, rfl, q _ (I.hok.fresh (Nat.le_succ _))⟩
    rw [List.length_map, List.length_mergeSort, List.length_zip]; omega
end
def dlt (x y : D) : Bool := PySem.W.dataLt x.toP y.toP
def dle (x y : D) : Bool := !dlt y x
mutual
def alikeD : D → D → Bool
  | .non, .non => true
  | .bl _, .bl _ => true
  | .int _, .int _ => true
  | .str _, .str _ => true
  | .lst xs, .lst ys => alikeDs xs ys
  | .tup xs, .tup ys => alikeDs xs ys
  | _, _ => false
def alikeDs : List D → List D → Bool
  | x :: xs, y :: ys => alikeD x y && alikeDs xs ys
  | [], _ => true
  | _ :: _, [] => true
end
mutual
theorem alikeD_of : ∀ (x y : D), alikeD x y = true → PySem.W.alike x.toP y.toP = true
  | .non, y, h => by cases y <;> first | (simp [D.toP, PySem.W.alike]; done) | (simp [alikeD] at h; done)
  | .bl _, y, h => by cases y <;> first | (simp [D.toP, PySem.W.alike]; done) | (simp [alikeD] at h; done)
  | .int _, y, h => by cases y <;> first | (simp [D.toP, PySem.W.alike]; done) | (simp [alikeD] at h; done)
  | .str _, y, h => by cases y <;> first | (simp [D.toP, PySem.W.alike]; done) | (simp [alikeD] at h; done)
  | .lst xs, y, h => by
    cases y with
    | lst ys => simp only [alikeD] at h; simp only [D.toP, PySem.W.alike]; exact alikeDs_of xs ys h
    | _ => simp [alikeD] at h
  | .tup xs, y, h => by
    cases y with
    | tup ys => simp only [alikeD] at h; simp only [D.toP, PySem.W.alike]; exact alikeDs_of xs ys h
    | _ => simp [alikeD] at h
  | .ty _, _, h => by simp [alikeD] at h
  | .dic _ _, _, h => by simp [alikeD] at h
  | .dit _ _, _, h => by simp [alikeD] at h
  | .dkf _ _, _, h => by simp [alikeD] at h
  | .dig _ _, _, h => by simp [alikeD] at h
  | .obj _ _, _, h => by simp [alikeD] at h
  | .scr _, _, h => by simp [alikeD] at h
  | .cls _, _, h => by simp [alikeD] at h
theorem alikeDs_of : ∀ (xs ys : List D), alikeDs xs ys = true → PySem.W.alikeAll (D.toPs xs) (D.toPs ys) = true
  | [], _, _ => by simp [D.toPs, PySem.W.alikeAll]
  | _ :: _, [], _ => by simp [D.toPs, PySem.W.alikeAll]
  | x :: xs, y :: ys, h => by
    simp only [alikeDs, Bool.and_eq_true] at h
    simp only [D.toPs, PySem.W.alikeAll, Bool.and_eq_true]
    exact ⟨alikeD_of x y h.1, alikeDs_of xs ys h.2⟩
end
def srtItem : D → Bool
  | .non => false
  | .tup [] => false
  | _ => true
def srtOk (ds : List D) : Bool := doks 59 ds && ds.all (fun x => ds.all fun y => alikeD x y) && ds.all srtItem
def srt (ds : List D) : List D := ds.mergeSort dle
theorem toPs_mem : ∀ {ds : List D} {p : PyData}, p ∈ D.toPs ds → ∃ d, d ∈ ds ∧ d.toP = p
  | [], _, h => by simp [D.toPs] at h
  | d :: ds, p, h => by
    simp only [D.toPs, List.mem_cons] at h
    rcases h with h | h
    · exact ⟨d, by simp, h.symm⟩
    · obtain ⟨d', h1, h2⟩ := toPs_mem h; exact ⟨d', by simp [h1], h2⟩
theorem doks_mem {n : Nat} : ∀ {ds : List D} {d : D}, doks n ds = true → d ∈ ds → dok n d = true
  | [], _, _, h => by simp at h
  | x :: ds, d, h, hm => by
    simp only [doks, Bool.and_eq_true] at h
    rcases List.mem_cons.mp hm with rfl | hm
    · exact h.1
    · exact doks_mem h.2 hm
theorem srt_sortable {ds : List D} (h : srtOk ds = true) : PySem.W.Sortable (D.toPs ds) := by
  unfold srtOk at h
  simp only [Bool.and_eq_true, List.all_eq_true] at h
  obtain ⟨⟨h1, h2⟩, h3⟩ := h
  cases ds with
  | nil => exact .inl fun d hd => by simp [D.toPs] at hd
  | cons d0 ds =>
    cases d0 with
    | tup xs =>
      refine .inl fun p hp => ?_
      obtain ⟨d, hd, rfl⟩ := toPs_mem hp
      have ha := h2 _ (List.mem_cons_self) d hd
      cases d with
      | tup ys =>
        have := h3 _ hd
        cases ys with
        | nil => simp [srtItem] at this
        | cons y ys => exact ⟨y.toP, D.toPs ys, by simp [D.toP, D.toPs]⟩
      | _ => simp [alikeD] at ha
    | _ =>
      refine .inr fun p hp => ?_
      obtain ⟨d, hd, rfl⟩ := toPs_mem hp
      have ha := h2 _ (List.mem_cons_self) d hd
      have hi := h3 _ hd
      cases d <;> first | (simp [alikeD] at ha; done) | (simp [srtItem] at hi; done) | (simp [D.toP]; done)
section
variable {X : Cx} {k : Kn}
theorem RDs.srt {G : Hp} {ds : List D} {vs : List V} (r : RDs k G ds vs) : RDs k G (M.srt ds) (((vs.zip (D.toPs ds)).mergeSort (PySem.W.dataLe false (·.2))).map (·.1)) := by
  have key : ∀ (bs : List (D × V)), (∀ b, b ∈ bs → RD k G b.1 b.2) → RDs k G (bs.map (·.1)) (bs.map (·.2)) := fun bs => by
    induction bs with
    | nil => intro _; exact .nil
    | cons b bs ih => intro h; exact .cons (h b (by simp)) (ih fun x hx => h x (by simp [hx]))
  have hl := r.length
  have z1 : (ds.zip vs).map (·.1) = ds := by rw [List.map_fst_zip]; omega
  have z2 : vs.zip (D.toPs ds) = (ds.zip vs).map fun b => (b.2, b.1.toP) := by
    clear r z1
    induction ds generalizing vs with
    | nil => cases vs <;> simp [D.toPs]
    | cons d ds ih =>
      cases vs with
      | nil => simp at hl
      | cons v vs => simp only [D.toPs, List.zip_cons_cons, List.map_cons]; rw [ih (by simpa using hl)]
  have e1 : M.srt ds = ((ds.zip vs).mergeSort fun a b => dle a.1 b.1).map (·.1) := by
    unfold M.srt
    rw [List.map_mergeSort (s := dle) (fun _ _ _ _ => rfl), z1]
  have e2 : ((vs.zip (D.toPs ds)).mergeSort (PySem.W.dataLe false (·.2))).map (·.1) = ((ds.zip vs).mergeSort fun a b => dle a.1 b.1).map (·.2) := by
    rw [z2, ← List.map_mergeSort (r := fun a b => dle a.1 b.1) (f := fun (b : D × V) => (b.2, b.1.toP)) (fun a _ b _ => by rw [PySem.W.dataLe_eq]; rfl), List.map_map]
    rfl
  rw [e1, e2]
  refine key _ fun b hb => ?_
  have hb : b ∈ ds.zip vs := List.mem_mergeSort.mp hb
  have : ∀ {ds : List D} {vs : List V}, RDs k G ds vs → ∀ b, b ∈ ds.zip vs → RD k G b.1 b.2 := fun {ds vs} r => by
    intro b hb
    obtain ⟨i, hi, rfl⟩ := List.mem_iff_getElem.mp hb
    rw [List.getElem_zip]
    have h1 : i < ds.length := by rw [List.length_zip] at hi; omega
    obtain ⟨v, hv, rv⟩ := r.get (List.getElem?_eq_getElem h1)
    have h2 : i < vs.length := by rw [List.length_zip] at hi; omega
    rw [List.getElem?_eq_getElem h2] at hv; cases hv
    exact rv
  exact this r b hb
end
end M
set_option Elab.async false
set_option linter.all false
set_option maxRecDepth 100000
set_option maxHeartbeats 4000000
namespace M
open PySem L2
theorem _root_.L2.Room.units5 {k : Nat} {A : Around} (r : Room k A) : A.units + 65 < cLine := by have := r.un; omega
structure Callee (P : Program) (w : World) (K : PySem.W.Frag) (mg : Str → Option Value) (base : Heap) (k : Kn) (lv : Nat) (x : Str) (n : Nat) (fr : Bool) (den : List D → R D) : Prop where
  ex : ∃ (f : Addr) (fd : FuncData) (ps : List Str), ps.length = n ∧ FnOk P w K mg base CX0 lv f fd ps (SpF k fr n den) ∧ mg x = some (.ref f) ∧ PySem.W.keepIn K (.ref f) = true ∧ Binds K fd ps []
theorem Callee.at {X : Cx} {k : Kn} {lv m : Nat} {x : Str} {n : Nat} {fr : Bool} {den : List D → R D} (h : Callee X.prog X.w X.K X.mg X.base k lv x n fr den) (hr : Room m X.A) (hle : lv ≤ m) : Fn0 X k x n fr den := by
  obtain ⟨f, fd, ps, hn, h1, h2, h3, h4⟩ := h.ex
  exact ⟨f, fd, lv, ps, hn, h1, hr.mono hle, h2, h3, h4⟩
structure Gc (mg : Str → Option Value) (k : Kn) (x : Str) (d : D) : Prop where
  ex : ∃ v u, mg x = some u ∧ RelV v u ∧ ∀ G, RD k G d v
section
variable {X : Cx} {c : Cf} {k : Kn} {kd k1 k2 k3 : Kd} {a b e o : Expr} {f g h : FE} {pos apos cpos p' : Pos} {fr : Bool} {x y : Str}
def eG (d : D) : FE := fun _ => .ok d
theorem d_g {d : D} (h : Gc X.mg c.k x d) (hg : Gl X x := by rfl) (hd : (x == ("__debug__" : Str)) = false := by decide) : PE' X c .st (.Name x pos) (eG d) := by
  obtain ⟨v, u, hm, r, rd⟩ := h.ex
  exact cst_of (pe_glob hg hm r hd) rd
def eY (n : String) : FE := fun _ => .ok (.ty n)
theorem d_ty (n : String) (hm : X.mg x = none) (hv : bootBuiltins x = some (.type n) := by decide +kernel) (hg : Gl X x := by rfl) (hn : x ≠ "__name__" := by decide) (hd : (x == ("__debug__" : Str)) = false := by decide) : PE' X c .st (.Name x pos) (eY n) :=
  cst_of (pe_bltn (v := .ty n) hg hm hv rfl hn hd) fun _ => .ty n
def tyN : D → Option String
  | .non => some "NoneType"
  | .bl _ => some "bool"
  | .int _ => some "int"
  | .str _ => some "str"
  | .tup _ => some "tuple"
  | .lst _ => some "list"
  | .dic _ _ => some "dict"
  | .dit _ _ => some "dict"
  | .dkf _ _ => some "dict"
  | _ => none
theorem Now.tyX (hk : k.K = X.K) {G H : Hp} {d : D} {v : V} {n : String} (e : Ex G H) (w : Now k G H d v) (h : tyN d = some n) : TyX X.K H v (.type n) := by
  cases d <;> simp only [tyN] at h <;> first | (cases h; done) | skip
  · cases h; obtain rfl := w.non; exact .base .non
  · cases h; obtain rfl := w.bl; exact .base (.bl _)
  · cases h; obtain rfl := w.int; exact .base (.int _)
  · cases h; obtain rfl := w.str; exact .base (.str _)
  · cases h; obtain ⟨a, vs, rfl, ha, r⟩ := w.tup
    rcases e.sqU ha with q | ⟨o, its, m, q1, q2, q3⟩
    · exact .base (.tup q)
    · exact .kTuple (hk ▸ q1) q2
  · cases h; obtain ⟨a, vs, rfl, ha, r⟩ := w.lst e; exact .base (.lst ha)
  · cases h; obtain ⟨a, vs, rfl, ha, r⟩ := w.dic e; exact .base (.dK ha)
  · cases h; obtain ⟨a, vs, rfl, ha, r⟩ := w.dit e; exact .base (.dT ha)
  · cases h; obtain ⟨a, o, vs, rfl, ha, l, r⟩ := w.dkf e; exact .fDict ha
def isiD : D → D → R D
  | x, .ty b => (match tyN x with
    | some a => (match kitB a b with
      | some r => .ok (.bl r)
      | none => .fail)
    | none => .fail)
  | _, _ => .fail
theorem c_isi (hk : k.K = X.K) : ClR X k (.builtin "isinstance") .st (f2 isiD) := cl2 call_isi fun G H x v y u d e n m hg Q p => by
  unfold isiD at hg
  split at hg
  · split at hg
    · rename_i ha
      split at hg
      · rename_i hb
        cases hg; obtain rfl := m.ty
        exact ⟨v, _, _, _, _, rfl, .ty _, n.tyX hk e ha, kit_ty hb, p _ G H (Step.refl e) (.bl _)⟩
      · cases hg
    · cases hg
  · cases hg
theorem SlR.or {r r' : V → Option Int → Option Int → Hp → VK → Prop} (h : SlR X r) (h' : SlR X r') : SlR X (fun x l u H Q => r x l u H Q ∨ r' x l u H Q) := fun pins s σ H x v vl vu lo hi sl Q I rx hs h1 h2 q => by
  rcases q with q | q
  · exact h pins s σ H x v vl vu lo hi sl Q I rx hs h1 h2 q
  · exact h' pins s σ H x v vl vu lo hi sl Q I rx hs h1 h2 q
abbrev FO := Env → R (Option Int)
def oN : FO := fun _ => .ok none
def toI : D → R (Option Int)
  | .int i => .ok (some i)
  | _ => .fail
def oS (f : FE) : FO := fun S => f S >>= toI
def cutL {α : Type} (xs : List α) (lo hi : Option Int) : List α := List.take (HT.sIx xs.length xs.length hi - HT.sIx xs.length 0 lo) (List.drop (HT.sIx xs.length 0 lo) xs)
def slD (x : D) (lo hi : Option Int) : R D := match x with
  | .lst xs => .ok (.lst (cutL xs lo hi))
  | .tup xs => .ok (.tup (cutL xs lo hi))
  | .str z => if z.length ≤ sizeLine then .ok (.str (cutS z lo hi)) else .fail
  | _ => .fail
def eSl (f : FE) (l h : FO) : FE := fun S => f S >>= fun x => l S >>= fun lo => h S >>= fun hi => (slD x lo hi).nox
theorem RDs.cutL {G : Hp} {ds : List D} {vs : List V} (r : RDs k G ds vs) (lo hi : Option Int) : RDs k G (M.cutL ds lo hi) (cutV vs lo hi) := by
  unfold M.cutL cutV
  rw [← r.length]
  exact (r.drop _).take _
theorem setF_go {i : Nat} {Dn : Ends} {σ : St} {H : Hp} (q : RdS c fr [i] (sSet i f) Dn σ H) : RdE c .fr f σ H fun x H1 => gName i x σ H1 Dn.nx := by
  obtain ⟨G, S, rel, p⟩ := q
  refine rdE_go (g := fun d => .ok (Fl.nx, S.set i (some ⟨false, d⟩))) (Post := PostS c fr [i] G S σ H Dn) rel p (fun _ z => z _) (fun z => z) fun d v G' H' sp q p1 => ?_
  obtain ⟨a, o, rfl, hg, hn, ha, ct⟩ := q
  have sp2 : Step G H (upd G' a o) H' := sp.frz ha hn hg
  exact p1 _ _ H' sp2.g ((rel.grow sp2).setS i ((ct.mono (Ex.new hg)).rd upd_same)) ((Frm.step (as := []) rel sp2).trans (Frm.set i _ _))
theorem s_lcZ (i : Nat) {py spos : Pos} {tg elt iter : Expr} {t : FT} {ifs : List Expr} {scope : Scope} (own : List (Str × Nat)) {ki gs : List Nat} {fi : FI} {ga : FG} {fe : FE} (hc : X.calm = true) (hN : X.N.Nodup) (hi : PI' X c ki tg iter fi) (ok : BlkOk X.N X.env.scope scope own)
    (hg : ∀ (s : Shared) (H : Hp) (C : Addr) (cl : List (Str × Addr)) (fp : List Addr), PG' (X.blk s H scope (compEnvC scope cl C X.env) fp) c.nx gs tg ga) (ht : ∀ (s : Shared) (H : Hp) (C : Addr) (cl : List (Str × Addr)) (fp : List Addr), PTs' (X.blk s H scope (compEnvC scope cl C X.env) fp) c.nx ifs t)
    (he : ∀ (s : Shared) (H : Hp) (C : Addr) (cl : List (Str × Addr)) (fp : List Addr), PE' (X.blk s H scope (compEnvC scope cl C X.env) fp) c.nx .st elt fe) (hy : X.N[i]? = some y := by rfl) (hyl : X.env.scope.names.lookup y = some .local := by rfl)
    (hsw : swapsWith (.ListComp elt [⟨tg, iter, ifs, 0⟩] scope pos) (some (.Name y py)) spos.line X.env = pure true := by exact sw_true rfl rfl rfl (by decide +kernel)) (hgs : ∀ i, i ∈ gs → i ∈ own.map (·.2) := by decide) (hs : ∀ x, foldedSetIterable iter X.env x = pure x := by intro _; rfl) :
    PS' X c fr [i] (.Assign [.Name y py] (.ListComp elt [⟨tg, iter, ifs, 0⟩] scope pos) spos) (sSet i (lcE fi ga t fe (own.map (·.2)))) :=
  psI (ps_setLc hc hN hy hyl hsw hi ok hg ht he hs) fun Dn σ H q => lc_go (fun _ _ _ _ z => z) (fun _ _ _ z => z) (fun _ _ _ z => z) hgs (setF_go q)
theorem eV_exc {i : Nat} {S : Env} {x : Exc} : eV i S ≠ .exc x := by unfold eV; split <;> intro h <;> cases h
theorem eV_of {i : Nat} {S : Env} {d : D} (h : eV i S = .ok d) : S[i]? = some (some ⟨false, d⟩) := by
  unfold eV at h
  split at h
  · cases h; assumption
  · cases h
def IpI (X : Cx) (op : Operator) (o : D → D → R D) : Prop := ∃ gf : Int → Int → Int, PIp X op (ipI gf) ∧ ∀ x y d, o x y = .ok d → (∀ i j, x = .int i → y = .int j → d = .int (gf i j))
theorem i_add : IpI X .Add addD := ⟨_, ip_add, fun x y d h i j e1 e2 => by subst e1; subst e2; simp only [addD] at h; cases h; rfl⟩
def bothI : D → D → Bool
  | .int _, .int _ => true
  | _, _ => false
def sAugI (i : Nat) (o : D → D → R D) (f : FE) : FS := fun S => eV i S >>= fun x => f S >>= fun y => if bothI x y then (o x y).nox >>= fun z => .ok (.nx, S.set i (some ⟨false, z⟩)) else .fail
theorem s_aug (i : Nat) {op : Operator} {oo : D → D → R D} (ho : IpI X op oo) (hN : X.N.Nodup) (he : PE' X c k1 e f) (hi : X.N[i]? = some x := by rfl) (hx : Loc X.env.scope x := by first | exact Or.inl rfl | exact Or.inr rfl) (hf : X.fn x = true ∨ X.env.scope.names.lookup x = some .local := by first | exact .inl rfl | exact .inr rfl) :
    PS' X c fr [i] (.AugAssign (.Name x p') op e pos) (sAugI i oo f) := by
  obtain ⟨gf, h1, h2⟩ := ho
  refine psI (ps_aug hN hi hx he h1 hf) fun Dn σ H ⟨G, S, rel, p⟩ => ?_
  have p : PostS c fr [i] G S σ H Dn (eV i S >>= fun x => f S >>= fun y => if bothI x y then (oo x y).nox >>= fun z => .ok (.nx, S.set i (some ⟨false, z⟩)) else .fail) := p
  cases e0 : eV i S with
  | exc x => exact absurd e0 eV_exc
  | fail => rw [e0] at p; exact p.elim
  | ok d =>
    rw [e0, R.ok_bind] at p
    obtain ⟨v, es, rv⟩ := rel.fz i d (eV_of e0)
    refine ⟨v, es, ?_⟩
    refine rdE_go (Post := PostS c fr [i] G S σ H Dn) rel p (fun _ z => z _) (fun z => z) fun d2 v2 G' H' sp q p1 => ?_
    by_cases hb : bothI d d2 = true
    · rw [if_pos hb] at p1
      cases d <;> first | (simp [bothI] at hb; done) | skip
      cases d2 <;> first | (simp [bothI] at hb; done) | skip
      rename_i a1 a2
      cases rv
      obtain rfl := q.now.int
      cases e1 : oo (.int a1) (.int a2) with
      | exc x => rw [e1] at p1; exact p1.elim
      | fail => rw [e1] at p1; exact p1.elim
      | ok z =>
        rw [e1] at p1
        have := h2 _ _ _ e1 a1 a2 rfl rfl
        subst this
        exact ⟨a1, a2, rfl, rfl, p1 G' _ H' sp.g ((rel.grow sp).setS i (.int _)) ((Frm.step (as := []) rel sp).trans (Frm.set i _ _))⟩
    · rw [if_neg hb] at p1; exact p1.elim
def putS (S : Env) : List Nat → List D → Env
  | i :: is, d :: ds => putS (S.set i (some ⟨false, d⟩)) is ds
  | _, _ => S
def sPar (is : List Nat) (fa : FA) : FS := fun S => fa S >>= fun ds => if ds.length = is.length then .ok (.nx, putS S is ds) else .fail
end
end M
set_option Elab.async false
set_option linter.all false
set_option maxRecDepth 100000
set_option maxHeartbeats 4000000
namespace M
open PySem L2
section
variable {τ κ : Type}
def freshSet (w : World) : Obj := { cls := .type "set", dict := none, data := .set #[] 0 (.fresh 0 0 (!w.params.followText "set-order")) }
structure Fam (P : Program) (w : World) (K : PySem.W.Frag) (τ κ : Type) where
  ob : τ → Addr → HO
  t0 : τ
  pre : τ → V → κ → Hp → Prop
  post : τ → V → κ → τ → Prop
  new : ∀ (H : Hp) (h : Heap) (a : Addr), h.get? a = some (freshSet w) → ObjOk P w H h a (ob t0 a)
  add : ∀ (X : Cx), X.prog = P → X.w = w → X.K = K → X.A.units + 64 < cLine → ∀ (pins : List (Addr × Obj)) (s : Shared) (σ : L2.St) (H : Hp) (S : Addr) (t : τ) (y : V) (kk : κ) (u : Value) (Q : Value → Shared → Prop) (E : Value → Shared → Prop), Inv X pins σ H s → H S = some (ob t S) → RelV y u → pre t y kk H →
    (∀ t' s', post t y kk t' → Inv X pins σ (upd H S (ob t' S)) s' → Q .none s') → wpAny (model P w) X.A (call (.builtin "set.add") [.ref S, u]) Q E s
def tScG {P : Program} {w : World} {K : PySem.W.Frag} (F : Fam P w K τ κ) (wi : TI) (g : TG) (tt : TT) (te : TE) (vs : List Nat) : TE := fun σ H Q => wi σ H fun J H1 => ∀ S, H1 S = none → ∃ W : Nat → Nat → Hp → Prop, (∃ m, W 0 m (upd H1 S (F.ob F.t0 S))) ∧ ∀ i m H, W i m H →
  (J.stop i H ∧ Q (.ref S) H) ∨ (J.go i H ∧ ∃ Nx : Hp → Prop, (∀ H', Nx H' → ∃ m', m' < m ∧ W (i + 1) m' H') ∧ ∀ x H', J.yld i H x H' → g x (L2.wipe σ vs) H' fun σ2 H2 => L2.wipe σ2 vs = L2.wipe σ vs ∧ tt σ2 H2 fun b H3 =>
    if b = true then te σ2 H3 fun y H4 => ∃ t kk, H4 S = some (F.ob t S) ∧ F.pre t y kk H4 ∧ ∀ t', F.post t y kk t' → Nx (upd H4 S (F.ob t' S)) else Nx H3)
variable {X : Cx}
theorem pe_scG (F : Fam X.prog X.w X.K τ κ) {elt tg iter : Expr} {ifs : List Expr} {scope : Scope} {own : List (Str × Nat)} {pos : Pos} {wi : TI} {g : TG} {tt : TT} {te : TE} (hu : X.A.units + 64 < cLine) (hc : X.calm = true) (hN : X.N.Nodup) (hi : PI X tg iter wi) (ok : BlkOk X.N X.env.scope scope own)
    (hg : ∀ (s : Shared) (H : Hp) (C : Addr) (cl : List (Str × Addr)) (fp : List Addr), PG (X.blk s H scope (compEnvC scope cl C X.env) fp) tg g) (ht : ∀ (s : Shared) (H : Hp) (C : Addr) (cl : List (Str × Addr)) (fp : List Addr), PTs (X.blk s H scope (compEnvC scope cl C X.env) fp) ifs tt)
    (he : ∀ (s : Shared) (H : Hp) (C : Addr) (cl : List (Str × Addr)) (fp : List Addr), PE (X.blk s H scope (compEnvC scope cl C X.env) fp) elt te) (hs : ∀ x, foldedSetIterable iter X.env x = pure x := by intro _; rfl) :
    PE X (.SetComp elt [⟨tg, iter, ifs, 0⟩] scope pos) (tScG F wi g tt te (own.map (·.2))) := by
  constructor
  intro pins s σ H Q I rd
  rw [PpSet.eval_SetComp]
  have cells : ∀ y ∈ scope.names, y.2 = .free → ∃ c, X.env.cells.lookup y.1 = some c := fun y hy e => (ok.free y hy e).elim (fun k => I.ok.has _ (.inl k)) fun k => I.ok.has _ (.inr k)
  refine wpAny_comprehension_free (use := none) rfl hs (closure_ok cells) ok.kind (fun y hy e => by rw [ok.uniq y hy, e]) (thn (hi.run pins s σ H _ I rd) fun xv s1 hx => thn hx fun itv s2 h2 => ?_)
  obtain ⟨it, fp, tn, J, H2, rfl, I2, T, st2, f2, q⟩ := h2
  refine PpSet.newSet_ok (newEnv_comp ?_)
  have hfr : H2 s2.heap.objs.size = none := I2.hok.fresh (Nat.le_refl _)
  generalize hA : s2.heap.objs.size = A0 at hfr
  obtain ⟨W, ⟨m0, w0⟩, turn⟩ := q A0 hfr
  obtain ⟨s3, hs3⟩ : ∃ s3 : Shared, s3 = { s2 with heap := s2.heap.push (freshSet X.w) } := ⟨_, rfl⟩
  obtain ⟨H3, hH3⟩ : ∃ H3 : Hp, H3 = upd H2 A0 (F.ob F.t0 A0) := ⟨_, rfl⟩
  have old : ∀ b o, s2.heap.get? b = some o → s3.heap.get? b = some o := fun b o e => by rw [hs3]; exact Heap.get?_push_of_some _ e
  have I3 : Inv X pins σ H3 s3 := by
    rw [hs3, hH3]
    exact I2.laid (t' := s2.toks) (fun b o e => Heap.get?_push_of_some _ e) (Nat.le_of_eq hA) (F.new _ _ _ (by rw [← hA]; exact Heap.get?_push_size _ rfl))
  have there : ∀ b ∈ fp, b < s2.heap.objs.size := fun b hb => by
    obtain ⟨o, e, _⟩ := T.obj _ _ st2 b hb
    exact Heap.lt_size e
  have f3 : ∀ b ∈ fp, FpOk X pins H3 b ∧ b < s3.heap.objs.size := fun b hb => by
    have lt := there b hb
    refine ⟨⟨?_, (f2 b hb).2⟩, by rw [hs3]; exact (Heap.size_push ..).symm ▸ Nat.lt_succ_of_lt lt⟩
    rw [hH3, upd_ne (by rw [← hA]; exact Nat.ne_of_lt lt)]
    exact (f2 b hb).1
  have st3 : tn 0 s3.heap := T.keep _ _ _ st2 fun b _ o e => old b o e
  have I4 := block_start I3 ok hN f3
  have pg := hg s3 H3 s3.heap.objs.size (cellsFrom (s3.heap.objs.size + 1) scope.names (cloFrom X.env.cells scope.names [])) fp
  have pt := ht s3 H3 s3.heap.objs.size (cellsFrom (s3.heap.objs.size + 1) scope.names (cloFrom X.env.cells scope.names [])) fp
  have pe := he s3 H3 s3.heap.objs.size (cellsFrom (s3.heap.objs.size + 1) scope.names (cloFrom X.env.cells scope.names [])) fp
  have goal : codeAny (model X.prog X.w) X.A (.compStart (.SetComp elt [⟨tg, iter, ifs, 0⟩] scope pos) 0 (.ref it) (.ref A0) (compEnvC scope (cellsFrom (s3.heap.objs.size + 1) scope.names (cloFrom X.env.cells scope.names [])) s3.heap.objs.size X.env))
      (compPost (model X.prog X.w) X.A X.xe none (EP X pins σ Q) (.ref A0) s3.heap.objs.size) { s3 with heap := pushCells (s3.heap.push { cls := .type "dict", data := .dict #[] }) scope.names } := by
    generalize hce : compEnvC scope (cellsFrom (s3.heap.objs.size + 1) scope.names (cloFrom X.env.cells scope.names [])) s3.heap.objs.size X.env = ce at I4 pg pt pe ⊢
    have cL : ce.locals = s3.heap.objs.size := by subst hce; rfl
    generalize hs4 : ({ s3 with heap := pushCells (s3.heap.push { cls := .type "dict", data := .dict #[] }) scope.names } : Shared) = s4 at I4 ⊢
    have st4 : tn 0 s4.heap := T.keep _ _ _ st3 fun b _ o e => by rw [← hs4]; exact pushCells_keeps _ _ _ _ (Heap.get?_push_of_some _ e)
    have fpo : ∀ {σ' : L2.St} {H' : Hp} {s' : Shared}, Inv (X.blk s3 H3 scope ce fp) [] σ' H' s' → (∀ b ∈ fp, H' b = none) → ∀ b ∈ fp, FpOk (X.blk s3 H3 scope ce fp) [] H' b := fun {σ' H' s'} J' hn b hb =>
      ⟨hn b hb, (J'.ok.exf b hb).1, J'.ok.exfs b hb, .inl hb, (J'.ok.exf b hb).2, fun p hp => by cases (show p ∈ ([] : List (Addr × Obj)) from hp)⟩
    have loop : codeAny (model X.prog X.w) X.A (.compLoop (.SetComp elt [⟨tg, iter, ifs, 0⟩] scope pos) 0 (.ref it) (.ref A0) ce) (compPost (model X.prog X.w) X.A X.xe none (EP X pins σ Q) (.ref A0) s3.heap.objs.size) s4 := by
      refine PpSet.compLoopS_any (fun n s' => ∃ i H', Inv (X.blk s3 H3 scope ce fp) [] (L2.wipe σ (own.map (·.2))) H' s' ∧ tn i s'.heap ∧ (∀ b ∈ fp, H' b = none) ∧ W i n H') ?_ m0 ⟨0, H3, I4, st4, fun b hb => (f3 b hb).1.1, by rw [hH3]; exact w0⟩
      rintro n s5 ⟨i, H5, I5, st5, n5, w5⟩
      rcases turn i n H5 w5 with ⟨stop, qq⟩ | ⟨go, Nx, hNx, step⟩
      · refine thnF (T.done (X.blk s3 H3 scope ce fp) rfl rfl rfl hc i [] s5 _ H5 (fun _ _ => False) I5 (fpo I5 n5) st5 stop) fun r s6 ⟨hr, I6⟩ => ?_
        subst hr
        have I7 : Inv X pins σ H5 s6 := I3.call' (ch := fp) I6.os I6.base I6.hok I6.bare fun b hb => ⟨(f3 b hb).1.2.2.2.1, (f3 b hb).1.2.1, (f3 b hb).1.2.2.2.2.1, (f3 b hb).1.2.2.2.2.2⟩
        have nC : H5 s3.heap.objs.size = none := by rw [← cL]; exact I6.free
        obtain ⟨m, hn, _⟩ := I6.loc
        have hn : s6.heap.Ns ce.locals m := hn
        rw [cL] at hn
        have fC := I3.fpOk (Nat.le_refl _) nC
        exact ⟨m, hn, fun h'' sb => ⟨.ref A0, H5, I7.turned (t' := s6.toks) (fun b o hb e => (sb.2 b hb).trans e) fC.1 fC.2.1 fC.2.2.2.1 fC.2.2.2.2.1 fC.2.2.2.2.2, rfl, qq⟩⟩
      · refine thnF (T.item (X.blk s3 H3 scope ce fp) rfl rfl rfl hc i [] s5 _ H5 (fun _ _ => False) I5 (fpo I5 n5) st5 go) fun r s6 ⟨u, hr, h6⟩ => ?_
        subst hr
        refine thnF h6 fun _ s7 ⟨x, H7, I7, r7, y7, st7, n7⟩ => ?_
        have I7' := I7.pinned (fpo I7 n7) (T.obj _ _ st7)
        refine thnF (pg.run _ s7 _ H7 x u _ I7' r7 (step x H7 y7)) fun _ s8 ⟨σ8, H8, I8, hw8, q8⟩ => ?_
        refine thnF (pt.run _ s8 σ8 H8 _ I8 q8) fun b s9 ⟨H9, I9, q9⟩ => ?_
        have fin : ∀ {s' : Shared} {H' : Hp}, Inv (X.blk s3 H3 scope ce fp) ([] ++ pinsAt fp s7.heap) σ8 H' s' → Nx H' → ∃ m, m < n ∧ ∃ i H', Inv (X.blk s3 H3 scope ce fp) [] (L2.wipe σ (own.map (·.2))) H' s' ∧ tn i s'.heap ∧ (∀ b ∈ fp, H' b = none) ∧ W i m H' := fun {s' H'} I' nx => by
          obtain ⟨m', hm, w'⟩ := hNx H' nx
          have pinned : ∀ b ∈ fp, ∀ o, s7.heap.get? b = some o → s'.heap.get? b = some o ∧ H' b = none := fun b hb o e =>
            let z := I'.pin (b, o) (List.mem_append_right _ (List.mem_append_right _ (mem_pinsAt hb e)))
            ⟨z.1, z.2.1⟩
          refine ⟨m', hm, i + 1, H', (I'.unpinned (pins := [])).weak (by rw [← hw8, wipe_length]) (fun j v e => ?_), T.keep _ _ _ st7 fun b hb o e => (pinned b hb o e).1, fun b hb => ?_, w'⟩
          · rw [← hw8] at e
            exact (wipe_some e).1
          · obtain ⟨o, e, _⟩ := T.obj _ _ st7 b hb
            exact (pinned b hb o e).2
        cases b with
        | false =>
          rw [if_neg Bool.false_ne_true] at q9 ⊢
          exact fin I9 q9
        | true =>
          rw [if_pos rfl] at q9 ⊢
          refine thnF (pe.run _ s9 σ8 H9 _ I9 q9) fun z s10 ⟨yv, H10, I10, r10, t, kk, ht10, hp10, nx⟩ => ?_
          exact F.add (X.blk s3 H3 scope ce fp) rfl rfl rfl hu _ s10 σ8 H10 A0 t yv kk z _ _ I10 ht10 r10 hp10 fun t' s11 hpost I11 => fin I11 (nx t' hpost)
    exact PpSet.codeAny_compStart_set loop (T.self X.A 0 _ _ _ st4 loop)
  rw [hs3] at goal
  exact goal
end
section
def asT : D → Option (List Int)
  | .tup ds => asI ds
  | _ => none
def asTs : List D → Option (List (List Int))
  | [] => some []
  | d :: ds => match asT d, asTs ds with
    | some k, some ks => some (k :: ks)
    | _, _ => none
theorem RD.asT {k : Kn} {G : Hp} {d : D} {v : V} {ns : List Int} (r : RD k G d v) (h : M.asT d = some ns) : ∃ a, v = .ref a ∧ SqU k.K G a (ns.map V.int) := by
  cases d <;> simp only [M.asT] at h <;> first | (cases h; done) | skip
  cases r with
  | tup hs hr =>
    have := asI_of hr h
    subst this
    exact ⟨_, rfl, hs⟩
end
end M
set_option Elab.async false
set_option linter.all false
set_option maxRecDepth 100000
set_option maxHeartbeats 4000000
namespace M
open PySem L2
open AutoSeq1 (wpAny_loadPart')
theorem enum_new1 {v : Value} {o : Obj} {H : Heap → Prop} (B : Begins v o H) :
    Meets (Builtin.«enumerate.__new__» ⟨[.type "enumerate", v], []⟩) (fun _ R s => H s.heap ∧
      R (.ok (.ret (.ref (s.heap.push o).objs.size))) { s with heap := (s.heap.push o).push { cls := .type "enumerate", data := .fields #[.none, .bool false, .ref s.heap.objs.size, rawInt 0, .none, .none] } }) :=
  .of_wp fun prog w A R s h => by
    obtain ⟨hp, g, d, tk, os⟩ := s; obtain ⟨h1, h⟩ := h
    have hsub := sub_enumerate
    have q1 : ∀ {A' : Around} {E : Value → Shared → Prop} {Q : Value → Shared → Prop}, Q (.ref hp.objs.size) ⟨hp.push o, g, d, tk, os⟩ → wpAny (model prog w) A' (pyIter v) Q E ⟨hp, g, d, tk, os⟩ :=
      fun q => B.iter prog w _ _ ⟨hp, g, d, tk, os⟩ _ h1 q
    wp_walk using q1
    refine wpAny_stack_any fun st => wpAny_pure ?_
    split
    · rename_i c _ _ _ _ _
      cases (c == Value.type "enumerate")
      · wp_walk using q1
        exact ⟨_, rfl, h⟩
      · wp_walk using q1
        exact ⟨_, rfl, h⟩
    · wp_walk using q1
      exact ⟨_, rfl, h⟩
theorem enum_begins1 {prog : Program} {w : World} {A : Around} {E : Value → Shared → Prop} {s : Shared} {v : Value} {o : Obj} {H : Heap → Prop} {Q : Value → Shared → Prop} (B : Begins v o H) (h1 : H s.heap)
    (h : ∀ h', IsEnum h' (s.heap.objs.size + 1) s.heap.objs.size 0 .none → h'.get? s.heap.objs.size = some o → (∀ b o, s.heap.get? b = some o → h'.get? b = some o) → Q (.ref (s.heap.objs.size + 1)) { s with heap := h' }) :
    wpAny (model prog w) A (call (.type "enumerate") [v]) Q E s := by
  refine callType_new F.called_enumerate (by decide) (F.typeCall_enumerate_1 _) (F.newCall_enumerate_1 _) (fun obj => F.args_object_init_2 obj _) F.entry_enumerate_new (enum_new1 B) ⟨h1, ?_⟩
  have hz : (s.heap.push o).objs.size = s.heap.objs.size + 1 := Heap.size_push ..
  show _ ∧ _
  rw [hz]
  have he : IsEnum ((s.heap.push o).push { cls := .type "enumerate", data := .fields #[.none, .bool false, .ref s.heap.objs.size, rawInt 0, .none, .none] }) (s.heap.objs.size + 1) s.heap.objs.size 0 .none := by
    have := Heap.get?_push_size (s.heap.push o) (o := { cls := .type "enumerate", data := .fields #[.none, .bool false, .ref s.heap.objs.size, rawInt 0, .none, .none] }) rfl
    rw [hz] at this; exact this
  exact ⟨⟨_, he, rfl⟩, h _ he (Heap.get?_push_of_some _ (Heap.get?_push_size _ B.free)) fun b o x => Heap.get?_push_of_some _ (Heap.get?_push_of_some _ x)⟩
def ItU (K : PySem.W.Frag) (a : Addr) : It :=
  ⟨fun i H => ∃ (xs : List V) (x : V), SqT K H a xs ∧ xs[i]? = some x, fun i H v H' => ∃ T x, v = .ref T ∧ H T = none ∧ H' = upd H T (.tup [.int (i : Nat), x]) ∧ ∀ xs, SqT K H a xs → xs[i]? = some x, fun i H => ∃ xs : List V, SqT K H a xs ∧ xs.length ≤ i⟩
theorem turn_enumT {P : Program} {w : World} {K : PySem.W.Frag} {elts : List Expr} {kk : Nat} {tpos : Pos} (a e it : Addr) :
    Turn P w K (.Tuple elts kk tpos) (ItU K a) [e, it] e (fun i h => (∃ old, IsEnum h e it ((i : Nat) : Int) old) ∧ h.IsTupleIter it a i ∧ e ≠ it) := by
  refine ⟨by simp, fun i h st b hb => ?_, fun i h h' st k => ?_, ?_, ?_, fun A i s Q E st h => ?_⟩
  · obtain ⟨⟨old, he⟩, ⟨o, ho, hc, hd⟩, _⟩ := st
    rcases (by simpa using hb : b = e ∨ b = it) with z | z
    · rw [z]; exact ⟨_, he, fun v q => nomatch q⟩
    · rw [z]; exact ⟨o, ho, fun v q => by rw [hd] at q; cases q⟩
  · obtain ⟨⟨old, he⟩, hi, hne⟩ := st
    exact ⟨⟨old, k e (by simp) _ he⟩, hi.at fun o q => k it (by simp) o q, hne⟩
  · intro X hP hw hK hc i pins s σ H E I hf st hg
    subst hP hw hK
    obtain ⟨⟨old, he⟩, hit, hne⟩ := st
    obtain ⟨xs, x, hq, hx⟩ := hg
    obtain ⟨its, rv, p, hz⟩ := I.tuple hq
    obtain ⟨u, hu, ru⟩ := rv.get hx
    have pT : s.heap.IsTuple a its.toArray := p
    have hel : e < s.heap.objs.size := Heap.lt_size he
    have hil : it < s.heap.objs.size := by obtain ⟨_, q, _⟩ := hit; exact Heap.lt_size q
    have ai : a ≠ it := by
      rintro rfl
      obtain ⟨o1, q1, c1, _⟩ := hit
      obtain ⟨o2, q2, c2, _⟩ := pT
      rw [q1] at q2; cases q2; rw [c1] at c2; injection c2 with z; exact absurd z (by decide)
    have ea : e ≠ a := by
      rintro rfl
      obtain ⟨o2, q2, c2, _⟩ := pT
      rw [show s.heap.get? e = some _ from he] at q2; cases q2; injection c2 with z; exact absurd z (by decide)
    have hlt : i < its.toArray.size := by rw [List.size_toArray]; exact (List.getElem?_eq_some_iff.mp hu).1
    refine wpAny_pyNext_enum_itemD (Draws.tuple (A := X.A.in1) (I.ok.hd hc) it a ai its.toArray) he ⟨hit, pT⟩ hlt hne (by simp only [List.mem_cons, List.not_mem_nil, or_false, not_or]; exact ⟨hne, ea⟩) fun y h' tk hy ho st' hT hsz hk => ?_
    have hy' : y = u := by
      have z : its[i]? = some y := by simpa using hy
      rw [hu] at z; exact (Option.some.inj z).symm
    subst hy'
    refine ⟨_, rfl, wpAny_letOwnedTupleGo_enum (s := { s with heap := h', toks := tk + 1 }) ho fun h'' he' sb => ?_⟩
    have hT2 : h''.get? s.heap.objs.size = some { cls := .type "tuple", data := .seq #[.int i tk, y] } := (sb.2 _ (Nat.ne_of_gt hel)).trans hT
    have new : ObjOk X.prog X.w (upd H s.heap.objs.size (.tup [.int (i : Nat), x])) h'' s.heap.objs.size (.tup [.int (i : Nat), x]) :=
      ⟨by show 2 ≤ sizeLine; decide, [.int i tk, y], .cons ⟨_, rfl⟩ (.cons ru .nil), ⟨_, hT2, rfl, _, rfl⟩⟩
    have I1 : Inv X pins σ (upd H s.heap.objs.size (.tup [.int (i : Nat), x])) { s with heap := h'', toks := tk + 1 } :=
      I.turnedNew (ch := [e, it]) (fun b ob hb q => (sb.2 b (fun z => hb (by simp [z]))).trans (hk b ob (fun z => hb (by simp [z])) (fun z => hb (by simp [z])) q)) hf (Nat.le_refl _) new
    refine ⟨.ref s.heap.objs.size, _, I1, rfl, ⟨_, x, rfl, I.hok.fresh (Nat.le_refl _), rfl, fun ys hy => by rw [I.tuple_inj hy hq]; exact hx⟩, ⟨⟨y, ?_⟩, st'.1.at fun o q => (sb.2 it (Ne.symm hne)).trans q, hne⟩, fun b hb => ?_⟩
    · have e1 : ((i + 1 : Nat) : Int) = (i : Int) + 1 := by omega
      rw [e1]; exact he'
    · have hb' : b < s.heap.objs.size := by
        rcases (by simpa using hb : b = e ∨ b = it) with z | z
        · rw [z]; exact hel
        · rw [z]; exact hil
      rw [upd_ne (Nat.ne_of_lt hb')]
      exact (hf b hb).1
  · intro X hP hw hK hc i pins s σ H E I hf st hg
    subst hP hw hK
    obtain ⟨⟨old, he⟩, hit, hne⟩ := st
    obtain ⟨xs, hq, hx⟩ := hg
    obtain ⟨its, rv, p, hz⟩ := I.tuple hq
    obtain ⟨f0, f1, f2, f3, f4, f5⟩ := hf it (by simp)
    have pT : s.heap.IsTuple a its.toArray := p
    have ai : a ≠ it := by
      rintro rfl
      obtain ⟨o1, q1, c1, _⟩ := hit
      obtain ⟨o2, q2, c2, _⟩ := pT
      rw [q1] at q2; cases q2; rw [c1] at c2; injection c2 with z; exact absurd z (by decide)
    have hl := rv.length
    have hn : its.toArray[i]? = none := by simp; omega
    have hT : s.TypeIs (.ref e) "enumerate" := ⟨_, he, rfl⟩
    unfold pyNext
    refine wpAny_bind (wpAny_attempt (wpAny_callSpecial?_slot (name := Str.ofString "__next__") hT F.slot_enumerate_next (wpAny_call_entry F.slot_enumerate_next hT F.entry_enumerate_next ?_ (F.args_enumerate_next_1 _))))
    show wpAny _ _ (field (.ref e) 2 >>= _) _ _ _
    refine wpAny_bind (wpAny_field he rfl (x := .ref it) rfl ?_)
    refine wpAny_bind (wpAny_nextOf_tuple_end (A := X.A.in1) (I.ok.hd hc) hit pT hn fun h' x he' hx' => ?_)
    obtain ⟨o, ho, hcl⟩ := hx'
    refine wpAny_bind (wpAny_isInstance (T := "StopIteration") (b := true) ⟨o, ho, hcl⟩ isSubtype_stop ?_)
    exact wpAny_pure ⟨rfl, I.turned (t' := s.toks) (fun b o hb q => he' b o hb q) f0 f1 f3 f4 f5⟩
  · obtain ⟨⟨_, he⟩, _⟩ := st
    exact wpAny_pyIter_enum he h
theorem pi_enumT {X : Cx} {e : Expr} {ta : TA} {p pos tpos : Pos} {elts : List Expr} {kk : Nat} (hg : Gl X "enumerate") (hm : X.mg "enumerate" = none) (ha : PA X [e] ta) (hs : starEach [e] X.env = [(false, eval e X.env)] := by rfl) :
    PI X (.Tuple elts kk tpos) (.Call (.Name "enumerate" p) [e] [] pos) (fun σ H R => ta σ H fun vs H1 => ∃ a xs, vs = [.ref a] ∧ SqT X.K H1 a xs ∧ R (ItU X.K a) H1) := by
  constructor
  intro pins s σ H R I h
  refine PyProof.Rows.Call_ (ld_blt I hg hm PyProof.Rows.boot_enumerate (PyProof.Rows.callWith_type1 (thn (ha.run pos pins s σ H _ I h) fun us s1 ⟨vs, H1, I1, r1, q1⟩ => ?_) hs rfl))
  obtain ⟨a, xs, rfl, hq, q⟩ := q1
  rw [Vals.ref1 r1]
  obtain ⟨its, rv, p', hz⟩ := I1.tuple hq
  refine enum_begins1 (begins_tuple a its.toArray) p' fun h' he hit hk => wpAny_pyIter_enum he ?_
  have I2 : Inv X pins σ H1 { s1 with heap := h' } := I1.kept (t' := s1.toks) hk
  refine ⟨s1.heap.objs.size + 1, [s1.heap.objs.size + 1, s1.heap.objs.size], _, _, H1, rfl, I2, turn_enumT a (s1.heap.objs.size + 1) s1.heap.objs.size, ⟨⟨.none, he⟩, ⟨_, hit, rfl, rfl⟩, Nat.succ_ne_self _⟩, fun b hb => ?_, q⟩
  have hle : s1.heap.objs.size ≤ b := by
    rcases (by simpa using hb : b = s1.heap.objs.size + 1 ∨ b = s1.heap.objs.size) with z | z
    · rw [z]; exact Nat.le_add_right _ _
    · rw [z]; exact Nat.le_refl _
  exact I1.fpOk hle (I1.hok.fresh hle)
def enumAt (n : Nat) : List D → List D
  | [] => []
  | d :: ds => .tup [.int n, d] :: enumAt (n + 1) ds
theorem enumAt_get : ∀ (ds : List D) (n i : Nat), (enumAt n ds)[i]? = ds[i]?.map fun d => .tup [.int ((n + i : Nat) : Int), d]
  | [], n, i => by simp [enumAt]
  | d :: ds, n, 0 => by simp [enumAt]
  | d :: ds, n, i + 1 => by
    simp only [enumAt, List.getElem?_cons_succ]
    rw [enumAt_get ds (n + 1) i]
    congr 1
    funext d
    rw [show n + 1 + i = n + (i + 1) by omega]
theorem enumAt_length : ∀ (ds : List D) (n : Nat), (enumAt n ds).length = ds.length
  | [], n => rfl
  | d :: ds, n => by simp [enumAt, enumAt_length ds]
def enumerateF : List D → R (List D)
  | [.lst ds] => .ok (enumAt 0 ds)
  | [.tup ds] => .ok (enumAt 0 ds)
  | _ => .fail
theorem itm_enumL {k : Kn} {ki : List Nat} {G1 H1 : Hp} {S : Env} {σ : L2.St} {K : PySem.W.Frag} {ds : List D} {vs : List V} {p : Addr} (hr : RDs k G1 ds vs) (hs : G1 p = some (.lst vs)) : Itm k ki G1 S σ H1 (Ite K p) (enumAt 0 ds) := fun G H e1 e2 kp => by
  have q : SqL K H p vs := SqL.of (e2 _ _ (e1 _ _ hs))
  refine ⟨fun i hi => ⟨vs, q, by rw [enumAt_length] at hi; rw [← hr.length]; exact hi⟩, fun i d hd => ?_⟩
  rw [enumAt_get] at hd
  cases hd0 : ds[i]? with
  | none => rw [hd0] at hd; cases hd
  | some d0 =>
    rw [hd0] at hd
    have hd : D.tup [.int ((0 + i : Nat) : Int), d0] = d := Option.some.inj hd
    subst hd
    obtain ⟨v, hv, r⟩ := (hr.mono e1).get hd0
    refine ⟨⟨vs, v, q, hv⟩, fun x H' hx => ?_⟩
    obtain ⟨T, x', rfl, hT, rfl, hy⟩ := hx
    have := hy vs q
    rw [hv] at this; cases this
    refine ⟨_, Step.new e2 hT, .tup (SqU.of upd_same) (.cons ?_ (.cons (r.mono (Ex.new (e2.free hT))) .nil))⟩
    rw [Nat.zero_add]; exact .int _
theorem itm_enumT {k : Kn} {ki : List Nat} {G1 H1 : Hp} {S : Env} {σ : L2.St} {K : PySem.W.Frag} {ds : List D} {vs : List V} {p : Addr} (hr : RDs k G1 ds vs) (hs : SqT K G1 p vs) : Itm k ki G1 S σ H1 (ItU K p) (enumAt 0 ds) := fun G H e1 e2 kp => by
  have q : SqT K H p vs := e2.sqT (e1.sqT hs)
  refine ⟨fun i hi => ⟨vs, q, by rw [enumAt_length] at hi; rw [← hr.length]; exact hi⟩, fun i d hd => ?_⟩
  rw [enumAt_get] at hd
  cases hd0 : ds[i]? with
  | none => rw [hd0] at hd; cases hd
  | some d0 =>
    rw [hd0] at hd
    have hd : D.tup [.int ((0 + i : Nat) : Int), d0] = d := Option.some.inj hd
    subst hd
    obtain ⟨v, hv, r⟩ := (hr.mono e1).get hd0
    refine ⟨⟨vs, v, q, hv⟩, fun x H' hx => ?_⟩
    obtain ⟨T, x', rfl, hT, rfl, hy⟩ := hx
    have := hy vs q
    rw [hv] at this; cases this
    refine ⟨_, Step.new e2 hT, .tup (SqU.of upd_same) (.cons ?_ (.cons (r.mono (Ex.new (e2.free hT))) .nil))⟩
    rw [Nat.zero_add]; exact .int _
theorem i_enumerate {X : Cx} {c : Cf} {e : Expr} {fa : FA} {p pos tpos : Pos} {elts : List Expr} {kk : Nat} (hk : c.k.K = X.K) (hm : X.mg "enumerate" = none) (ha : PA' X c false [e] fa) (hg : Gl X "enumerate" := by rfl) (hs : starEach [e] X.env = [(false, eval e X.env)] := by rfl) :
    PI' X c [] (.Tuple elts kk tpos) (.Call (.Name "enumerate" p) [e] [] pos) (fun S => fa S >>= enumerateF) := by
  constructor
  intro pins st σ H Rq I q
  obtain ⟨G, S, rel, p⟩ := q
  have p : PostI c [] G S σ H Rq (fa S >>= enumerateF) := p
  cases e1 : fa S with
  | exc x => exact (pi_enum hg hm ha hs).run pins st σ H Rq I ⟨G, S, rel, by rw [e1] at p ⊢; exact p⟩
  | fail => rw [e1] at p; exact p.elim
  | ok ds =>
    rw [e1, R.ok_bind] at p
    unfold enumerateF at p
    split at p
    · rename_i ds0
      refine (pi_enum hg hm ha hs).run pins st σ H Rq I ⟨G, S, rel, ?_⟩
      rw [e1]
      intro vs G' H' sp q
      have q : RDs c.k G' [.lst ds0] vs := q
      cases q with
      | cons q1 q2 =>
        cases q2
        cases q1 with
        | lst h r => exact ⟨_, _, rfl, SqL.of (sp.gh _ _ h), p _ G' H' sp (itm_enumL r h)⟩
    · rename_i ds0
      refine (pi_enumT hg hm ha hs).run pins st σ H Rq I ⟨G, S, rel, ?_⟩
      rw [e1]
      intro vs G' H' sp q
      have q : RDs c.k G' [.tup ds0] vs := q
      cases q with
      | cons q1 q2 =>
        cases q2
        cases q1 with
        | tup h r => exact ⟨_, _, rfl, hk ▸ sp.gh.sqT h.t, p _ G' H' sp (itm_enumT r (hk ▸ h.t))⟩
    · exact p.elim
end M
set_option Elab.async false
set_option linter.all false
set_option maxRecDepth 100000
set_option maxHeartbeats 4000000
namespace M
open PySem L2
theorem zip_none : ∀ {nm : List Str} {vs : List V} {f : Str}, f ∉ nm → (nm.zip vs).lookup f = none
  | [], _, _, _ => by simp
  | _ :: _, [], _, _ => by simp
  | n :: nm, v :: vs, f, h => by
    simp only [List.mem_cons, not_or] at h
    rw [List.zip_cons_cons, List.lookup_cons, beq_eq_false_iff_ne.mpr h.1]
    exact zip_none h.2
def D.isObj (ci : Nat) : D → Bool
  | .obj c _ => c == ci
  | _ => false
structure Method (P : Program) (w : World) (K : PySem.W.Frag) (mg : Str → Option Value) (base : Heap) (k : Kn) (lv : Nat) (ci : Nat) (m : Str) (n : Nat) (fr : Bool) (den : List D → R D) : Prop where
  ex : ∃ (C f : Addr) (fd : FuncData) (ps nm : List Str), ps.length = n ∧ k.cl ci = some (C, nm) ∧ m ∉ nm ∧ Cls K C ∧ Meth K C m f ∧ FnOk P w K mg base CX0 lv f fd ps (SpF k fr n den) ∧ Binds K fd ps []
structure MakeK (P : Program) (w : World) (K : PySem.W.Frag) (mg : Str → Option Value) (base : Heap) (k : Kn) (lv : Nat) (x : Str) (ci n : Nat) (ks : List Str) (den : List D → R D) : Prop where
  ex : ∃ (C f : Addr) (fd : FuncData) (ps nm : List Str) (g : List Value → List Value → List Value), k.cl ci = some (C, nm) ∧ Mk K C f ∧ FnOk P w K mg base CX0 lv f fd ps (SpN k ci (n + ks.length + 1) den) ∧ mg x = some (.ref C) ∧ KBn K fd ps (n + 1) ks g (fun vs zs => vs ++ zs)
structure Maker (P : Program) (w : World) (K : PySem.W.Frag) (mg : Str → Option Value) (base : Heap) (k : Kn) (lv : Nat) (x : Str) (ci n : Nat) (den : List D → R D) : Prop where
  ex : ∃ (C f : Addr) (fd : FuncData) (ps : List Str) (nm : List Str), ps.length = n + 1 ∧ k.cl ci = some (C, nm) ∧ Mk K C f ∧ FnOk P w K mg base CX0 lv f fd ps (SpN k ci (n + 1) den) ∧ mg x = some (.ref C) ∧ Binds K fd ps []
structure Prope (P : Program) (w : World) (K : PySem.W.Frag) (mg : Str → Option Value) (base : Heap) (k : Kn) (lv : Nat) (ci : Nat) (m : Str) (fr : Bool) (den : List D → R D) : Prop where
  ex : ∃ (C p f : Addr) (fd : FuncData) (ps nm : List Str), ps.length = 1 ∧ k.cl ci = some (C, nm) ∧ Cls K C ∧ PropOf K C m p f ∧ FnOk P w K mg base CX0 lv f fd ps (SpF k fr 1 den) ∧ Binds K fd ps []
section
variable {X : Cx} {c : Cf} {k : Kn} {kd k1 k2 k3 : Kd} {a b e o : Expr} {f g h : FE} {pos apos cpos p' : Pos} {fr : Bool} {x y : Str} {den : List D → R D}
def eM (ci : Nat) (den : List D → R D) (f : FE) (fa : FA) : FE := fun S => f S >>= fun o => if o.isObj ci then fa S >>= fun ds => (den (o :: ds)).nox else .fail
theorem meth_go {ci n : Nat} {C : Addr} {nm : List Str} {m : Str} {fa : FA} {σ : L2.St} {H : Hp} {Q : VK} (hcl : c.k.cl ci = some (C, nm)) (hmn : m ∉ nm) (hl : Len n fa) (q : RdE c (kdOf fr) (eM ci den f fa) σ H Q) :
    RdE c .st f σ H fun x H1 => ∃ a dx fs, x = .ref a ∧ H1 a = some (.ins C dx fs) ∧ fs.lookup m = none ∧ RdA c false fa σ H1 fun vs H2 => SpF c.k fr (n + 1) den (x :: (vs ++ [])) H2 Q E0 := by
  obtain ⟨G, S, rel, p⟩ := q
  refine rdE_go (g := fun o => if o.isObj ci then fa S >>= fun ds => (den (o :: ds)).nox else .fail) (Post := PostE c (kdOf fr) G S σ H Q) rel p (fun _ z => z) (fun z => z) fun d v G1 H1 s1 q1 p1 => ?_
  by_cases ho : d.isObj ci = true
  · rw [if_pos ho] at p1
    cases d with
    | obj c' ds =>
      have hc : c' = ci := by simpa [D.isObj] using ho
      subst hc
      have q1 : RD c.k G1 (.obj c' ds) v := q1
      cases q1 with
      | @obj _ _ ad CA dx nm' vs' hcl' hG hr =>
        rw [hcl] at hcl'; cases hcl'
        refine ⟨ad, dx, _, rfl, s1.gh _ _ hG, zip_none hmn, G1, S, rel.grow s1, ?_⟩
        cases e0 : fa S with
        | exc x => rw [e0] at p1; exact p1
        | fail => rw [e0] at p1; exact p1
        | ok as =>
          rw [e0] at p1
          intro vs G2 H2 s2 q2
          have q2 : RDs c.k G2 as vs := q2
          rw [List.append_nil]
          refine ⟨by simp [← q2.length, hl S as e0], G2, .obj c' ds :: as, s2.gh, .cons (.obj hcl (s2.g _ _ hG) (hr.mono s2.g)) q2, ?_⟩
          have p1 : PostE c (kdOf fr) G S σ H Q (den (.obj c' ds :: as)).nox := p1
          cases e1 : den (.obj c' ds :: as) with
          | ok d => rw [e1] at p1; exact fun v G' H' s3 r3 => p1 v G' H' ((s1.trans s2).trans s3) (r3.mono (s1.h.trans s2.h))
          | exc x => rw [e1] at p1; exact p1.elim
          | fail => rw [e1] at p1; exact p1.elim
    | _ => simp [D.isObj] at ho
  · rw [if_neg ho] at p1; exact p1.elim
theorem d_meth {lv m' : Nat} (ci : Nat) {m : Str} {n : Nat} {es : List Expr} {fa : FA} {pl : Sem Bool} (F : Method X.prog X.w X.K X.mg X.base c.k lv ci m (n + 1) fr den) (hr : Room m' X.A) (hle : lv ≤ m') (ho : PE' X c .st o f) (ha : PA' X c false (e :: es) fa) (hl : Len n fa)
    (hst : starEach (e :: es) X.env = (false, eval e X.env) :: starEach es X.env := by rfl) (hpl : (backTo pos (starEach es X.env)).any (·.1) = false := by rfl)
    (ht : eval (.Call (.Attribute o m apos) (e :: es) [] pos) X.env = (do
      let ov ← eval o X.env
      standAt apos.atName
      let (f, first) ← holding [ov] (getMethod ov m pl)
      callWith pos f first (backTo pos (starEach (e :: es) X.env)) (backToKw pos (keywordEach [] X.env))) := by rfl) :
    PE' X c (kdOf fr) (.Call (.Attribute o m apos) (e :: es) [] pos) (eM ci den f fa) := by
  obtain ⟨C, fa', fd, ps, nm, hn, hcl, hmn, cl, mt, ok, bd⟩ := F.ex
  exact peI (pe_meth ho cl mt ok (hr.mono hle) bd .nil pass0 ha hst hpl ht) fun σ H Q q => meth_go hcl hmn hl q
def eP (ci : Nat) (den : List D → R D) (f : FE) : FE := eM ci den f fun _ => .ok []
def fApp (fa fk : FA) : FA := fun S => fa S >>= fun as => fk S >>= fun bs => .ok (as ++ bs)
abbrev PK' (X : Cx) (c : Cf) (ks : List Keyword) (f : FA) : Prop := PK X ks (RdA c false f)
theorem pkI {ks : List Keyword} {t t' : TA} (h : PK X ks t) (i : ∀ σ H Q, t' σ H Q → t σ H Q) : PK X ks t' := ⟨fun pos pins s σ H Q I q => h.run pos pins s σ H Q I (i σ H Q q)⟩
theorem d_kn : PK' X c [] aN := pkI pk_nil fun σ H Q ⟨G, S, rel, p⟩ => p [] G H (Step.refl rel.st.gh) .nil
theorem d_kc {nm : Option Str} {kp : Pos} {ks : List Keyword} {ga : FA} (ha : PE' X c .st e f) (hr : PK' X c ks ga) : PK' X c (⟨nm, e, kp⟩ :: ks) (aC f ga) :=
  pkI (pk_cons ha hr) fun σ H Q ⟨G, S, rel, p⟩ => by
    refine rdE_go (g := fun x => do let xs ← ga S; .ok (x :: xs)) (Post := PostA c false G S σ H Q) rel p (fun _ z => z) (fun z => z) fun d1 v1 G1 H1 s1 q1 p1 => ?_
    refine rdA_go (g := fun xs => .ok (d1 :: xs)) (Post := PostA c false G S σ H Q) (rel.grow s1) p1 (fun _ z => z) (fun z => z) fun d2 v2 G2 H2 s2 q2 p2 => ?_
    exact p2 _ G2 H2 (s1.trans s2) (.cons (RD.mono s2.g q1) q2)
structure ClsT (K : PySem.W.Frag) (k : Kn) (ci : Nat) : Prop where
  ex : ∃ C nm, k.cl ci = some (C, nm) ∧ Cls K C ∧ PySem.W.findIn K (.ref C) "__class__" = some (some (.builtin "object.__class__")) ∧ PySem.W.specialIn K (.builtin "object.__class__") "__get__" = some (some (.builtin "getset_descriptor.__get__")) ∧
    PySem.W.takesIn K (.builtin "object.__class__") = some true ∧ PySem.W.mroIn K C (.type "object") = some true
theorem d_callS {n : Nat} {p : Pos} {es : List Expr} {fa : FA} (F : Fn0 X c.k x n false den) (ha : PA' X c false (e :: es) fa) (hl : Len n fa) (hg : Gl X x := by rfl) (hdb : (x == ("__debug__" : Str)) = false := by decide)
    (hs : starEach (e :: es) X.env = (false, eval e X.env) :: starEach es X.env := by rfl) (hs2 : ((backTo pos (starEach es X.env)).any fun x => x.1) = false := by rfl) : PE' X c .st (.Call (.Name x p) (e :: es) [] pos) (eC den fa) := d_call F ha hl hg hdb hs hs2
theorem d_methS {lv m' : Nat} (ci : Nat) {m : Str} {n : Nat} {es : List Expr} {fa : FA} {pl : Sem Bool} (F : Method X.prog X.w X.K X.mg X.base c.k lv ci m (n + 1) false den) (hr : Room m' X.A) (hle : lv ≤ m') (ho : PE' X c .st o f) (ha : PA' X c false (e :: es) fa) (hl : Len n fa)
    (hst : starEach (e :: es) X.env = (false, eval e X.env) :: starEach es X.env := by rfl) (hpl : (backTo pos (starEach es X.env)).any (·.1) = false := by rfl)
    (ht : eval (.Call (.Attribute o m apos) (e :: es) [] pos) X.env = (do
      let ov ← eval o X.env
      standAt apos.atName
      let (f, first) ← holding [ov] (getMethod ov m pl)
      callWith pos f first (backTo pos (starEach (e :: es) X.env)) (backToKw pos (keywordEach [] X.env))) := by rfl) :
    PE' X c .st (.Call (.Attribute o m apos) (e :: es) [] pos) (eM ci den f fa) := d_meth ci F hr hle ho ha hl hst hpl ht
theorem d_callF {n : Nat} {p : Pos} {es : List Expr} {fa : FA} (F : Fn0 X c.k x n true den) (ha : PA' X c false (e :: es) fa) (hl : Len n fa) (hg : Gl X x := by rfl) (hdb : (x == ("__debug__" : Str)) = false := by decide)
    (hs : starEach (e :: es) X.env = (false, eval e X.env) :: starEach es X.env := by rfl) (hs2 : ((backTo pos (starEach es X.env)).any fun x => x.1) = false := by rfl) : PE' X c .fr (.Call (.Name x p) (e :: es) [] pos) (eC den fa) := d_call F ha hl hg hdb hs hs2
end
end M
set_option Elab.async false
set_option linter.all false
set_option maxRecDepth 100000
set_option maxHeartbeats 4000000
namespace M
open PySem L2
def Ok {α : Type} (r : R α) (Q : α → Prop) : Prop := ∃ a, r = .ok a ∧ Q a
section
variable {α β : Type} {Q : α → Prop} {S : Env}
theorem Ok.mono {r : R α} {P : α → Prop} (h : Ok r P) (k : ∀ a, P a → Q a) : Ok r Q := by obtain ⟨a, e, p⟩ := h; exact ⟨a, e, k a p⟩
theorem ok_ok {a : α} : Ok (.ok a) Q ↔ Q a := ⟨fun ⟨_, e, q⟩ => (by cases e; exact q), fun q => ⟨a, rfl, q⟩⟩
theorem ok_bind {r : R β} {f : β → R α} : Ok (r >>= f) Q ↔ Ok r fun b => Ok (f b) Q := by
  cases r with
  | ok b => rw [ok_ok]; exact Iff.rfl
  | exc x => exact ⟨fun ⟨_, e, _⟩ => (nomatch e), fun ⟨_, e, _⟩ => (nomatch e)⟩
  | fail => exact ⟨fun ⟨_, e, _⟩ => (nomatch e), fun ⟨_, e, _⟩ => (nomatch e)⟩
theorem ok_nox {r : R α} : Ok r.nox Q ↔ Ok r Q := by
  cases r with
  | ok b => exact Iff.rfl
  | exc x => exact ⟨fun ⟨_, e, _⟩ => (nomatch e), fun ⟨_, e, _⟩ => (nomatch e)⟩
  | fail => exact Iff.rfl
theorem ok_if {c : Prop} [Decidable c] {a : R α} : Ok (if c then a else .fail) Q ↔ c ∧ Ok a Q := by
  by_cases h : c
  · rw [if_pos h]; exact ⟨fun z => ⟨h, z⟩, fun z => z.2⟩
  · rw [if_neg h]; exact ⟨fun ⟨_, e, _⟩ => (nomatch e), fun z => absurd z.1 h⟩
theorem Ok.eq {r : R α} {a : α} (h : Ok r fun x => x = a) : r = .ok a := by obtain ⟨x, e, rfl⟩ := h; exact e
end
section
variable {Q : D → Prop} {QB : Bool → Prop} {QL : List D → Prop} {QE : Env → Prop} {QS : Fl × Env → Prop} {QO : Option Int → Prop} {S : Env} {f g h : FE} {t u : FT} {fa : FA} {s r : FS} {i j : Nat} {d x y : D}
theorem k_I {i : Int} : Ok (eI i S) Q ↔ Q (.int i) := ok_ok
theorem k_S {i : Str} : Ok (eS i S) Q ↔ Q (.str i) := ok_ok
theorem k_B {i : Bool} : Ok (eB i S) Q ↔ Q (.bl i) := ok_ok
theorem k_N : Ok (eN S) Q ↔ Q .non := ok_ok
theorem k_G : Ok (eG d S) Q ↔ Q d := ok_ok
theorem k_Y {n : String} : Ok (eY n S) Q ↔ Q (.ty n) := ok_ok
def get0 (i : Nat) (S : Env) (Q : D → Prop) : Prop := match S[i]? with | some (some ⟨false, d⟩) => Q d | _ => False
def getA (i : Nat) (S : Env) (Q : D → Prop) : Prop := match S[i]? with | some (some ⟨_, d⟩) => Q d | _ => False
def get1 (i : Nat) (S : Env) (Q : D → Prop) : Prop := match S[i]? with | some (some ⟨true, d⟩) => Q d | _ => False
theorem ok_fail {α : Type} {Q : α → Prop} : Ok (.fail : R α) Q ↔ False := ⟨fun ⟨_, e, _⟩ => (nomatch e), False.elim⟩
theorem k_V : Ok (eV i S) Q ↔ get0 i S Q := by
  unfold eV get0
  cases S[i]? with
  | none => exact ok_fail
  | some o =>
    cases o with
    | none => exact ok_fail
    | some sl => obtain ⟨b, d⟩ := sl; cases b <;> first | exact ok_ok | exact ok_fail
theorem k_W : Ok (eW i S) Q ↔ getA i S Q := by
  unfold eW getA
  cases S[i]? with
  | none => exact ok_fail
  | some o =>
    cases o with
    | none => exact ok_fail
    | some sl => obtain ⟨b, d⟩ := sl; cases b <;> first | exact ok_ok | exact ok_fail
theorem k_O : Ok (eO i S) Q ↔ get1 i S Q := by
  unfold eO get1
  cases S[i]? with
  | none => exact ok_fail
  | some o =>
    cases o with
    | none => exact ok_fail
    | some sl => obtain ⟨b, d⟩ := sl; cases b <;> first | exact ok_ok | exact ok_fail
theorem g0_z {b : List (Option Sl)} {Q : D → Prop} : get0 0 (some ⟨false, d⟩ :: b) Q ↔ Q d := Iff.rfl
theorem g0_s {a : Option Sl} {b : List (Option Sl)} {Q : D → Prop} : get0 (i + 1) (a :: b) Q ↔ get0 i b Q := Iff.rfl
theorem gA_z {o : Bool} {b : List (Option Sl)} {Q : D → Prop} : getA 0 (some ⟨o, d⟩ :: b) Q ↔ Q d := Iff.rfl
theorem gA_s {a : Option Sl} {b : List (Option Sl)} {Q : D → Prop} : getA (i + 1) (a :: b) Q ↔ getA i b Q := Iff.rfl
theorem g1_z {b : List (Option Sl)} {Q : D → Prop} : get1 0 (some ⟨true, d⟩ :: b) Q ↔ Q d := Iff.rfl
theorem g1_s {a : Option Sl} {b : List (Option Sl)} {Q : D → Prop} : get1 (i + 1) (a :: b) Q ↔ get1 i b Q := Iff.rfl
theorem k_1 {o : D → R D} : Ok (e1 o f S) Q ↔ Ok (f S) fun x => Ok (o x) Q := by unfold e1; simp only [ok_bind, ok_nox]
theorem k_2 {o : D → D → R D} : Ok (e2 o f g S) Q ↔ Ok (f S) fun x => Ok (g S) fun y => Ok (o x y) Q := by unfold e2; simp only [ok_bind, ok_nox]
theorem k_n : Ok (aN S) QL ↔ QL [] := ok_ok
theorem k_c : Ok (aC f fa S) QL ↔ Ok (f S) fun x => Ok (fa S) fun xs => QL (x :: xs) := by unfold aC; simp only [ok_bind, ok_ok]
theorem k_T : Ok (eT fa S) Q ↔ Ok (fa S) fun xs => xs.length ≤ sizeLine ∧ Q (.tup xs) := by unfold eT mkT; simp only [ok_bind, ok_if, ok_ok]
theorem k_L : Ok (eL fa S) Q ↔ Ok (fa S) fun xs => xs.length ≤ sizeLine ∧ Q (.lst xs) := by unfold eL mkL; simp only [ok_bind, ok_if, ok_ok]
theorem k_C {o : List D → R D} : Ok (eC o fa S) Q ↔ Ok (fa S) fun xs => Ok (o xs) Q := by unfold eC; simp only [ok_bind, ok_nox]
theorem k_f1 {o : D → R D} : Ok (f1 o [x]) Q ↔ Ok (o x) Q := Iff.rfl
theorem k_f2 {o : D → D → R D} : Ok (f2 o [x, y]) Q ↔ Ok (o x y) Q := Iff.rfl
theorem k_App {fk : FA} : Ok (fApp fa fk S) QL ↔ Ok (fa S) fun xs => Ok (fk S) fun ys => QL (xs ++ ys) := by unfold fApp; simp only [ok_bind, ok_ok]
theorem k_M {ci : Nat} {den : List D → R D} : Ok (eM ci den f fa S) Q ↔ Ok (f S) fun o => o.isObj ci = true ∧ Ok (fa S) fun ds => Ok (den (o :: ds)) Q := by unfold eM; simp only [ok_bind, ok_if, ok_nox]
theorem k_P {ci : Nat} {den : List D → R D} : Ok (eP ci den f S) Q ↔ Ok (f S) fun o => o.isObj ci = true ∧ Ok (den [o]) Q := by unfold eP; rw [k_M]; simp only [ok_ok]
theorem ok_b {α : Type} {Q : α → Prop} {b : Bool} {a c : R α} : Ok (if b = true then a else c) Q ↔ (b = true → Ok a Q) ∧ (b = false → Ok c Q) := by cases b <;> simp
theorem k_3 {o o' : D → D → R D} : Ok (e3 o o' f g h S) Q ↔ Ok (f S) fun x => Ok (g S) fun y => Ok (o x y) fun b => Ok (toB b) fun b => (b = true → Ok (h S) fun z => Ok (o' y z) Q) ∧ (b = false → Q (.bl false)) := by
  unfold e3
  simp only [ok_bind, ok_nox, ok_b, ok_ok]
theorem k_tB : Ok (tB' f S) QB ↔ Ok (f S) fun x => Ok (toB x) QB := by unfold tB'; simp only [ok_bind]
theorem k_tT : Ok (tT' f S) QB ↔ Ok (f S) fun x => Ok (truD x) QB := by unfold tT'; simp only [ok_bind]
theorem k_toB {b : Bool} : Ok (toB (.bl b)) QB ↔ QB b := ok_ok
theorem k_tNo : Ok (tNo t S) QB ↔ Ok (t S) fun b => QB (!b) := by unfold tNo; simp only [ok_bind, ok_ok]
theorem k_tA : Ok (tA t u S) QB ↔ Ok (t S) fun b => (b = true → Ok (u S) QB) ∧ (b = false → QB false) := by unfold tA; simp only [ok_bind, ok_b, ok_ok]
theorem k_tO : Ok (tO t u S) QB ↔ Ok (t S) fun b => (b = true → QB true) ∧ (b = false → Ok (u S) QB) := by unfold tO; simp only [ok_bind, ok_b, ok_ok]
theorem k_tY : Ok (tY S) QB ↔ QB true := ok_ok
theorem k_And : Ok (eAnd f g S) Q ↔ Ok (f S) fun x => Ok (toB x) fun b => (b = true → Ok (g S) Q) ∧ (b = false → Q (.bl false)) := by unfold eAnd; simp only [ok_bind, ok_b, ok_ok]
theorem k_Or : Ok (eOr f g S) Q ↔ Ok (f S) fun x => Ok (toB x) fun b => (b = true → Q (.bl true)) ∧ (b = false → Ok (g S) Q) := by unfold eOr; simp only [ok_bind, ok_b, ok_ok]
theorem k_Not : Ok (eNot f S) Q ↔ Ok (f S) fun x => Ok (toB x) fun b => Q (.bl (!b)) := by unfold eNot; simp only [ok_bind, ok_ok]
theorem k_eIf : Ok (eIf t f g S) Q ↔ Ok (t S) fun b => (b = true → Ok (f S) Q) ∧ (b = false → Ok (g S) Q) := by unfold eIf; simp only [ok_bind, ok_b]
theorem k_nil : Ok (sNil S) QS ↔ QS (.nx, S) := ok_ok
theorem k_seq : Ok (sSeq s r S) QS ↔ Ok (s S) fun z => match z.1 with | .nx => Ok (r z.2) QS | _ => QS z := by
  unfold sSeq
  rw [ok_bind]
  apply iff_of_eq
  congr 1
  funext z
  obtain ⟨fl, S'⟩ := z
  cases fl <;> simp [ok_ok]
theorem k_set : Ok (sSet i f S) QS ↔ Ok (f S) fun d => QS (.nx, S.set i (some ⟨false, d⟩)) := by unfold sSet; simp only [ok_bind, ok_ok]
theorem k_own : Ok (sOwn i f S) QS ↔ Ok (f S) fun d => QS (.nx, S.set i (some ⟨true, d⟩)) := by unfold sOwn; simp only [ok_bind, ok_ok]
theorem k_drop : Ok (sDrop f S) QS ↔ Ok (f S) fun d => QS (.nx, S) := by unfold sDrop; simp only [ok_bind, ok_ok]
theorem k_ret : Ok (sRet f S) QS ↔ Ok (f S) fun d => QS (.rt d, S) := by unfold sRet; simp only [ok_bind, ok_ok]
theorem k_retN : Ok (sRetN S) QS ↔ QS (.rt .non, S) := ok_ok
theorem k_retO : Ok (sRetO i S) QS ↔ get1 i S fun d => QS (.rt d, S) := by unfold sRetO; simp only [ok_bind, ok_ok, k_O]
theorem k_if : Ok (sIf t s r S) QS ↔ Ok (t S) fun b => (b = true → Ok (s S) QS) ∧ (b = false → Ok (r S) QS) := by unfold sIf; simp only [ok_bind, ok_b]
theorem k_fz : Ok (sFz i s S) QS ↔ Ok (s (fzS S i)) QS := Iff.rfl
theorem fz_z {b : Bool} {l : List (Option Sl)} : fzS (some ⟨b, d⟩ :: l) 0 = some ⟨false, d⟩ :: l := by cases b <;> rfl
theorem fz_s {a : Option Sl} {l : List (Option Sl)} : fzS (a :: l) (i + 1) = a :: fzS l i := by
  unfold fzS
  rw [List.getElem?_cons_succ]
  split <;> simp [*]
theorem k_gN : Ok (gN i d S) QE ↔ QE (S.set i (some ⟨false, d⟩)) := ok_ok
theorem k_gsN : Ok (gsN [] S) QE ↔ QE S := ok_ok
theorem k_gsC {ga : FG} {gr : FGs} {ds : List D} : Ok (gsC ga gr (d :: ds) S) QE ↔ Ok (ga d S) fun S1 => Ok (gr ds S1) QE := ok_bind
theorem k_gT {n : Nat} {gr : FGs} {ds : List D} : Ok (gT n gr (.tup ds) S) QE ↔ ds.length = n ∧ Ok (gr ds S) QE := ok_if
theorem k_asg {ga : FG} : Ok (sAsg ga f S) QS ↔ Ok (f S) fun d => Ok (ga d S) fun S1 => QS (.nx, S1) := by unfold sAsg; simp only [ok_bind, ok_nox, ok_ok]
theorem k_for {fi : FI} {ga : FG} : Ok (sFor fi ga s S) QS ↔ Ok (fi S) fun ds => Ok (forF ga s ds S) QS := ok_bind
theorem k_fnil {ga : FG} : Ok (forF ga s [] S) QS ↔ QS (.nx, S) := ok_ok
theorem k_fcons {ga : FG} {ds : List D} : Ok (forF ga s (d :: ds) S) QS ↔ Ok (ga d S) fun S1 => Ok (s S1) fun z => match z.1 with
    | .nx => Ok (forF ga s ds z.2) QS
    | .ct => Ok (forF ga s ds z.2) QS
    | .bk => QS (.nx, z.2)
    | .rt d => QS (.rt d, z.2) := by
  show Ok ((ga d S).nox >>= _) QS ↔ _
  rw [ok_bind, ok_nox]
  apply iff_of_eq
  congr 1
  funext S1
  refine propext ?_
  rw [ok_bind]
  apply iff_of_eq
  congr 1
  funext z
  obtain ⟨fl, S'⟩ := z
  cases fl <;> simp [ok_ok]
theorem for_inv {ga : FG} (P : Nat → Env → Prop) : ∀ (ds : List D) (n : Nat) (S : Env), P n S → (∀ i d S, ds[i]? = some d → P (n + i) S → Ok (ga d S) fun S1 => Ok (s S1) fun z => match z.1 with
    | .nx => P (n + i + 1) z.2
    | .ct => P (n + i + 1) z.2
    | .bk => QS (.nx, z.2)
    | .rt d => QS (.rt d, z.2)) → (∀ S, P (n + ds.length) S → QS (.nx, S)) → Ok (forF ga s ds S) QS
  | [], n, S, h, _, q => ok_ok.mpr (q S h)
  | d :: ds, n, S, h, k, q => by
    rw [k_fcons]
    refine (k 0 d S rfl h).mono fun S1 h1 => h1.mono fun z hz => ?_
    have next : ∀ S', P (n + 0 + 1) S' → Ok (forF ga s ds S') QS := fun S' hp => for_inv P ds (n + 1) S' hp (fun i d' S'' hi hp => by
      have := k (i + 1) d' S'' (by simpa using hi) (by rwa [show n + (i + 1) = n + 1 + i by omega])
      rwa [show n + (i + 1) + 1 = n + 1 + i + 1 by omega] at this) fun S'' h => q S'' (by rwa [List.length_cons, show n + (ds.length + 1) = n + 1 + ds.length by omega])
    obtain ⟨fl, S'⟩ := z
    cases fl with
    | nx => exact next S' hz
    | ct => exact next S' hz
    | bk => exact hz
    | rt d => exact hz
theorem k_app : Ok (sApp i f S) QS ↔ Ok (ownL i S) fun ds => Ok (f S) fun d => ds.length < sizeLine ∧ QS (.nx, S.set i (some ⟨true, .lst (ds ++ [d])⟩)) := by unfold sApp; simp only [ok_bind, ok_if, ok_ok]
theorem oL_z {l : List (Option Sl)} {ds : List D} : Ok (ownL 0 (some ⟨true, .lst ds⟩ :: l)) QL ↔ QL ds := ok_ok
theorem oL_s {a : Option Sl} {l : List (Option Sl)} : Ok (ownL (i + 1) (a :: l)) QL ↔ Ok (ownL i l) QL := Iff.rfl
theorem k_par {is : List Nat} : Ok (sPar is fa S) QS ↔ Ok (fa S) fun ds => ds.length = is.length ∧ QS (.nx, putS S is ds) := by unfold sPar; simp only [ok_bind, ok_if, ok_ok]
theorem k_run {n : Nat} {ds : List D} : Ok (runF false n s ds) Q ↔ Ok (s (startS n ds)) fun z => match z.1 with | .rt d => Q d | .nx => Q .non | _ => False := by
  unfold runF
  cases e : s (startS n ds) with
  | ok z =>
    rw [ok_ok]
    obtain ⟨fl, S'⟩ := z
    cases fl <;> simp [endF, ok_ok, ok_fail]
  | exc x => exact ⟨fun ⟨_, e, _⟩ => (nomatch e), fun ⟨_, e, _⟩ => (nomatch e)⟩
  | fail => exact ⟨fun ⟨_, e, _⟩ => (nomatch e), fun ⟨_, e, _⟩ => (nomatch e)⟩
theorem k_runN {n ci : Nat} {ds : List D} : Ok (runN n ci s ds) Q ↔ Ok (s (startN n ci ds)) fun z => match z.1 with | .nx => get1 0 z.2 Q | _ => False := by
  unfold runN
  cases e : s (startN n ci ds) with
  | ok z =>
    rw [ok_ok]
    obtain ⟨fl, S'⟩ := z
    cases fl with
    | nx =>
      show Ok (endN (.ok (.nx, S'))) Q ↔ get1 0 S' Q
      unfold endN get1
      dsimp only
      cases S'[0]? with
      | none => exact ok_fail
      | some o =>
        cases o with
        | none => exact ok_fail
        | some sl => obtain ⟨b, d⟩ := sl; cases b <;> first | exact ok_ok | exact ok_fail
    | _ => exact ok_fail
  | exc x => exact ⟨fun ⟨_, e, _⟩ => (nomatch e), fun ⟨_, e, _⟩ => (nomatch e)⟩
  | fail => exact ⟨fun ⟨_, e, _⟩ => (nomatch e), fun ⟨_, e, _⟩ => (nomatch e)⟩
theorem k_fld {ci : Nat} : Ok (sFldN ci i j f S) QS ↔ Ok (ownO ci i S) fun ds => Ok (f S) fun d => ds.length = j ∧ QS (.nx, S.set i (some ⟨true, .obj ci (ds ++ [d])⟩)) := by unfold sFldN; simp only [ok_bind, ok_if, ok_ok]
theorem oO_z {ci : Nat} {l : List (Option Sl)} {ds : List D} : Ok (ownO ci 0 (some ⟨true, .obj ci ds⟩ :: l)) QL ↔ QL ds := by
  show Ok (if ci = ci then _ else _) QL ↔ _
  rw [if_pos rfl]; exact ok_ok
theorem k_add {a b : Int} : Ok (addD (.int a) (.int b)) Q ↔ Q (.int (a + b)) := ok_ok
theorem k_addL {a b : List D} : Ok (addD (.lst a) (.lst b)) Q ↔ a.length + b.length ≤ sizeLine ∧ Q (.lst (a ++ b)) := by show Ok (if _ then _ else _) Q ↔ _; rw [ok_if, ok_ok]
theorem k_sub {a b : Int} : Ok (subD (.int a) (.int b)) Q ↔ Q (.int (a - b)) := ok_ok
theorem k_mul {a b : Int} : Ok (mulD (.int a) (.int b)) Q ↔ (CMul a b ∨ CMulX a b) ∧ Q (.int (a * b)) := by show Ok (if _ then _ else _) Q ↔ _; rw [ok_if, ok_ok]
theorem k_div {a b : Int} : Ok (fdivD (.int a) (.int b)) Q ↔ CDiv a b ∧ Q (.int (a / b)) := by show Ok (if _ then _ else _) Q ↔ _; rw [ok_if, ok_ok]
theorem k_mod {a b : Int} : Ok (modD (.int a) (.int b)) Q ↔ 0 < b ∧ Q (.int (a % b)) := by show Ok (if _ then _ else _) Q ↔ _; rw [ok_if, ok_ok]
theorem k_pow {a b : Int} : Ok (powD (.int a) (.int b)) Q ↔ CPow a b ∧ Q (.int (a ^ b.toNat)) := by show Ok (if _ then _ else _) Q ↔ _; rw [ok_if, ok_ok]
theorem k_neg {a : Int} : Ok (negD (.int a)) Q ↔ Q (.int (-a)) := ok_ok
theorem k_lt {a b : Int} : Ok (ltD (.int a) (.int b)) Q ↔ Q (.bl (decide (a < b))) := ok_ok
theorem k_le {a b : Int} : Ok (leD (.int a) (.int b)) Q ↔ Q (.bl (decide (a ≤ b))) := ok_ok
theorem k_gt {a b : Int} : Ok (gtD (.int a) (.int b)) Q ↔ Q (.bl (decide (b < a))) := ok_ok
theorem k_ge {a b : Int} : Ok (geD (.int a) (.int b)) Q ↔ Q (.bl (decide (b ≤ a))) := ok_ok
theorem k_eqI {a b : Int} : Ok (eqD (.int a) (.int b)) Q ↔ Q (.bl (decide (a = b))) := by
  have e : eqD (.int a) (.int b) = .ok (.bl (decide (a = b))) := by
    unfold eqD; simp only [dok, deq, Bool.and_self, if_true]; rfl
  rw [e, ok_ok]
theorem k_neI {a b : Int} : Ok (neD (.int a) (.int b)) Q ↔ Q (.bl (!decide (a = b))) := by
  have e : neD (.int a) (.int b) = .ok (.bl (!decide (a = b))) := by
    unfold neD; simp only [dok, deq, Bool.and_self, if_true]; rfl
  rw [e, ok_ok]
theorem k_int {a : Int} : Ok (intD (.int a)) Q ↔ Q (.int a) := ok_ok
theorem k_intB {b : Bool} : Ok (intD (.bl b)) Q ↔ Q (.int (if b then 1 else 0)) := ok_ok
theorem k_abs {a : Int} : Ok (absD (.int a)) Q ↔ Q (.int (if a < 0 then -a else a)) := ok_ok
theorem k_lenL {a : List D} : Ok (lenD (.lst a)) Q ↔ Q (.int a.length) := ok_ok
theorem k_lenT {a : List D} : Ok (lenD (.tup a)) Q ↔ Q (.int a.length) := ok_ok
theorem k_lenC {a : List Int} : Ok (lenD (.scr a)) Q ↔ Q (.int a.length) := ok_ok
theorem k_tru {b : Bool} : Ok (truD (.bl b)) QB ↔ QB b := ok_ok
theorem k_tupL {a : List D} : Ok (tupD (.lst a)) Q ↔ Q (.tup a) := ok_ok
theorem k_tupT {a : List D} : Ok (tupD (.tup a)) Q ↔ Q (.tup a) := ok_ok
theorem k_fldD {ci j : Nat} {ds : List D} : Ok (fldD ci j (.obj ci ds)) Q ↔ ∃ d, ds[j]? = some d ∧ Q d := by
  show Ok (if ci = ci then _ else _) Q ↔ _
  rw [if_pos rfl]
  cases h : ds[j]? with
  | none => exact ⟨fun ⟨_, e, _⟩ => (nomatch e), fun ⟨_, e, _⟩ => (nomatch e)⟩
  | some d => exact ⟨fun q => ⟨d, rfl, ok_ok.mp q⟩, fun ⟨_, e, q⟩ => by cases e; exact ok_ok.mpr q⟩
theorem k_items_l {ds : List D} : Ok (itemsD (.lst ds)) QL ↔ QL ds := ok_ok
theorem k_items_t {ds : List D} : Ok (itemsD (.tup ds)) QL ↔ QL ds := ok_ok
theorem k_rng1 {j : Int} : Ok (rng1 [.int j]) QL ↔ (-(2 ^ 62) ≤ j ∧ j < 2 ^ 62) ∧ QL (rngL 0 j.toNat) := by show Ok (if _ then _ else _) QL ↔ _; rw [ok_if, ok_ok]
theorem k_ixL {xs : List D} {i : Int} : Ok (ixD (.lst xs) (.int i)) Q ↔ ∃ d, L2.atI xs i = some d ∧ Q d := by
  show Ok (match L2.atI xs i with | some d => .ok d | none => .fail) Q ↔ _
  cases L2.atI xs i with
  | none => exact ⟨fun ⟨_, e, _⟩ => (nomatch e), fun ⟨_, e, _⟩ => (nomatch e)⟩
  | some d => exact ⟨fun q => ⟨d, rfl, ok_ok.mp q⟩, fun ⟨_, e, q⟩ => by cases e; exact ok_ok.mpr q⟩
theorem k_ixT {xs : List D} {i : Int} : Ok (ixD (.tup xs) (.int i)) Q ↔ ∃ d, L2.atI xs i = some d ∧ Q d := by
  show Ok (match L2.atI xs i with | some d => .ok d | none => .fail) Q ↔ _
  cases L2.atI xs i with
  | none => exact ⟨fun ⟨_, e, _⟩ => (nomatch e), fun ⟨_, e, _⟩ => (nomatch e)⟩
  | some d => exact ⟨fun q => ⟨d, rfl, ok_ok.mp q⟩, fun ⟨_, e, q⟩ => by cases e; exact ok_ok.mpr q⟩
theorem k_ixC {xs : List Int} {i : Int} : Ok (ixD (.scr xs) (.int i)) Q ↔ ∃ d, L2.atI xs i = some d ∧ Q (.int d) := by
  show Ok (match L2.atI xs i with | some d => .ok (.int d) | none => .fail) Q ↔ _
  cases L2.atI xs i with
  | none => exact ⟨fun ⟨_, e, _⟩ => (nomatch e), fun ⟨_, e, _⟩ => (nomatch e)⟩
  | some d => exact ⟨fun q => ⟨d, rfl, ok_ok.mp q⟩, fun ⟨_, e, q⟩ => by cases e; exact ok_ok.mpr q⟩
end
theorem k_no {QS : Fl × Env → Prop} {S : Env} : Ok (sNo S) QS ↔ False := ok_fail
theorem k_guard {QS : Fl × Env → Prop} {S : Env} {t : FT} : Ok (sIf t sNo sNil S) QS ↔ Ok (t S) fun b => b = false ∧ QS (.nx, S) := by
  rw [k_if]
  apply iff_of_eq
  congr 1
  funext b
  cases b <;> simp [k_no, k_nil]
theorem seq_cut {QS : Fl × Env → Prop} {S : Env} {s r : FS} (P : Env → Prop) (h : Ok (s S) fun z => z.1 = .nx ∧ P z.2) (k : ∀ S', P S' → Ok (r S') QS) : Ok (sSeq s r S) QS := by
  rw [k_seq]
  refine h.mono fun z hz => ?_
  obtain ⟨fl, S'⟩ := z
  obtain ⟨rfl, hp⟩ := hz
  exact k S' hp
theorem mul_r {i j : Int} (h1 : -(2 ^ 64) < j) (h2 : j < 2 ^ 64) : CMul i j ∨ CMulX i j := .inl (.inr ⟨h1, h2⟩)
theorem mul_l {i j : Int} (h1 : -(2 ^ 64) < i) (h2 : i < 2 ^ 64) : CMul i j ∨ CMulX i j := .inl (.inl ⟨h1, h2⟩)
theorem div_c {i j : Int} (h1 : 0 < j) (h2 : j < 1073741824) : CDiv i j := ⟨h1, h2⟩
theorem atI_mem {α : Type} {xs : List α} {i : Int} {a : α} (h : L2.atI xs i = some a) : a ∈ xs := by
  unfold L2.atI at h
  cases e : ixN xs.length i with
  | none => rw [e] at h; cases h
  | some n => rw [e] at h; exact List.mem_of_getElem? h
theorem atI_lt {α : Type} {xs : List α} {i : Int} (h0 : 0 ≤ i) (h : i < xs.length) : ∃ a, L2.atI xs i = some a := by
  have hi : i.toNat < xs.length := by omega
  refine ⟨xs[i.toNat], ?_⟩
  unfold L2.atI ixN
  rw [if_pos h0, if_pos h]
  exact List.getElem?_eq_getElem hi
theorem rngL_get {lo : Int} {n i : Nat} {d : D} (h : (rngL lo n)[i]? = some d) : i < n ∧ d = .int (lo + i) := by
  unfold rngL at h
  rw [List.getElem?_map] at h
  by_cases hi : i < n
  · rw [List.getElem?_range hi] at h
    cases h
    exact ⟨hi, rfl⟩
  · rw [List.getElem?_eq_none (by simp; omega)] at h
    cases h
theorem rngL_len {lo : Int} {n : Nat} : (rngL lo n).length = n := by unfold rngL; simp
theorem size_ge : (1048576 : Nat) ≤ sizeLine := by decide
end M
namespace M
open PySem L2
theorem lc_typed {α : Type} {ga : FG} {t : FT} {fe : FE} {S : Env} (f : α → D) (p : α → Bool) (g : α → D) : ∀ (xs : List α), (∀ x ∈ xs, Ok (ga (f x) S) fun S1 => Ok (t S1) fun b => b = p x ∧ (p x = true → Ok (fe S1) fun y => y = g x)) → lcF ga t fe S (xs.map f) = .ok ((xs.filter p).map g)
  | [], _ => rfl
  | x :: xs, h => by
    have ih := lc_typed f p g xs fun y hy => h y (List.mem_cons_of_mem _ hy)
    obtain ⟨S1, e1, b, e2, rfl, k⟩ := h x (List.mem_cons_self ..)
    show ((ga (f x) S).nox >>= fun S1 => (t S1).nox >>= fun b => if b then (fe S1).nox >>= fun y => lcF ga t fe S (xs.map f) >>= fun ys => .ok (y :: ys) else lcF ga t fe S (xs.map f)) = _
    rw [e1, R.nox_ok, R.ok_bind, e2, R.nox_ok, R.ok_bind, ih]
    by_cases hp : p x = true
    · obtain ⟨y, e3, rfl⟩ := k hp
      rw [if_pos hp, e3, R.nox_ok, R.ok_bind, R.ok_bind, List.filter_cons_of_pos hp, List.map_cons]
    · rw [if_neg hp, List.filter_cons_of_neg hp]
theorem k_lc {fi : FI} {ga : FG} {t : FT} {fe : FE} {vs : List Nat} {S : Env} {Q : D → Prop} : Ok (lcE fi ga t fe vs S) Q ↔ Ok (fi S) fun ds => ds.length ≤ sizeLine ∧ Ok (lcF ga t fe (wipeS S vs) ds) fun ys => Q (.lst ys) := by
  unfold lcE; simp only [ok_bind, ok_if, ok_ok]
theorem k_lcT {α : Type} {fi : FI} {ga : FG} {t : FT} {fe : FE} {vs : List Nat} {S : Env} {Q : D → Prop} (f : α → D) (p : α → Bool) (g : α → D) (xs : List α) (hi : Ok (fi S) fun ds => ds = xs.map f) (hl : xs.length ≤ sizeLine)
    (h : ∀ x ∈ xs, Ok (ga (f x) (wipeS S vs)) fun S1 => Ok (t S1) fun b => b = p x ∧ (p x = true → Ok (fe S1) fun y => y = g x)) (q : Q (.lst ((xs.filter p).map g))) : Ok (lcE fi ga t fe vs S) Q := by
  rw [k_lc]
  obtain ⟨ds, e, rfl⟩ := hi
  refine ⟨_, e, by rwa [List.length_map], ?_⟩
  rw [lc_typed f p g xs h, ok_ok]
  exact q
theorem filter_true {α : Type} {p : α → Bool} : ∀ {xs : List α}, (∀ x ∈ xs, p x = true) → xs.filter p = xs
  | [], _ => rfl
  | x :: xs, h => by rw [List.filter_cons_of_pos (h x (List.mem_cons_self ..)), filter_true fun y hy => h y (List.mem_cons_of_mem _ hy)]
theorem k_lcM {α : Type} {fi : FI} {ga : FG} {fe : FE} {vs : List Nat} {S : Env} {Q : D → Prop} (f : α → D) (g : α → D) (xs : List α) (hi : Ok (fi S) fun ds => ds = xs.map f) (hl : xs.length ≤ sizeLine)
    (h : ∀ x ∈ xs, Ok (ga (f x) (wipeS S vs)) fun S1 => Ok (fe S1) fun y => y = g x) (q : Q (.lst (xs.map g))) : Ok (lcE fi ga tY fe vs S) Q := by
  refine k_lcT f (fun _ => true) g xs hi hl (fun x hx => (h x hx).mono fun S1 h1 => ok_ok.mpr ⟨rfl, fun _ => h1⟩) ?_
  rw [filter_true fun _ _ => rfl]
  exact q
theorem asI_mapf {α : Type} (f : α → Int) : ∀ xs : List α, asI (xs.map fun x => .int (f x)) = some (xs.map f)
  | [] => rfl
  | x :: xs => by simp only [List.map_cons, asI, asI_mapf f xs, Option.map_some]
theorem for_typed {α : Type} {ga : FG} {s : FS} {QS : Fl × Env → Prop} (f : α → D) (P : List α → Env → Prop) (xs : List α) (S : Env) (h0 : P [] S)
    (h : ∀ (done : List α) (x : α) (rest : List α) (S : Env), xs = done ++ x :: rest → P done S → Ok (ga (f x) S) fun S1 => Ok (s S1) fun z => match z.1 with
      | .nx => P (done ++ [x]) z.2
      | .ct => P (done ++ [x]) z.2
      | .bk => QS (.nx, z.2)
      | .rt d => QS (.rt d, z.2)) (q : ∀ S, P xs S → QS (.nx, S)) : Ok (forF ga s (xs.map f) S) QS := by
  suffices H : ∀ (rest done : List α) (S : Env), xs = done ++ rest → P done S → Ok (forF ga s (rest.map f) S) QS from H xs [] S rfl h0
  intro rest
  induction rest with
  | nil => intro done S e hp; rw [List.append_nil] at e; subst e; exact ok_ok.mpr (q S hp)
  | cons x rest ih =>
    intro done S e hp
    rw [List.map_cons, k_fcons]
    refine (h done x rest S e hp).mono fun S1 h1 => h1.mono fun z hz => ?_
    obtain ⟨fl, S'⟩ := z
    have e' : xs = (done ++ [x]) ++ rest := by rw [e]; simp
    cases fl with
    | nx => exact ih (done ++ [x]) S' e' hz
    | ct => exact ih (done ++ [x]) S' e' hz
    | bk => exact hz
    | rt d => exact hz
end M
set_option Elab.async false
set_option linter.all false
set_option maxRecDepth 100000
set_option maxHeartbeats 4000000
namespace M
open PySem L2
def isStrD : D → Bool
  | .str _ => true
  | _ => false
def okCD (ds : List D) : Bool := decide (ds.length < 2) || (decide (3 < ds.length) || ds.all isStrD)
mutual
def dB (K : PySem.W.Frag) : D → Value → Bool
  | .non, .none => true
  | .bl b, .bool c => b == c
  | .int i, .int j _ => decide (i = j)
  | .str x, .str y _ => decide (x = y)
  | .tup ds, .ref a => (match K.lookup a with
    | some ⟨.type c, _, .seq its _, _⟩ => decide (c = "tuple") && (decide (its.size ≤ sizeLine) && (okCD ds && dsB K ds its.toList))
    | _ => false)
  | _, _ => false
termination_by structural d => d
def dsB (K : PySem.W.Frag) : List D → List Value → Bool
  | [], [] => true
  | d :: ds, u :: us => dB K d u && dsB K ds us
  | _, _ => false
termination_by structural ds => ds
end
theorem okCD_ok {k : Kn} {G : Hp} {ds : List D} {vs : List V} (r : RDs k G ds vs) (h : okCD ds = true) : okC vs = true := by
  have e : ∀ {ds : List D} {vs : List V}, RDs k G ds vs → ds.all isStrD = true → (vs.all fun x => match x with | .str _ => true | _ => false) = true := by
    intro ds vs r h
    induction ds generalizing vs with
    | nil => cases r; rfl
    | cons d ds ih =>
      cases r with
      | cons a b =>
        rw [List.all_cons, Bool.and_eq_true] at h
        rw [List.all_cons, ih b h.2, Bool.and_true]
        have h1 := h.1
        unfold isStrD at h1
        split at h1
        · cases a; rfl
        · cases h1
  unfold okCD at h
  unfold okC
  rw [← r.length]
  simp only [Bool.or_eq_true, decide_eq_true_eq] at h ⊢
  rcases h with h | h | h
  · exact .inl h
  · exact .inr (.inl h)
  · exact .inr (.inr (e r h))
section
variable {K : PySem.W.Frag} {cl : Nat → Option (Addr × List Str)}
mutual
theorem dB_ok : ∀ {d : D} {u : Value}, dB K d u = true → ∃ v, RelV v u ∧ ∀ G, RD ⟨K, cl⟩ G d v
  | .non, .none, _ => ⟨.non, rfl, fun _ => .non⟩
  | .bl b, .bool c, h => by simp only [dB, beq_iff_eq] at h; subst h; exact ⟨.bl b, rfl, fun _ => .bl _⟩
  | .int i, .int j t, h => by simp only [dB, decide_eq_true_eq] at h; subst h; exact ⟨.int i, ⟨t, rfl⟩, fun _ => .int _⟩
  | .str x, .str y t, h => by simp only [dB, decide_eq_true_eq] at h; subst h; exact ⟨.str x, ⟨t, rfl⟩, fun _ => .str _⟩
  | .tup ds, .ref a, h => by
    simp only [dB] at h
    split at h
    · rename_i c od its n sl e
      simp only [Bool.and_eq_true, decide_eq_true_eq] at h
      obtain ⟨h1, h2, h4, h3⟩ := h
      obtain ⟨vs, r1, r2⟩ := dsB_ok h3
      exact ⟨.ref a, rfl, fun G => .tup (.inr ⟨_, its, n, e, congrArg Value.type h1, rfl, h2, r1, okCD_ok (r2 G) h4⟩) (r2 G)⟩
    · cases h
theorem dsB_ok : ∀ {ds : List D} {us : List Value}, dsB K ds us = true → ∃ vs, Vals vs us ∧ ∀ G, RDs ⟨K, cl⟩ G ds vs
  | [], [], _ => ⟨[], .nil, fun _ => .nil⟩
  | d :: ds, u :: us, h => by
    simp only [dsB, Bool.and_eq_true] at h
    obtain ⟨v, r1, r2⟩ := dB_ok h.1
    obtain ⟨vs, q1, q2⟩ := dsB_ok h.2
    exact ⟨v :: vs, .cons r1 q1, fun G => .cons (r2 G) (q2 G)⟩
end
end
def gB (K : PySem.W.Frag) (q : Str × D) : Bool := match PySem.W.nsIn K mainGlobals q.1 with
  | some (some u) => dB K q.2 u
  | _ => false
theorem gB_ok {K : PySem.W.Frag} {h : Heap} {mg : Str → Option Value} {cl : Nat → Option (Addr × List Str)} {x : Str} {d : D} (X : K.In h) (G : h.Ns mainGlobals mg) (c : gB K (x, d) = true) : Gc mg ⟨K, cl⟩ x d := by
  unfold gB at c
  split at c
  · rename_i u e
    obtain ⟨v, r1, r2⟩ := dB_ok (cl := cl) c
    exact ⟨v, u, PySem.W.mg_of X G e, r1, r2⟩
  · cases c
theorem gcls_ok {K : PySem.W.Frag} {mg : Str → Option Value} {cl : Nat → Option (Addr × List Str)} {x : Str} {ci : Nat} {C : Addr} {nm : List Str} (h : mg x = some (.ref C)) (hc : cl ci = some (C, nm)) : Gc mg ⟨K, cl⟩ x (.cls ci) :=
  ⟨.ref C, .ref C, h, rfl, fun _ => .cls hc⟩
def tyB (K : PySem.W.Frag) (x : Str) : Bool := He.eqO (PySem.W.findIn K (.ref (He.ga K x)) "__class__") (some (some (.builtin "object.__class__"))) && (He.eqO (PySem.W.specialIn K (.builtin "object.__class__") "__get__") (some (some (.builtin "getset_descriptor.__get__"))) &&
  (decide (PySem.W.takesIn K (.builtin "object.__class__") = some true) && decide (PySem.W.mroIn K (He.ga K x) (.type "object") = some true)))
structure Fx where
  fa : List He.Fa
  gs : List (Str × D)
  ts : List Str
def Fx.ok (x : Fx) (K : PySem.W.Frag) : Bool := (x.fa.all fun f => f.ok K) && ((x.gs.all fun g => gB K g) && x.ts.all fun t => tyB K t)
def obsX (x : Fx) (fn : List He.DefD) (K : PySem.W.Frag) : He.AlD := (x.ok K && fn.all fun d => d.ok K, fn.map fun d => He.fnW K d.at_)
def SaysX (x : Fx) (fn : List He.DefD) (K : PySem.W.Frag) : Prop := obsX x fn K = He.valD fn
section
variable {x : Fx} {fn : List He.DefD} {K : PySem.W.Frag}
theorem SaysX.ok (c : SaysX x fn K) : x.ok K = true := (He.ba (show (x.ok K && fn.all fun d => d.ok K) = true from congrArg (fun z : He.AlD => z.1) c)).1
theorem SaysX.fact (c : SaysX x fn K) (i : Nat) {f : He.Fa} (h : x.fa[i]? = some f := by rfl) : f.ok K = true := List.all_eq_true.mp (He.ba c.ok).1 f (List.mem_of_getElem? h)
theorem SaysX.gc (c : SaysX x fn K) (i : Nat) {f : Str × D} (h : x.gs[i]? = some f := by rfl) : gB K f = true := List.all_eq_true.mp (He.ba (He.ba c.ok).2).1 f (List.mem_of_getElem? h)
theorem SaysX.ty (c : SaysX x fn K) (i : Nat) {f : Str} (h : x.ts[i]? = some f := by rfl) : tyB K f = true := List.all_eq_true.mp (He.ba (He.ba c.ok).2).2 f (List.mem_of_getElem? h)
theorem SaysX.def_ (c : SaysX x fn K) (i : Nat) {d : He.DefD} (h : fn[i]? = some d := by rfl) : ∃ fd, FunD K d.name d.qual d.params d.body d.scope (d.dvs K) (d.kws K) (He.fAd K d.at_) fd := by
  have c2 := (He.ba (show (x.ok K && fn.all fun d => d.ok K) = true from congrArg (fun z : He.AlD => z.1) c)).2
  have e : fn.map (fun d => He.fnW K d.at_) = fn.map He.DefD.val := congrArg (fun z : He.AlD => z.2) c
  have e2 : (fn.map fun d => He.fnW K d.at_)[i]? = (fn.map He.DefD.val)[i]? := by rw [e]
  rw [List.getElem?_map, List.getElem?_map, h] at e2
  exact He.DefD.funD (Option.some.inj e2) (List.all_eq_true.mp c2 d (List.mem_of_getElem? h))
end
theorem walk_ofX {l : PySem.W.OpenLaw} {n k : Nat} {q : Program} {loose : List Str} {XP : (Str → Option Value) → Heap → Prop} {YP : World → Heap → Prop} {d : DefRec} {x : Str} {den : List D → R D}
    (hn : l.most = some n) (hn2 : n ≤ sizeLine) (hdf : d.params.defaults = []) (hr : Room k callerA)
    (F : ∀ (w : World) (mg : Str → Option Value) (fa : Addr) (h : Heap), YP w h → h.Ns mainGlobals mg → mg d.name = some (.ref fa) →
      ∃ (K : PySem.W.Frag) (fd : FuncData) (cl : Nat → Option (Addr × List Str)), K.In h ∧ (∀ (s : Shared) (u : Value), BindsTo s fd ⟨[u], []⟩ [(x, u)]) ∧
        ∀ base : Heap, K.In base → base.Ns mainGlobals mg → FnOk l.prog w K mg base CX0 k fa fd [x] (SpF ⟨K, cl⟩ false 1 den))
    (pure_ : ∀ ns : List Int, ns.length ≤ n → (∀ z ∈ ns, Builtin.Int.intBits z ≤ 1048576) → den [.scr ns] = .ok (.bl true)) :
    PySem.W.WalkO q loose XP YP l.row.toRowW d [] (fun f vs => PySem.call f vs) := by
  refine Att.attach_callB hn hdf fun w s₀ s₁ mg mb fa o pm cd doc a vs ns G Y ho hd hcd hmg hobj hints hlen hbits hg => ?_
  obtain ⟨K, fd, cl, KX, hb, hF⟩ := F w mg fa _ Y G.T.g hmg
  refine law_call KX G.T.g G.T.b G.T.builtins G.T.nolimit hg hobj hints (Nat.le_trans hlen hn2) hr hF hb (fun H hO hS => ?_) fun H e s' z => z
  refine ⟨rfl, H, [.scr ns], Ex.refl H, .cons (.scr hS) .nil, ?_⟩
  rw [pure_ ns hlen hbits]
  intro v G' H' s r
  have r : RD ⟨K, cl⟩ G' (.bl true) v := r
  cases r
  rfl
end M
set_option Elab.async false
set_option linter.all false
set_option maxRecDepth 100000
set_option maxHeartbeats 4000000
namespace M
open PySem L2
inductive Wh where
  | glo (x : Str) | met (C m : Str) | pro (C m : Str) | cme (C m : Str)
def innA (K : PySem.W.Frag) (T : String) (p : Addr) : Addr := match PySem.W.recIn K p T with
  | some (.ref g :: _) => g
  | _ => 0
def Wh.ad (K : PySem.W.Frag) : Wh → Addr
  | .glo x => He.ga K x
  | .met C m => He.ma K (He.ga K C) m
  | .pro C m => innA K "property" (He.ma K (He.ga K C) m)
  | .cme C m => He5.wf K (He.ga K C) "classmethod" m
structure Dx where
  w : Wh
  d : He.DefD
def seenF : FuncData → He.FnW := fun z => some (z.name, z.qualname, z.params, z.body, z.scope, z.globals, z.closure, z.builtins)
def Dx.look (K : PySem.W.Frag) (x : Dx) : Option FuncData := (K.lookup (x.w.ad K)).bind fun o => match o.data with
  | .func z => some z
  | _ => none
def Dx.seen (K : PySem.W.Frag) (x : Dx) : He.FnW := (x.look K).bind seenF
def Dx.good (K : PySem.W.Frag) (x : Dx) : Bool := PySem.W.keepIn K (.ref (x.w.ad K)) && ((x.look K).map fun z => PySem.W.codeIn K z.code x.d.qual && (He.dflB K z.defaults (x.d.dvs K) && He.kwdB K z.kwdefaults (x.d.kws K))).getD false
theorem Dx.fund {K : PySem.W.Frag} {x : Dx} (e : x.seen K = x.d.val) (c : x.good K = true) : ∃ z, FunD K x.d.name x.d.qual x.d.params x.d.body x.d.scope (x.d.dvs K) (x.d.kws K) (x.w.ad K) z := by
  obtain ⟨kp, c2⟩ := He.ba c
  cases hl : x.look K with
  | none => rw [hl] at c2; cases c2
  | some z =>
    rw [hl] at c2
    have c3 : (PySem.W.codeIn K z.code x.d.qual && (He.dflB K z.defaults (x.d.dvs K) && He.kwdB K z.kwdefaults (x.d.kws K))) = true := c2
    have e2 : seenF z = x.d.val := by
      unfold Dx.seen at e
      rw [hl] at e
      exact e
    obtain ⟨a1, a2⟩ := He.ba c3
    obtain ⟨a3, a4⟩ := He.ba a2
    have hk : ∃ oc od osl, K.lookup (x.w.ad K) = some ⟨oc, od, .func z, osl⟩ := by
      unfold Dx.look at hl
      cases q : K.lookup (x.w.ad K) with
      | none => rw [q] at hl; cases hl
      | some o =>
        rw [q] at hl
        obtain ⟨oc, od, dt, osl⟩ := o
        cases dt with
        | func y => cases hl; exact ⟨oc, od, osl, rfl⟩
        | _ => cases hl
    obtain ⟨oc, od, osl, hk⟩ := hk
    obtain ⟨y1, y2, y3, y4, y5, y6, y7, y8, y9, y10, y11, y12, y13, y14, y15⟩ := z
    simp only [seenF, He.DefD.val, Option.some.injEq, Prod.mk.injEq] at e2
    obtain ⟨b1, b2, b3, b4, b5, b6, b7, b8⟩ := e2
    subst b1 b2 b3 b4 b5 b6 b7 b8
    exact ⟨_, ⟨oc, od, y8, y9, y10, y11, y12, y13, y14, osl, rfl, hk, a1, He.dflB_ok a3, He.kwdB_ok a4⟩, kp⟩
def proB (K : PySem.W.Frag) (q : Str × Str) : Bool :=
  He.eqO (PySem.W.findIn K (.ref (He.ga K q.1)) q.2) (some (some (.ref (He.ma K (He.ga K q.1) q.2)))) && (He.eqO (PySem.W.specialIn K (.ref (He.ma K (He.ga K q.1) q.2)) "__get__") (some (some (.builtin "property.__get__"))) &&
    (decide (PySem.W.takesIn K (.ref (He.ma K (He.ga K q.1) q.2)) = some true) && (match PySem.W.recIn K (He.ma K (He.ga K q.1) q.2) "property" with | some (.ref _ :: _) => true | _ => false)))
structure Fy where
  fa : List He.Fa
  gs : List (Str × D)
  ts : List Str
  ps : List (Str × Str)
def Fy.ok (x : Fy) (K : PySem.W.Frag) : Bool := (x.fa.all fun f => f.ok K) && ((x.gs.all fun g => gB K g) && ((x.ts.all fun t => tyB K t) && x.ps.all fun p => proB K p))
def obsY (x : Fy) (fn : List Dx) (K : PySem.W.Frag) : He.AlD := (x.ok K && fn.all fun d => d.good K, fn.map fun d => d.seen K)
def valY (fn : List Dx) : He.AlD := (true, fn.map fun d => d.d.val)
def SaysY (x : Fy) (fn : List Dx) (K : PySem.W.Frag) : Prop := obsY x fn K = valY fn
section
variable {x : Fy} {fn : List Dx} {K : PySem.W.Frag}
theorem SaysY.both (c : SaysY x fn K) : (x.ok K && fn.all fun d => d.good K) = true := congrArg Prod.fst c
theorem SaysY.ok (c : SaysY x fn K) : x.ok K = true := (He.ba c.both).1
theorem SaysY.fact (c : SaysY x fn K) (i : Nat) {f : He.Fa} (h : x.fa[i]? = some f := by rfl) : f.ok K = true := List.all_eq_true.mp (He.ba c.ok).1 f (List.mem_of_getElem? h)
theorem SaysY.gc (c : SaysY x fn K) (i : Nat) {f : Str × D} (h : x.gs[i]? = some f := by rfl) : gB K f = true := List.all_eq_true.mp (He.ba (He.ba c.ok).2).1 f (List.mem_of_getElem? h)
theorem SaysY.ty (c : SaysY x fn K) (i : Nat) {f : Str} (h : x.ts[i]? = some f := by rfl) : tyB K f = true := List.all_eq_true.mp (He.ba (He.ba (He.ba c.ok).2).2).1 f (List.mem_of_getElem? h)
theorem SaysY.pro (c : SaysY x fn K) (i : Nat) {f : Str × Str} (h : x.ps[i]? = some f := by rfl) : proB K f = true := List.all_eq_true.mp (He.ba (He.ba (He.ba c.ok).2).2).2 f (List.mem_of_getElem? h)
theorem SaysY.def_ (c : SaysY x fn K) (i : Nat) {d : Dx} (h : fn[i]? = some d := by rfl) : ∃ z, FunD K d.d.name d.d.qual d.d.params d.d.body d.d.scope (d.d.dvs K) (d.d.kws K) (d.w.ad K) z := by
  have e : fn.map (fun d => d.seen K) = fn.map fun d => d.d.val := congrArg Prod.snd c
  have e2 := congrArg (fun l : List He.FnW => l[i]?) e
  simp only [List.getElem?_map, h, Option.map_some, Option.some.injEq] at e2
  exact Dx.fund e2 (List.all_eq_true.mp (He.ba c.both).2 d (List.mem_of_getElem? h))
end
end M
set_option Elab.async false
set_option linter.all false
set_option maxRecDepth 100000
set_option maxHeartbeats 4000000
namespace M
open PySem L2
section
variable {X : Cx} {c : Cf} {kd k1 k2 : Kd} {a b e o : Expr} {f g : FE} {pos apos : Pos} {k : Kn}
end
end M
namespace M
open PySem L2
section
variable {X : Cx} {c : Cf} {k1 k2 : Kd} {a b e : Expr} {f g : FE} {pos p p2 pos2 : Pos} {k : Kn}
instance (a b : Int) : Decidable (RgOk a b) := by unfold RgOk; infer_instance
def rgD (a b : Int) : List D := (List.range (b - a).toNat).map fun (i : Nat) => .int (a + i)
theorem RDs.rg {G : Hp} (a b : Int) : RDs k G (rgD a b) (rgV a b) := by
  unfold rgD rgV
  induction (List.range (b - a).toNat) with
  | nil => exact .nil
  | cons x xs ih => exact .cons (.int _) ih
end
end M
set_option Elab.async false
set_option linter.all false
set_option maxRecDepth 100000
set_option maxHeartbeats 4000000
namespace M
open PySem L2
def tabGet (tab : List (Str × Int)) (z : Str) : Option Int := (tab.find? fun p => p.1 == z).map (·.2)
structure KTab (K : PySem.W.Frag) (w : World) (mg : Str → Option Value) (x : Str) (tab : List (Str × Int)) : Prop where
  ex : ∃ d es n, mg x = some (.ref d) ∧ KDict K w d es n ∧ ∀ z, ∃ r, PySem.W.nsIn K d z = some r ∧ match tabGet tab z with
    | some i => ∃ t, r = some (.int i t)
    | none => r = none
section
variable {X : Cx} {c : Cf} {kd k1 k2 : Kd} {a b e o : Expr} {f g : FE} {pos apos cpos p : Pos} {k : Kn} {x : Str} {tab : List (Str × Int)}
structure PMc (X : Cx) (cs : List MatchCase) (t : Int → TS) : Prop where
  run : ∀ (pins : List (Addr × Obj)) (s : Shared) (σ : St) (H : Hp) (D : Ends) (n : Int) (tk : Tok) (first : Bool), L2.Inv X pins σ H s → t n D σ H → wpAny (model X.prog X.w) X.A (matchCases cs X.env (.int n tk) first) (SP X pins D) X.xe s
theorem PostS.up {fr : Bool} {as bs : List Nat} {G H : Hp} {S : Env} {σ : St} {Dn : Ends} {r : R (Fl × Env)} (h : ∀ i, i ∈ as → i ∈ bs) (p : PostS c fr bs G S σ H Dn r) : PostS c fr as G S σ H Dn r := by
  cases r with
  | ok z =>
    obtain ⟨fl, S'⟩ := z
    cases fl with
    | nx => exact fun G' σ' H' e rel fm => p G' σ' H' e rel (fm.mono h)
    | bk => exact fun G' σ' H' e rel fm => p G' σ' H' e rel (fm.mono h)
    | ct => exact fun G' σ' H' e rel fm => p G' σ' H' e rel (fm.mono h)
    | rt d => exact fun v G2 H2 st rv ow => p v G2 H2 st rv (ow.sub h)
  | exc x => exact p
  | fail => exact p
end
end M
namespace M
open PySem L2
section
variable {X : Cx} {c : Cf} {k1 : Kd} {e : Expr} {f : FE} {pos p tp q1 q2 : Pos} {k : Kn} {x y z : Str}
end
end M
namespace M
open PySem L2
end M
namespace M
open PySem L2
end M
set_option Elab.async false
set_option linter.all false
set_option maxRecDepth 100000
set_option maxHeartbeats 4000000
namespace M
open PySem L2
abbrev TabI := Str × List (Str × Int)
def valI (K : PySem.W.Frag) (t : TabI) : Bool := t.2.all fun q => match PySem.W.nsIn K (He.ga K t.1) q.1 with
  | some (some (.int i _)) => decide (i = q.2)
  | _ => false
abbrev AlZ : Type := He.AlD × List (Option (List (Option (Str × Int))))
def obsZ (x : Fy) (ts : List TabI) (fn : List Dx) (K : PySem.W.Frag) : AlZ := (((x.ok K && ts.all fun t => valI K t) && fn.all fun d => d.good K, fn.map fun d => d.seen K), ts.map fun t => He.dicW K (He.ga K t.1))
def valZ (ts : List TabI) (fn : List Dx) (w : World) : AlZ := ((true, fn.map fun d => d.d.val), ts.map fun t => some (He.keysIn w.params (t.2.map (·.1))))
def SaysZ (x : Fy) (ts : List TabI) (fn : List Dx) (w : World) (K : PySem.W.Frag) : Prop := obsZ x ts fn K = valZ ts fn w
section
variable {x : Fy} {ts : List TabI} {fn : List Dx} {K : PySem.W.Frag} {w : World}
theorem SaysZ.all (c : SaysZ x ts fn w K) : ((x.ok K && ts.all fun t => valI K t) && fn.all fun d => d.good K) = true := congrArg (fun z : AlZ => z.1.1) c
theorem SaysZ.y (c : SaysZ x ts fn w K) : SaysY x fn K := by
  have h1 := He.ba c.all
  have e : fn.map (fun d => d.seen K) = fn.map fun d => d.d.val := congrArg (fun z : AlZ => z.1.2) c
  show (x.ok K && fn.all fun d => d.good K, fn.map fun d => d.seen K) = (true, _)
  rw [e, (He.ba h1.1).1, h1.2]; rfl
theorem SaysZ.tab (c : SaysZ x ts fn w K) (i : Nat) {t : TabI} (h : ts[i]? = some t := by rfl) : He.dicW K (He.ga K t.1) = some (He.keysIn w.params (t.2.map (·.1))) ∧ valI K t = true := by
  have e : ts.map (fun t => He.dicW K (He.ga K t.1)) = ts.map fun t => some (He.keysIn w.params (t.2.map (·.1))) := congrArg (fun z : AlZ => z.2) c
  have e2 := congrArg (fun l : List (Option (List (Option (Str × Int)))) => l[i]?) e
  simp only [List.getElem?_map, h, Option.map_some, Option.some.injEq] at e2
  exact ⟨e2, List.all_eq_true.mp (He.ba (He.ba c.all).1).2 t (List.mem_of_getElem? h)⟩
end
end M
set_option Elab.async false
set_option linter.all false
set_option maxRecDepth 100000
set_option maxHeartbeats 4000000
namespace M
open PySem L2
def keyD : D → Option Key
  | .int i => some (.inl i)
  | .str x => some (.inr x)
  | _ => none
def keysD : List D → Option (List Key)
  | [] => some []
  | d :: ds => match keyD d, keysD ds with
    | some k, some ks => some (k :: ks)
    | _, _ => none
section
variable {k : Kn} {G H : Hp}
theorem keyD_now {d : D} {v : V} {q : Key} (h : keyD d = some q) (n : Now k G H d v) : v = kV q := by
  cases d <;> simp only [keyD] at h <;> first | (cases h; done) | skip
  · cases h; exact n.int
  · cases h; exact n.str
theorem keyD_rd {d : D} {v : V} {q : Key} (h : keyD d = some q) (n : RD k G d v) : v = kV q := keyD_now (H := G) h (.inl n)
theorem keysD_rd : ∀ {ds : List D} {vs : List V} {qs : List Key}, keysD ds = some qs → RDs k G ds vs → vs = qs.map kV
  | _, _, qs, h, .nil => by cases h; rfl
  | d :: ds, _, qs, h, .cons a b => by
    simp only [keysD] at h
    split at h
    · rename_i q qs' h1 h2
      cases h
      rw [keyD_rd h1 a, keysD_rd h2 b]; rfl
    · cases h
def getL {κ : Type} [DecidableEq κ] : List κ → List D → κ → Option D
  | x :: ks, d :: ds, q => if x = q then some d else getL ks ds q
  | _, _, _ => none
def putL {κ : Type} [DecidableEq κ] (ks : List κ) (ds : List D) (q : κ) (d : D) : List κ × List D := match ks.idxOf? q with
  | some i => (ks, ds.set i d)
  | none => (ks ++ [q], ds ++ [d])
theorem getL_val {κ : Type} [DecidableEq κ] {q : κ} : ∀ {ks : List κ} {ds : List D} {vs : List V}, ks.length = ds.length → RDs k G ds vs → (∀ d, getL ks ds q = some d → ∃ v, valV (ks.zip vs) q = some v ∧ RD k G d v) ∧ (getL ks ds q = none → valV (ks.zip vs) q = none)
  | [], _, _, _, _ => ⟨(fun d h => by simp [getL] at h), fun _ => by simp [valV]⟩
  | x :: ks, [], _, h, _ => by simp at h
  | x :: ks, d :: ds, _, h, .cons a b => by
    have ih := getL_val (q := q) (ks := ks) (by simpa using h) b
    simp only [getL, List.zip_cons_cons]
    by_cases e : x = q
    · rw [if_pos e]
      exact ⟨fun d' h' => ⟨_, valV_pos e, by cases h'; exact a⟩, fun h' => by cases h'⟩
    · rw [if_neg e]
      have e2 : ∀ r : List (κ × V), ∀ v, valV ((x, v) :: r) q = valV r q := fun r v => by
        unfold valV; rw [List.find?_cons]; simp [e]
      rw [e2]; exact ih
theorem any_zip {κ : Type} [DecidableEq κ] {q : κ} : ∀ {ks : List κ} {vs : List V}, ks.length = vs.length → ((ks.zip vs).any fun kv => decide (kv.1 = q)) = (ks.idxOf? q).isSome
  | [], _, _ => by simp
  | x :: ks, [], h => by simp at h
  | x :: ks, v :: vs, h => by
    rw [List.zip_cons_cons, List.any_cons, any_zip (by simpa using h), List.idxOf?_cons]
    by_cases e : x = q
    · simp [e]
    · have : (x == q) = false := by simpa using e
      simp [e]
theorem map_zip {κ : Type} [DecidableEq κ] {q : κ} {v : V} : ∀ {ks : List κ} {vs : List V} {i : Nat}, ks.Nodup → ks.length = vs.length → ks.idxOf? q = some i → ((ks.zip vs).map fun kv => if kv.1 = q then (kv.1, v) else kv) = ks.zip (vs.set i v)
  | [], _, _, _, _, h => by simp at h
  | x :: ks, [], _, _, h, _ => by simp at h
  | x :: ks, u :: vs, i, nd, hl, h => by
    rw [List.idxOf?_cons] at h
    obtain ⟨n1, n2⟩ := List.nodup_cons.mp nd
    by_cases e : x = q
    · subst e
      simp at h
      subst h
      rw [List.zip_cons_cons, List.map_cons, if_pos rfl, List.set_cons_zero, List.zip_cons_cons]
      congr 1
      have : ∀ p ∈ ks.zip vs, (if p.1 = x then (p.1, v) else p) = p := fun p hp => by
        rw [if_neg]
        intro e
        exact n1 (by rw [← e]; exact (List.of_mem_zip hp).1)
      rw [List.map_congr_left this, List.map_id']
    · have e' : (x == q) = false := by simpa using e
      rw [e'] at h
      cases h2 : ks.idxOf? q with
      | none => rw [h2] at h; simp at h
      | some j =>
        rw [h2] at h; simp at h; subst h
        rw [List.zip_cons_cons, List.map_cons, if_neg e, List.set_cons_succ, List.zip_cons_cons, map_zip n2 (by simpa using hl) h2]
theorem putL_zip {κ : Type} [DecidableEq κ] {q : κ} {ks : List κ} {ds : List D} {d : D} {vs : List V} {v : V} (nd : ks.Nodup) (hl : ks.length = ds.length) (r : RDs k G ds vs) (rd : RD k G d v) :
    ∃ vs', putK (ks.zip vs) q v = (putL ks ds q d).1.zip vs' ∧ RDs k G (putL ks ds q d).2 vs' ∧ (putL ks ds q d).1.length = (putL ks ds q d).2.length := by
  have hv := r.length
  unfold putK putL
  rw [any_zip (by omega)]
  cases h : ks.idxOf? q with
  | none =>
    refine ⟨vs ++ [v], ?_, r.append (.cons rd .nil), by simp [hl]⟩
    rw [if_neg (by simp)]
    show _ = (ks ++ [q]).zip (vs ++ [v])
    rw [List.zip_append (by omega)]; rfl
  | some i =>
    refine ⟨vs.set i v, ?_, r.set i rd, by simp [hl]⟩
    rw [if_pos (by simp)]
    exact map_zip nd (by omega) h
end
section
variable {X : Cx} {c : Cf} {kd k1 k2 k3 : Kd} {a b e o : Expr} {f g h : FE} {pos apos cpos : Pos} {fr : Bool} {x : Str}
def isDct : D → Bool
  | .dic _ _ => true
  | .dit _ _ => true
  | _ => false
theorem d_dnewK : PE' X c .fr (.Dict [] [] pos) (fun _ => .ok (.dic [] [])) :=
  peI pe_dnewK fun σ H Q ⟨G, S, rel, p⟩ => fun q hq => p _ G _ (Step.new' rel.st.gh hq) ⟨q, _, rfl, rel.st.gh.free hq, hq, upd_same, .dic (vs := []) rfl .nil⟩
theorem d_dnewT : PE' X c .fr (.Dict [] [] pos) (fun _ => .ok (.dit [] [])) :=
  peI pe_dnewT fun σ H Q ⟨G, S, rel, p⟩ => fun q hq => p _ G _ (Step.new' rel.st.gh hq) ⟨q, _, rfl, rel.st.gh.free hq, hq, upd_same, .dit (vs := []) rfl .nil⟩
end
end M
set_option Elab.async false
set_option linter.all false
set_option maxRecDepth 100000
set_option maxHeartbeats 4000000
namespace M
open PySem L2
section
variable {X : Cx} {c : Cf} {kd k1 k2 k3 : Kd} {a b e o : Expr} {f g h : FE} {pos apos cpos : Pos} {fr : Bool} {x : Str}
end
end M
set_option Elab.async false
set_option linter.all false
set_option maxRecDepth 100000
set_option maxHeartbeats 4000000
namespace M
open PySem PySem.Spec PyProof.Rows L2
def MskG (m : Nat) : Prop := m = 7 ∨ m = 31 ∨ m = 127 ∨ m = 511
def orbG (m : Nat) : Nat → Nat → Nat → Nat
  | 0, _, b => b
  | n + 1, x, b => orbG m n ((x * 5 + 1) % (m + 1)) (b ||| 2 ^ x)
theorem orbG_hit (m : Nat) : ∀ (n a b j : Nat), (orbG m n (lcgN m a) b).testBit j = true → b.testBit j = true ∨ ∃ k, k < a + n ∧ lcgN m k = j
  | 0, _, _, _, h => .inl h
  | n + 1, a, b, j, h => by
    rcases orbG_hit m n (a + 1) (b ||| 2 ^ lcgN m a) j h with c | ⟨k, hk, e⟩
    · rw [Nat.testBit_or, Nat.testBit_two_pow, Bool.or_eq_true, decide_eq_true_eq] at c
      exact c.imp id fun e => ⟨a, by omega, e⟩
    · exact .inr ⟨k, by omega, e⟩
theorem MskG.orb {m : Nat} (h : MskG m) : M.orbG m (m + 1) 0 0 = 2 ^ (m + 1) - 1 := by
  rcases h with rfl | rfl | rfl | rfl <;> decide +kernel
theorem MskG.back {m : Nat} (h : MskG m) : lcgN m (m + 1) = 0 := by
  rcases h with rfl | rfl | rfl | rfl <;> decide +kernel
theorem MskG.from0 {m : Nat} (h : MskG m) {j : Nat} (hj : j ≤ m) : ∃ k, k ≤ m ∧ lcgN m k = j := by
  have t : (M.orbG m (m + 1) (lcgN m 0) 0).testBit j = true := by
    show (M.orbG m (m + 1) 0 0).testBit j = true
    rw [h.orb, Nat.testBit_two_pow_sub_one]
    exact decide_eq_true (by omega)
  rcases orbG_hit m (m + 1) 0 0 j t with c | ⟨k, hk, e⟩
  · simp at c
  · exact ⟨k, by omega, e⟩
theorem MskG.again {m : Nat} (h : MskG m) : ∀ k, lcgN m (m + 1 + k) = lcgN m k
  | 0 => h.back
  | k + 1 => congrArg (fun x => (x * 5 + 1) % (m + 1)) (h.again k)
theorem MskG.from {m : Nat} (h : MskG m) {i j : Nat} (hi : i ≤ m) (hj : j ≤ m) : ∃ k, k ≤ m ∧ lcgI m i k = j := by
  obtain ⟨a, a1, rfl⟩ := h.from0 hi
  obtain ⟨b, b1, rfl⟩ := h.from0 hj
  by_cases c : a ≤ b
  · exact ⟨b - a, by omega, by rw [lcgN_add, Nat.add_sub_cancel' c]⟩
  · exact ⟨m + 1 + b - a, by omega, by rw [lcgN_add, show a + (m + 1 + b - a) = m + 1 + b by omega, h.again]⟩
theorem MskG.meets {m : Nat} (h : MskG m) (x : Int) {j : Nat} (hj : j ≤ m) : ∃ n, n ≤ m + 12 ∧ runI m (SetTable.bits x) n = j := by
  obtain ⟨k, hk, e⟩ := h.from (runI_le m (SetTable.bits x) 12) hj
  exact ⟨12 + k, by omega, (runI_tail (bits_lt x) k).trans e⟩
theorem MskG.odd {m : Nat} (h : MskG m) : m % 2 = 1 := by rcases h with rfl | rfl | rfl | rfl <;> rfl
theorem MskG.le {m : Nat} (h : MskG m) : m ≤ 511 := by rcases h with rfl | rfl | rfl | rfl <;> decide
theorem wayG (m : Nat) (x : Int) (k : Nat) : way m x k ≤ m := by
  have b : SetTable.bits x % (m + 1) ≤ m := Nat.le_of_lt_succ (Nat.mod_lt _ (Nat.succ_pos _))
  have r := runEnd_bd b
  have z : (runAt m (SetTable.bits x % (m + 1)) (SetTable.bits x)).j + (runAt m (SetTable.bits x % (m + 1)) (SetTable.bits x)).more ≤ m := by
    show SetTable.bits x % (m + 1) + (SetTable.runEnd m _ - SetTable.bits x % (m + 1)) ≤ m
    omega
  exact Nat.le_trans (Nat.le_add_right _ _) (nth_in k _ z)
theorem MskG.firstOf {m : Nat} (h : MskG m) (x : Int) {p : Nat → Prop} {j : Nat} (hj : j ≤ m) (hp : p j) : ∃ K n, n ≤ m + 12 ∧ K ≤ off m (SetTable.bits x % (m + 1)) (SetTable.bits x) n ∧ p (way m x K) ∧ ∀ k, k < K → ¬ p (way m x k) := by
  obtain ⟨n, hn, e⟩ := h.meets x hj
  have w : way m x (off m (SetTable.bits x % (m + 1)) (SetTable.bits x) n) = j := by
    show (nth m _ (off m _ _ n)).j = j
    rw [nth_off, itL_run]; exact e
  obtain ⟨K, k1, k2, k3⟩ := st_least (p := fun k => p (way m x k)) _ (show p (way m x _) from w ▸ hp)
  exact ⟨K, n, hn, k1, k2, k3⟩
theorem offG_le (m : Nat) : ∀ (n i b : Nat), i ≤ m → off m i b n ≤ 10 * n
  | 0, _, _, _ => Nat.le_refl _
  | n + 1, i, b, hi => by
    have r := runEnd_bd hi
    have := offG_le m n (SetTable.leap m i b).1 (SetTable.leap m i b).2 (leap_le m i b)
    show SetTable.runEnd m i - i + 1 + off m _ _ n ≤ _
    omega
structure TbG (t : SetTable) (hs : List Int) : Prop where
  gm : MskG t.mask
  up : Ris t.place.toList
  nd : t.dummies = #[]
  ln : t.place.toList.length = hs.length
  at_ : ∀ {i : Nat} {x : Int} {j : Nat}, hs[i]? = some x → t.place.toList[i]? = some j → ∃ k, way t.mask x k = j ∧ ∀ c, c < k → way t.mask x c ∈ t.place.toList
variable {t : SetTable} {hs : List Int}
theorem TbG.sz (T : TbG t hs) : t.place.size = hs.length := by rw [← Array.length_toList]; exact T.ln
theorem TbG.end_ (T : TbG t hs) (hl : hs.length ≤ t.mask) (x : Int) : ∃ K, K < 10 * SetTable.turns t.mask ∧ way t.mask x K ∉ t.place.toList ∧ ∀ c, c < K → way t.mask x c ∈ t.place.toList := by
  obtain ⟨j, hj, hn⟩ := st_missing t.place.toList (t.mask + 1) (by rw [T.ln]; omega)
  obtain ⟨K, n, a, b, c, d⟩ := T.gm.firstOf x (p := fun y => y ∉ t.place.toList) (Nat.le_of_lt_succ hj) hn
  have := offG_le t.mask n (SetTable.bits x % (t.mask + 1)) (SetTable.bits x) (Nat.le_of_lt_succ (Nat.mod_lt (SetTable.bits x) (Nat.succ_pos t.mask)))
  exact ⟨K, by unfold SetTable.turns; omega, c, fun k hk => Classical.byContradiction (d k hk)⟩
theorem TbG.met (T : TbG t hs) {x : Int} {K i j : Nat} (hK : way t.mask x K ∉ t.place.toList) (hi : hs[i]? = some x) (hj : t.place.toList[i]? = some j) : ∃ c, c < K ∧ way t.mask x c = j := by
  obtain ⟨k, e, b⟩ := T.at_ hi hj
  refine ⟨k, Classical.byContradiction fun z => ?_, e⟩
  rcases Nat.eq_or_lt_of_le (Nat.le_of_not_lt z) with q | q
  · exact hK (by rw [q, e]; exact List.mem_of_getElem? hj)
  · exact hK (b K q)
theorem TbG.add (T : TbG t hs) {x : Int} {K : Nat} (hK : way t.mask x K ∉ t.place.toList) (hb : ∀ c, c < K → way t.mask x c ∈ t.place.toList) {p : Nat} (ep : p = SetTable.below t.place (way t.mask x K)) :
    p ≤ hs.length ∧ TbG (t.put (way t.mask x K)).1 (hs.take p ++ x :: hs.drop p) ∧ (t.put (way t.mask x K)).1.fill = hs.length + 1 := by
  obtain ⟨le1, _, _⟩ := below_cut T.up (way t.mask x K)
  have pl := put_place t (way t.mask x K)
  have dm := put_dm T.nd (way t.mask x K)
  rw [← ep] at pl le1
  have lp : p ≤ t.place.toList.length := by rw [Array.length_toList]; exact le1
  have lh : p ≤ hs.length := T.ln ▸ lp
  have ris : Ris (t.put (way t.mask x K)).1.place.toList := ris_insert T.up fun e => hK (List.mem_of_getElem? (by rw [Array.getElem?_toList]; exact e))
  have mk : (t.put (way t.mask x K)).1.mask = t.mask := rfl
  generalize (t.put (way t.mask x K)).1 = t1 at pl dm ris mk ⊢
  have ln : t1.place.toList.length = hs.length + 1 := by rw [pl, len_ins _ lp, T.ln]
  refine ⟨lh, ⟨mk ▸ T.gm, ris, dm, by rw [ln, len_ins _ lh], fun {i y j} h1 h2 => ?_⟩, by unfold SetTable.fill; rw [dm, ← Array.length_toList, ln]; rfl⟩
  have inn : ∀ z, z ∈ t.place.toList → z ∈ t1.place.toList := fun z hz => by rw [pl]; exact mem_ins.2 (.inr hz)
  have old : ∀ {i' : Nat}, hs[i']? = some y → t.place.toList[i']? = some j → ∃ k, way t1.mask y k = j ∧ ∀ c, c < k → way t1.mask y c ∈ t1.place.toList := fun a b => by
    obtain ⟨k, e, q⟩ := T.at_ a b
    rw [mk]
    exact ⟨k, e, fun c hc => inn _ (q c hc)⟩
  rw [tins_get hs lh] at h1
  rw [pl, tins_get _ lp] at h2
  split at h1
  · rename_i c; rw [if_pos c] at h2; exact old h1 h2
  · rename_i c
    rw [if_neg c] at h2
    split at h1
    · rename_i d
      rw [if_pos d] at h2
      cases h1; cases h2
      exact ⟨K, by rw [mk], fun c hc => by rw [mk]; exact inn _ (hb c hc)⟩
    · rename_i d; rw [if_neg d] at h2; exact old h1 h2
theorem MskG.seat {m : Nat} (hm : MskG m) {done : List Int} {ow : Array (Option Nat)} (W : Own m done ow) (hl : done.length ≤ m) (x : Int) :
    ∃ j, SetTable.layClean.free m ow (SetTable.turns m) (SetTable.bits x % (m + 1)) (SetTable.bits x) = some j ∧ Own m (done ++ [x]) (ow.setIfInBounds j (some done.length)) := by
  obtain ⟨ps, lps, hps⟩ := W.ps
  obtain ⟨j0, a0, n0⟩ := st_missing ps (m + 1) (by omega)
  have f0 : oAt ow j0 = none := Classical.byContradiction fun z => n0 (hps j0 (Nat.le_of_lt_succ a0) z)
  obtain ⟨K, n, hn, hK, e2, e3⟩ := hm.firstOf x (p := fun j => oAt ow j = none) (Nat.le_of_lt_succ a0) f0
  have fr : SetTable.layClean.free m ow (SetTable.turns m) (SetTable.bits x % (m + 1)) (SetTable.bits x) = some (way m x K) := by
    refine free_spec m ow _ n _ _ K (by unfold SetTable.turns; omega) hK (fun k hk => ?_) (by show (oAt ow (way m x K)).isNone = true; rw [e2]; rfl)
    cases z : oAt ow (way m x k) with
    | none => exact absurd z (e3 k hk)
    | some _ => rfl
  have wl := wayG m x K
  have ws : way m x K < ow.size := by rw [W.sz]; omega
  have here := oAt_set_self (some done.length) ws
  have more : ∀ i, oAt ow i ≠ none → oAt (ow.setIfInBounds (way m x K) (some done.length)) i ≠ none := fun i hi => by
    by_cases c : i = way m x K
    · rw [c, here]; simp
    · rw [oAt_set_ne _ c]; exact hi
  refine ⟨_, fr, ⟨by rw [Array.size_setIfInBounds]; exact W.sz, fun j k hj e => ?_, fun k hk => ?_, way m x K :: ps, by simp [lps], fun j hj e => ?_⟩⟩
  · by_cases c : j = way m x K
    · rw [c, here] at e
      cases e
      exact ⟨x, K, by simp, c.symm, fun k hk => more _ (e3 k hk)⟩
    · rw [oAt_set_ne _ c] at e
      obtain ⟨y, K', a1, a2, a3⟩ := W.at_ j k hj e
      exact ⟨y, K', by rw [List.getElem?_append_left (List.getElem?_eq_some_iff.mp a1).1]; exact a1, a2, fun k hk => more _ (a3 k hk)⟩
  · rw [List.length_append] at hk
    by_cases c : k < done.length
    · obtain ⟨j, hj, e⟩ := W.all k c
      exact ⟨j, hj, by rw [oAt_set_ne _ fun z => by rw [z, e2] at e; cases e]; exact e⟩
    · obtain rfl : k = done.length := by simp at hk; omega
      exact ⟨_, wl, here⟩
  · by_cases c : j = way m x K
    · rw [c]; exact List.mem_cons_self
    · rw [oAt_set_ne _ c] at e; exact List.mem_cons_of_mem _ (hps j hj e)
theorem MskG.seats {m : Nat} (hm : MskG m) : ∀ (rest done : List Int) (ow : Array (Option Nat)), Own m done ow → done.length + rest.length ≤ m →
    ∃ ow', rest.foldl (stepF m) (some (ow, done.length)) = some (ow', (done ++ rest).length) ∧ Own m (done ++ rest) ow'
  | [], done, ow, W, _ => ⟨ow, by simp, by simpa using W⟩
  | x :: rest, done, ow, W, h => by
    simp only [List.length_cons] at h
    obtain ⟨j, e, W1⟩ := hm.seat W (by omega) x
    obtain ⟨o2, f, W2⟩ := hm.seats rest (done ++ [x]) _ W1 (by simp; omega)
    simp only [List.append_assoc, List.singleton_append, List.length_append, List.length_cons, List.length_nil, Nat.zero_add] at f W2
    refine ⟨o2, ?_, W2⟩
    rw [List.foldl_cons, stepF_some e, f, List.length_append, List.length_cons]
theorem MskG.relaid {m wanted : Nat} (hm : MskG m) (hw : SetTable.sizeAbove wanted - 1 = m) (t : SetTable) {ha : Array Int} (hn : ha.size ≤ m) :
    ∃ t' ord, t.relaid ha wanted = some (t', ord) ∧ ord.toList.Perm (List.range ha.size) ∧ TbG t' (ord.toList.map fun i => ha.getD i 0) ∧ t'.mask = m ∧ t'.led = t.led ∧ t'.plain = t.plain := by
  obtain ⟨ow, f, W⟩ := hm.seats ha.toList [] _ (Own.init m) (by simpa using hn)
  rw [List.nil_append] at f W
  have lc : SetTable.layClean m ha = some ow := by rw [layClean_eq]; exact congrArg (Option.map (·.1)) f
  have live : ∀ j k, (j, k) ∈ liveOf m ow ↔ j ≤ m ∧ oAt ow j = some k := fun j k => mem_live W.sz
  have rr := ris_live (fun j => ow.getD j none) (List.range (m + 1)) (by unfold Ris; exact List.pairwise_lt_range)
  have r1 : Ris ((liveOf m ow).map (·.1)) := rr.1
  have nd : ((liveOf m ow).map (·.1)).Nodup := List.Pairwise.imp (fun h => Nat.ne_of_lt h) r1
  have cnt : (liveOf m ow).length = ha.size := by
    obtain ⟨ps, p1, p2⟩ := W.ps
    have le1 := nat_nodup_len ((liveOf m ow).map (·.1)) ps nd fun x hx => by
      obtain ⟨⟨y, k⟩, hq, rfl⟩ := List.mem_map.mp hx
      obtain ⟨b1, b2⟩ := (live y k).1 hq
      exact p2 y b1 (by rw [b2]; simp)
    have le2 := nat_nodup_len (List.range ha.size) ((liveOf m ow).map (·.2)) List.nodup_range fun k hk => by
      obtain ⟨j, b1, b2⟩ := W.all k (by simpa using hk)
      exact List.mem_map.mpr ⟨(j, k), (live j k).2 ⟨b1, b2⟩, rfl⟩
    simp at le1 le2 p1
    omega
  refine ⟨tabOf t m ow, ((liveOf m ow).map (·.2)).toArray, by rw [relaid_eq, hw, lc]; rfl, ?_, ⟨hm, r1, rfl, by simp [tabOf], fun {i x j} h1 h2 => ?_⟩, rfl, rfl, rfl⟩
  · refine perm_range _ _ (by simpa using cnt) fun k hk => ?_
    obtain ⟨j, b1, b2⟩ := W.all k (by simpa using hk)
    exact List.mem_map.mpr ⟨(j, k), (live j k).2 ⟨b1, b2⟩, rfl⟩
  · have h1' : (((liveOf m ow).map (·.2)).map fun i => ha.getD i 0)[i]? = some x := h1
    have h2' : ((liveOf m ow).map (·.1))[i]? = some j := h2
    simp only [List.getElem?_map] at h1' h2'
    cases hq : (liveOf m ow)[i]? with
    | none => simp [hq] at h2'
    | some q =>
      obtain ⟨y, k⟩ := q
      simp only [hq, Option.map_some, Option.some.injEq] at h1' h2'
      subst h2'
      obtain ⟨b1, b2⟩ := (live y k).1 (List.mem_of_getElem? hq)
      obtain ⟨x0, K, a1, a2, a3⟩ := W.at_ y k b1 b2
      have e0 : x0 = x := by
        rw [← h1', Array.getD_eq_getD_getElem?, ← Array.getElem?_toList, a1]; rfl
      subst e0
      refine ⟨K, a2, fun c hc => ?_⟩
      show way m x0 c ∈ (liveOf m ow).map (·.1)
      cases z : oAt ow (way m x0 c) with
      | none => exact absurd z (a3 c hc)
      | some k2 => exact List.mem_map.mpr ⟨(_, k2), (live _ _).2 ⟨wayG m x0 c, z⟩, rfl⟩
section
variable {P : Program} {w : World} {A : Around} {E : Value → Shared → Prop} {s : Shared} {a : Addr} {L : List (Addr × List Int)} {es : Array (Int × Value)} {ep : Nat}
structure StG (P : Program) (w : World) (h : Heap) (a : Addr) (L : List (Addr × List Int)) (es : Array (Int × Value)) (ep : Nat) (t : SetTable) : Prop where
  ob : ∃ o, h.get? a = some o ∧ o.ExactSet ∧ o.data = .set es ep t
  rw_ : es.toList = rowsOf P w L
  tb : TbG t (L.map fun p => thash P w p.2)
  un : (L.map (·.2)).Nodup
  tu : ∀ p ∈ L, IsT P w h p.2 p.1
  pl : t.plain = true
  room : L.length * 5 < t.mask * 3
theorem rowsG_sz (h : es.toList = rowsOf P w L) : es.size = L.length := by rw [← Array.length_toList, h, rowsOf, List.length_map]
theorem rowsG_at (h : es.toList = rowsOf P w L) {i : Nat} {p : Addr × List Int} (e : L[i]? = some p) : es[i]? = some (thash P w p.2, Value.ref p.1) := by
  rw [← Array.getElem?_toList, h, rowsOf, List.getElem?_map, e]; rfl
theorem fitsG {t : SetTable} {n : Nat} (e : t.place.size = n) (d : t.dummies = #[]) (l : n ≤ t.mask) : t.fits n = true := by
  simp [SetTable.fits, SetTable.fill, d, e, l]
theorem StG.fit {t : SetTable} (R : StG P w s.heap a L es ep t) : t.fits es.size = true := by
  have := R.room
  exact fitsG (by rw [R.tb.sz, rowsG_sz R.rw_, List.length_map]) R.tb.nd (by rw [rowsG_sz R.rw_]; omega)
theorem nthG_dm (m : Nat) : ∀ (n : Nat) (p : SetTable.Probe), p.dummy = none → (nth m p n).dummy = none
  | 0, _, h => h
  | n + 1, p, h => nthG_dm m n (adv m p) (by unfold adv; split <;> exact h)
abbrev prG (m : Nat) (x : Int) (c : Nat) : SetTable.Probe := nth m (runAt m (SetTable.bits x % (m + 1)) (SetTable.bits x)) c
theorem prG_add (m : Nat) (x : Int) (c q : Nat) : nth m (prG m x c) q = prG m x (c + q) := (nth_add m c _ q).symm
theorem StG.from {t : SetTable} (R : StG P w s.heap a L es ep t) {x : Addr} {k : List Int} (hx : IsT P w s.heap k x) (hu : A.units < cLine) {N : Nat} (hNf : N < 10 * SetTable.turns t.mask)
    (hN : way t.mask (thash P w k) N ∉ t.place.toList) (hb : ∀ c, c < N → way t.mask (thash P w k) c ∈ t.place.toList) {Q : SetFound → Shared → Prop}
    (hin : k ∈ L.map (·.2) → Q (.there none) s) (hout : k ∉ L.map (·.2) → Q (.free (way t.mask (thash P w k) N) false) s) :
    ∀ (f c : Nat) (st : Option SetTable.Probe), st.getD (t.probeStart (thash P w k)) = prG t.mask (thash P w k) c → c ≤ N → N - c < f →
      (∀ (i : Nat) p c', L[i]? = some p → p.2 = k → c' < c → t.place.toList[i]? ≠ some (way t.mask (thash P w k) c')) →
      wpAny (model P w) A (setSearchFrom a (.ref x) (thash P w k) true f st) Q E s
  | 0, _, _, _, _, hf, _ => absurd hf (Nat.not_lt_zero _)
  | f + 1, c, st, hst, hc, hf, hnp => by
    obtain ⟨o, ho, _, hd⟩ := R.ob
    have lnp : ∀ {i : Nat}, i < L.length ↔ i < t.place.toList.length := by rw [R.tb.ln, List.length_map]; first | done | exact Iff.rfl
    rw [setSearchFrom_succ]
    refine wpAny_bind (wpAny_setState_of ho hd R.fit ?_)
    dsimp only
    refine wp_if_neg (by simp [SetTable.gaveWay, R.tb.gm.odd]) ?_
    try refine wpAny_bind (wpAny_pure ?_)
    have hh : ∀ {i : Nat} {p}, L[i]? = some p → ((es[i]?.map (·.1)).getD 0 : Int) = thash P w p.2 := fun e => by rw [rowsG_at R.rw_ e]; rfl
    have ahead : ∀ {i : Nat} {p}, L[i]? = some p → p.2 = k → ∃ c', c ≤ c' ∧ c' < N ∧ t.place.toList[i]? = some (way t.mask (thash P w k) c') := fun {i p} e ek => by
      have il := lnp.mp (List.getElem?_eq_some_iff.mp e).1
      obtain ⟨c', a1, a2⟩ := R.tb.met hN (i := i) (by rw [List.getElem?_map, e, ← ek]; rfl) (List.getElem?_eq_getElem il)
      have a3 : t.place.toList[i]? = some (way t.mask (thash P w k) c') := by rw [a2]; exact List.getElem?_eq_getElem il
      exact ⟨c', Nat.le_of_not_lt fun z => hnp i p c' e ek z a3, a1, a3⟩
    have spec := go_spec t R.tb.up R.tb.nd (fun i => (es[i]?.map (·.1)).getD 0) (thash P w k) (10 * SetTable.turns t.mask) (N - c) (prG t.mask (thash P w k) c) (nthG_dm _ _ _ rfl) (by omega)
      (fun q hq => by rw [prG_add]; exact hb (c + q) (by omega)) (by rw [prG_add, Nat.add_sub_cancel' hc]; exact hN)
    simp only [prG_add] at spec
    rcases spec with ⟨q, i, hq, hi, hhi, hno, hpr⟩ | ⟨hno, hpr⟩
    · have hp0 : t.probe (fun i => (es[i]?.map (·.1)).getD 0) (thash P w k) (st.getD (t.probeStart (thash P w k))) = some (.candidate (prG t.mask (thash P w k) (c + q)).j i (prG t.mask (thash P w k) (c + (q + 1)))) := by rw [hst]; exact hpr
      rw [hp0]
      dsimp only
      have il : i < L.length := lnp.mpr (List.getElem?_eq_some_iff.mp hi).1
      obtain ⟨p, hp⟩ : ∃ p, L[i]? = some p := ⟨_, List.getElem?_eq_getElem il⟩
      have pm := List.mem_of_getElem? hp
      have go : wpAny (model P w) A (searchRest a (.ref x) (thash P w k) true f es t (prG t.mask (thash P w k) (c + q)).j i (prG t.mask (thash P w k) (c + (q + 1)))) Q E s := by
        unfold searchRest
        rw [rowsG_at R.rw_ hp]
        dsimp only
        refine wpAny_bind (wpAny_holding (wpAny_eqBool_tuple hu (R.tu p pm) hx ?_))
        refine wpAny_bind (wpAny_setState_of ho hd R.fit ?_)
        dsimp only
        by_cases ek : p.2 = k
        · exact wp_if_pos (by simp [ek]) (wpAny_pure (hin (List.mem_map.mpr ⟨p, pm, ek⟩)))
        · refine wp_if_neg (by simp [ek]) ?_
          try refine wpAny_bind (wpAny_pure ?_)
          rw [sameMem]
          dsimp only
          simp only [if_true, slot_live R.tb.up hi, rowsG_at R.rw_ hp]
          refine wpAny_bind (wpAny_isSame_ref_self (wpAny_bind (wpAny_pure ?_)))
          simp only [if_true]
          refine wp_if_neg (by simp [ek]) ?_
          refine R.from hx hu hNf hN hb hin hout f (c + (q + 1)) _ rfl (by omega) (by omega) fun i0 p0 c' h0 k0 hc' h3 => ?_
          rcases Nat.lt_or_ge c' c with z | z
          · exact hnp i0 p0 c' h0 k0 z h3
          · rcases Nat.lt_or_ge c' (c + q) with y | y
            · refine hno (c' - c) i0 (by omega) (by rw [Nat.add_sub_cancel' z]; exact h3) ?_
              exact (hh h0).trans (by rw [k0])
            · obtain rfl : c' = c + q := by omega
              have s1 := slot_live R.tb.up h3
              rw [slot_live R.tb.up hi] at s1
              injection s1 with s1
              rw [← s1, hp] at h0
              exact ek (by rw [Option.some.inj h0]; exact k0)
      by_cases hl : t.led = true
      · refine wp_if_neg (by simp [hl]) ?_
        try refine wpAny_bind (wpAny_pure ?_)
        exact go
      · refine wp_if_pos (by simp [hl]) ?_
        refine wpAny_bind (seen_tup hx (fun y hy => ?_) ?_)
        · obtain ⟨e, he, rfl⟩ := List.mem_map.mp hy
          have he2 : e ∈ es.toList := by simpa using (Array.mem_filter.mp (Array.mem_toList_iff.mp he)).1
          rw [R.rw_] at he2
          obtain ⟨p2, q1, rfl⟩ := List.mem_map.mp he2
          exact ⟨p2.2, p2.1, rfl, R.tu p2 q1⟩
        · refine wp_if_neg (by decide) ?_
          try refine wpAny_bind (wpAny_pure ?_)
          exact go
    · have hp0 : t.probe (fun i => (es[i]?.map (·.1)).getD 0) (thash P w k) (st.getD (t.probeStart (thash P w k))) = some (.empty (prG t.mask (thash P w k) N).j none) := by
        rw [Nat.add_sub_cancel' hc] at hpr
        rw [hst]; exact hpr
      rw [hp0]
      dsimp only
      refine wpAny_pure (hout fun hm => ?_)
      obtain ⟨p0, h0, k0⟩ := List.mem_map.mp hm
      obtain ⟨i0, hi0, rfl⟩ := List.getElem_of_mem h0
      obtain ⟨c', b1, b2, b3⟩ := ahead (List.getElem?_eq_getElem hi0) k0
      exact hno (c' - c) i0 (by omega) (by rw [Nat.add_sub_cancel' b1]; exact b3) ((hh (List.getElem?_eq_getElem hi0)).trans (by rw [k0]))
theorem StG.look {t : SetTable} (R : StG P w s.heap a L es ep t) {x : Addr} {k : List Int} (hx : IsT P w s.heap k x) (hu : A.units < cLine) {Q : SetFound → Shared → Prop} (hin : k ∈ L.map (·.2) → Q (.there none) s)
    (hout : ∀ N, k ∉ L.map (·.2) → way t.mask (thash P w k) N ∉ t.place.toList → (∀ c, c < N → way t.mask (thash P w k) c ∈ t.place.toList) → Q (.free (way t.mask (thash P w k) N) false) s) :
    wpAny (model P w) A (setSearch a (.ref x) (thash P w k) true) Q E s := by
  have := R.room
  have m5 := R.tb.gm.le
  obtain ⟨N, n1, n2, n3⟩ := R.tb.end_ (by rw [List.length_map]; omega) (thash P w k)
  have : N < 100000 := by unfold SetTable.turns at n1; omega
  exact R.from hx hu n1 n2 n3 hin (fun z => hout N z n2 n3) 100000 0 none rfl (Nat.zero_le _) (by omega) fun _ _ _ _ _ z => absurd z (Nat.not_lt_zero _)
theorem StG.relay {t : SetTable} {o : Obj} (ho : s.heap.get? a = some o) (hex : o.ExactSet) (hd : o.data = .set es ep t) (hr : es.toList = rowsOf P w L) (hT : TbG t (L.map fun p => thash P w p.2)) (un : (L.map (·.2)).Nodup) (tu : ∀ p ∈ L, IsT P w s.heap p.2 p.1)
    (hp : t.plain = true) (hl : L.length ≤ t.mask) {wanted m : Nat} (hm : MskG m) (hw : SetTable.sizeAbove wanted - 1 = m) (hn : L.length * 5 < m * 3) {Q : Unit → Shared → Prop}
    (hQ : ∀ h' L' es' ep' t', Heap.SameBut a s.heap h' → StG P w h' a L' es' ep' t' → L'.Perm L → Q () { s with heap := h' }) : wpAny (model P w) A (setRelay a wanted) Q E s := by
  have sz := rowsG_sz hr
  have m5 := hm.le
  obtain ⟨t', ord, e, pm, T', em, _, ep2⟩ := hm.relaid (wanted := wanted) hw t (ha := es.map (·.1)) (by rw [Array.size_map, sz]; omega)
  rw [Array.size_map, sz] at pm
  obtain ⟨L2, r1, r2, r3⟩ := order_rows L es ord hr pm
  rw [← r3] at T'
  have s2 : (ord.filterMap (es[·]?)).size = es.size := by rw [rowsG_sz r1, r2.length_eq, sz]
  rw [setRelay_eq]
  refine wpAny_bind (wpAny_setState_of ho hd (fitsG (by rw [hT.sz, List.length_map, sz]) hT.nd (by rw [sz]; exact hl)) ?_)
  dsimp only
  refine wp_if_neg (by rw [sizeLine_eq]; omega) ?_
  try refine wpAny_bind (wpAny_pure ?_)
  rw [e]
  dsimp only
  refine wpAny_bind ?_
  refine wp_if_neg (by rw [s2]; simp) ?_
  try refine wpAny_bind (wpAny_pure ?_)
  refine wpAny_pure ?_
  dsimp only
  refine wpAny_storeSet_of ho hd ?_ (by rw [s2, sz, sizeLine_eq]; omega)
  have sb : Heap.SameBut a s.heap (s.heap.update a (Obj.putSet (ord.filterMap (es[·]?)) t')) := Heap.SameBut.update ..
  exact hQ _ L2 _ _ t' sb ⟨⟨_, store_at ho hd, ⟨hex.1, hex.2.1, hex.2.2⟩, rfl⟩, r1, T', (r2.map (·.2)).nodup_iff.mpr un, fun p hpm => isT_same (tu p (r2.mem_iff.mp hpm)) ho hd sb, by rw [ep2]; exact hp, by rw [r2.length_eq, em]; exact hn⟩ r2
theorem grow5 : SetTable.sizeAbove (SetTable.grown 5) = 32 := by decide +kernel
theorem grow19 : SetTable.sizeAbove (SetTable.grown 19) = 128 := by decide +kernel
theorem grow77 : SetTable.sizeAbove (SetTable.grown 77) = 512 := by decide +kernel
theorem StG.add {t : SetTable} (R : StG P w s.heap a L es ep t) {x : Addr} {k : List Int} (hx : IsT P w s.heap k x) (hu : A.units < cLine) (hfew : L.length + 1 ≤ 300) {Q : Bool → Shared → Prop}
    (hQ : ∀ b h' L' es' ep' t', Heap.SameBut a s.heap h' → StG P w h' a L' es' ep' t' → (k ∈ L.map (·.2) → L' = L) → (k ∉ L.map (·.2) → L'.Perm ((x, k) :: L)) → Q b { s with heap := h' }) :
    wpAny (model P w) A (setAddHashed a (.ref x) (thash P w k)) Q E s := by
  obtain ⟨o, ho, hex, hd⟩ := R.ob
  have sz := rowsG_sz R.rw_
  have room := R.room
  unfold setAddHashed
  refine wpAny_holding ?_
  rw [show (100000 : Nat) = 99999 + 1 from rfl, setAddHashedIn_succ]
  refine wpAny_bind (wpAny_setState_of ho hd R.fit ?_)
  dsimp only
  refine wp_if_neg (by simp [byScan, Value.scannable]) ?_
  try refine wpAny_bind (wpAny_pure ?_)
  refine wpAny_bind (R.look hx hu (fun hm => ?_) fun N hm hN hb => ?_)
  · dsimp only
    exact wpAny_pure (hQ false s.heap L es ep t (Heap.SameBut.refl a s.heap) R (fun _ => rfl) fun z => absurd hm z)
  · dsimp only
    refine wpAny_bind (wpAny_setState_of ho hd R.fit ?_)
    dsimp only
    obtain ⟨q1, q2, q3⟩ := R.tb.add hN hb rfl
    have e2 : (t.put (way t.mask (thash P w k) N)).2 = SetTable.below t.place (way t.mask (thash P w k) N) := rfl
    have mk : (t.put (way t.mask (thash P w k) N)).1.mask = t.mask := rfl
    have pl : (t.put (way t.mask (thash P w k) N)).1.plain = true := R.pl
    generalize t.put (way t.mask (thash P w k) N) = pt at q2 q3 e2 mk pl ⊢
    obtain ⟨t1, p⟩ := pt
    dsimp only at q2 q3 e2 mk pl ⊢
    rw [← e2] at q1 q2
    first
      | (refine wpAny_bind ?_; refine wp_if_pos pl ?_; refine hashBy_tup hx ?_)
      | refine wp_if_pos pl (wpAny_bind (hashBy_tup hx ?_))
    simp only [if_true]
    have hr1 : (SetTable.insertAt es p (thash P w k, Value.ref x)).toList = rowsOf P w (L.take p ++ (x, k) :: L.drop p) := by rw [SetTable.toList_insertAt, rows_put, R.rw_]
    have hp1 := put_perm L p (x, k)
    have ht1 : TbG t1 ((L.take p ++ (x, k) :: L.drop p).map fun p => thash P w p.2) := by rw [List.map_append, List.map_cons, List.map_take, List.map_drop]; exact q2
    generalize SetTable.insertAt es p (thash P w k, Value.ref x) = es1 at hr1 ⊢
    generalize L.take p ++ (x, k) :: L.drop p = L1 at hr1 hp1 ht1
    have len : L1.length = L.length + 1 := hp1.length_eq
    have un1 : (L1.map (·.2)).Nodup := (hp1.map (·.2)).nodup_iff.mpr (List.nodup_cons.mpr ⟨hm, R.un⟩)
    have sz1 := rowsG_sz hr1
    refine wpAny_bind (wpAny_storeSet_of ho hd ?_ (by rw [sz1, len, sizeLine_eq]; omega))
    have sb : Heap.SameBut a s.heap (s.heap.update a (Obj.putSet es1 t1)) := Heap.SameBut.update ..
    have ho1 := store_at (es' := es1) (t' := t1) ho hd
    generalize s.heap.update a (Obj.putSet es1 t1) = h1 at sb ho1 ⊢
    have tu1 : ∀ p ∈ L1, IsT P w h1 p.2 p.1 := fun p hp => by
      rcases List.mem_cons.mp (hp1.mem_iff.mp hp) with e | hp
      · rw [e]; exact isT_same hx ho hd sb
      · exact isT_same (R.tu p hp) ho hd sb
    have full : t1.tooFull = decide (t.mask * 3 ≤ L1.length * 5) := by
      unfold SetTable.tooFull
      rw [q3, mk, List.length_map, ← len]
    by_cases hf : t.mask * 3 ≤ L1.length * 5
    · have hf' : t1.tooFull = true := full.trans (decide_eq_true hf)
      first
        | (refine wpAny_bind ?_; refine wp_if_pos (by simp [hf']) ?_)
        | (refine wp_if_pos (by simp [hf']) ?_; refine wpAny_bind ?_)
      have go : ∀ m, MskG m → SetTable.sizeAbove (SetTable.grown (es.size + 1)) - 1 = m → L1.length * 5 < m * 3 →
          wpAny (model P w) A (setRelay a (SetTable.grown (es.size + 1))) (fun _ s' => wpAny (model P w) A (pure true) Q E s') E { s with heap := h1 } := fun m a1 a2 a3 =>
        StG.relay (s := { s with heap := h1 }) ho1 ⟨hex.1, hex.2.1, hex.2.2⟩ rfl hr1 ht1 un1 tu1 pl (by rw [mk, len]; have := R.tb.gm.odd; omega) a1 a2 a3 fun h2 L2 es2 ep2 t2 sb2 R2 pm2 =>
          wpAny_pure (hQ true h2 L2 es2 ep2 t2 (sb.trans sb2) R2 (fun z => absurd z hm) fun _ => pm2.trans hp1)
      rw [sz] at go ⊢
      rcases R.tb.gm with e | e | e | e
      · have : L.length = 4 := by omega
        exact go 31 (.inr (.inl rfl)) (by rw [this, grow5]) (by omega)
      · have : L.length = 18 := by omega
        exact go 127 (.inr (.inr (.inl rfl))) (by rw [this, grow19]) (by omega)
      · have : L.length = 76 := by omega
        exact go 511 (.inr (.inr (.inr rfl))) (by rw [this, grow77]) (by omega)
      · omega
    · have hf' : t1.tooFull = false := full.trans (decide_eq_false hf)
      first
        | refine wp_if_neg (by simp [hf']) ?_
        | (refine wpAny_bind ?_; refine wp_if_neg (by simp [hf']) ?_; refine wpAny_pure ?_)
      exact wpAny_pure (hQ true h1 L1 es1 (ep + 1) t1 sb ⟨⟨_, ho1, ⟨hex.1, hex.2.1, hex.2.2⟩, rfl⟩, hr1, ht1, un1, tu1, pl, by rw [mk]; omega⟩ (fun z => absurd z hm) fun _ => hp1)
theorem StG.stay {h h' : Heap} {t : SetTable} (R : StG P w h a L es ep t) (ha : ∀ o, h.get? a = some o → h'.get? a = some o) (ht : ∀ p ∈ L, IsT P w h' p.2 p.1) : StG P w h' a L es ep t := by
  obtain ⟨o, ho, r⟩ := R.ob
  exact ⟨⟨o, ha o ho, r⟩, R.rw_, R.tb, R.un, ht, R.pl, R.room⟩
theorem StG.none {h : Heap} {b : Bool} (ho : h.get? a = some { cls := .type "set", dict := none, data := .set #[] 0 (.fresh 0 0 b) }) : StG P w h a [] #[] 0 (.fresh 0 0 b) :=
  ⟨⟨_, ho, ⟨rfl, rfl, rfl⟩, rfl⟩, rfl, ⟨.inl rfl, List.Pairwise.nil, rfl, rfl, (fun h _ => (by simp at h))⟩, List.nodup_nil, (fun _ h => (by cases h)), rfl, by show 0 * 5 < 7 * 3; decide⟩
theorem loopTB {I : Addr} {fp wr : List Addr} {G : Array GenState → Array GenState → Prop} {n : Nat} {Pv : Nat → Value → Prop} {Sx : Nat → Shared → Prop} {R : Result → Shared → Prop}
    (W : WalksS P w A.in1 I fp wr G n Pv Sx) (S : Addr) (hSf : S ∉ fp) (ks : List (Addr × List Int)) (hn : n = ks.length) (hfew : ks.length ≤ 300) (hval : ∀ i v, Pv i v → ∃ p, ks[i]? = some p ∧ v = .ref p.1)
    (g : Heap) (hk : ∀ p ∈ ks, IsT P w g p.2 p.1) (hS0 : g.get? S = none) (hw0 : ∀ b ∈ wr, g.get? b = none) (hu : A.in1.units < cLine) :
    ∀ (k i : Nat) (s : Shared), n - i = k → i ≤ n → Sx i s → (∀ b o, g.get? b = some o → s.heap.get? b = some o) → (∃ L es ep t, StG P w s.heap S L es ep t ∧ Got ks i L) →
      (∀ z L es ep t, Moved (S :: wr) G s z → StG P w z.heap S L es ep t → Got ks n L → R (.ok (.ret .none)) z) → codeAny (model P w) A (.builtin "set.update.loop" ⟨[.ref S, .ref I], []⟩) R s := by
  have nw : S ∉ wr := fun h => hSf (W.sub _ h)
  have up : ∀ b ∈ wr, b ∈ S :: wr := fun b hb => List.mem_cons_of_mem _ hb
  have keep : ∀ {s z : Shared}, Moved wr G s z → (∀ b o, g.get? b = some o → s.heap.get? b = some o) → ∀ b o, g.get? b = some o → z.heap.get? b = some o := fun m q b o e => m.heap b o (fun hb => by rw [hw0 b hb] at e; cases e) (q b o e)
  intro k
  induction k with
  | zero =>
    intro i s hk' hi hst hkp ⟨L, es, ep, t, hS, gt⟩ hR
    obtain rfl : i = n := by omega
    refine codeAny_builtin F.entry_set_update_loop ?_
    rw [Around.under_plainId F.plain_set_update_loop _]
    refine (wpAny_bind (W.done s _ _ hst fun z hm => ?_) : wpAny _ A.in1 (pyNext (.ref I) >>= _) _ _ s)
    show wpAny _ A.in1 (ret Value.none) _ _ z
    exact wpAny_pure (hR z L es ep t (hm.mono up) (hS.stay (fun o e => hm.heap S o nw e) fun p hp => isT_keep (hk p (List.mem_of_mem_take (gt.sub p hp))) (keep hm hkp)) gt)
  | succ k ih =>
    intro i s hk' hi hst hkp ⟨L, es, ep, t, hS, gt⟩ hR
    have hlt : i < n := by omega
    refine codeAny_builtin F.entry_set_update_loop ?_
    rw [Around.under_plainId F.plain_set_update_loop _]
    refine (wpAny_bind (W.item i s _ _ hlt hst fun v z hP hst' hm => ?_) : wpAny _ A.in1 (pyNext (.ref I) >>= _) _ _ s)
    obtain ⟨p, hp, rfl⟩ := hval i v hP
    have kz := keep hm hkp
    have hS' : StG P w z.heap S L es ep t := hS.stay (fun o e => hm.heap S o nw e) fun q hq => isT_keep (hk q (List.mem_of_mem_take (gt.sub q hq))) kz
    have hx : IsT P w z.heap p.2 p.1 := isT_keep (hk p (List.mem_of_getElem? hp)) kz
    have le := gt.len
    refine (wpAny_bind (wpAny_holding ?_) : wpAny _ A.in1 (holding [Value.ref p.1] (setAdd S (.ref p.1)) >>= _) _ _ z)
    unfold setAdd
    refine wpAny_holding (wpAny_bind (wpAny_pyHash_tuple hu hx ?_))
    refine StG.add (s := { z with toks := z.toks + (p.2.length + 1) }) hS' hx hu (by omega) fun b h' L' es' ep' t' hsb hS2 c1 c2 => ?_
    have g' : Got ks (i + 1) L' := by
      by_cases c : p.2 ∈ L.map (·.2)
      · rw [c1 c]; exact gt.same hp c
      · exact gt.more hp (c2 c)
    refine wpAny_pure ⟨plainId_quiet F.plain_set_update_loop _, ih (i + 1) _ (by omega) hlt (W.frame _ z _ _ hst' (Nat.le_add_right _ _) fun b hb o e => ?_) (fun b o e => ?_) ⟨L', es', ep', t', hS2, g'⟩ fun y L2 es2 ep2 t2 hy h2 g2 => ?_⟩
    · rw [hsb.2 b (fun q : b = S => hSf (by rw [← q]; exact hb))]; exact e
    · rw [hsb.2 b (fun q : b = S => by rw [q, hS0] at e; cases e)]; exact kz b o e
    · refine hR y L2 es2 ep2 t2 (Moved.trans W.gtrans ((hm.mono up).then_heap (Nat.le_add_right _ _) fun b o hb e => ?_) hy) h2 g2
      rw [hsb.2 b (fun q : b = S => hb (by rw [q]; exact List.mem_cons_self))]; exact e
end
end M
set_option Elab.async false
set_option linter.all false
set_option maxRecDepth 100000
set_option maxHeartbeats 4000000
namespace M
open PySem PySem.Spec PyProof.Rows L2
def titer (l : Addr) : Obj := { cls := .type "tuple_iterator", data := .fields #[.ref l, .int 0 0] }
def preSet (s : Shared) (w : World) : Shared := { s with heap := s.heap.push (freshSet w) }
def midSet (s : Shared) (w : World) (l : Addr) : Shared := { s with heap := (s.heap.push (freshSet w)).push (titer l) }
section
variable {P : Program} {w : World} {A : Around} {E : Value → Shared → Prop} {s : Shared}
theorem call_setT {l : Addr} {items : Array Value} {Q : Value → Shared → Prop} {Good : Heap → Prop} (hl : s.heap.IsTuple l items)
    (loop : ∀ R : Result → Shared → Prop, (∀ h' tk, Good h' → (∀ b o, s.heap.get? b = some o → h'.get? b = some o) → R (.ok (.ret .none)) { s with heap := h', toks := tk }) →
      codeAny (model P w) A.in1.in1 (.builtin "set.update.loop" ⟨[.ref s.heap.objs.size, .ref (s.heap.push (freshSet w)).objs.size], []⟩) R (midSet s w l))
    (fin : ∀ h' tk, Good h' → (∀ b o, s.heap.get? b = some o → h'.get? b = some o) → Q (.ref s.heap.objs.size) { s with heap := h', toks := tk }) :
    wpAny (model P w) A (call (.type "set") [.ref l]) Q E s := by
  obtain ⟨cq, tq, m1⟩ := F.called_set.mro
  have m2 := F.called_set.made
  have m3 := F.called_set.sub
  refine wpAny_call (codeAny_of_tree (?_ : wpAny _ _ (callAny (.type "set") _) _ _ _))
  refine wpAny_pure ⟨Code.quiet_builtin _ (by decide +kernel), codeAny_builtin F.entry_type_call ?_⟩
  rw [Around.under_plain (weight_type_call_type "set" [.ref l] []) rfl]
  have m4 := F.called_set.notType
  have m5 := F.called_set.canCreate
  have m6 := F.typeCall_set_1 (.ref l)
  repeat (any_goals (first | assumption | wp_step))
  refine codeAny_mono (code_set_led1 (.ref l) (E := E) (Q₁ := fun ob z => ob = .ref s.heap.objs.size ∧ z = preSet s w) ⟨rfl, rfl⟩) fun r z hr => ?_
  cases r with
  | error e => exact hr
  | ok fl =>
    cases fl with
    | ret ob =>
      obtain ⟨rfl, rfl⟩ := hr
      have g1 : (preSet s w).heap.get? s.heap.objs.size = some (freshSet w) := Heap.get?_push_size _ rfl
      have g2 : Shared.TypeIs (preSet s w) (.ref s.heap.objs.size) "set" := ⟨_, g1, rfl⟩
      have g3 := F.called_set.init.lookup
      have g4 := F.called_set.init.bind (.ref s.heap.objs.size)
      repeat (any_goals (first | assumption | wp_step))
      refine codeAny_mono (codeAny_call_builtin (R := wants (fun r y => r = .none ∧ ∃ h' tk, y = { s with heap := h', toks := tk } ∧ Good h' ∧ ∀ b o, s.heap.get? b = some o → h'.get? b = some o) E) F.called_set.init.plain F.entry_set_init (check_set_init_1 g2 ?_)) fun r2 y hr2 => ?_
      · obtain ⟨ol, e1, e2, nl, e3⟩ := hl
        obtain ⟨o1, o2, o3, o4⟩ := ol
        simp only at e2 e3
        subst e2; subst e3
        have e4 : (preSet s w).heap.get? l = some { cls := .type "tuple", dict := o2, data := .seq items nl, slots := o4 } := Heap.get?_push_of_some _ e1
        have q1 := F.sub_tuple_set
        have q2 := F.sub_tuple_frozenset
        have q3 : (Value.type "tuple" == Value.type "dict") = false := by decide
        have q4 : (preSet s w).heap.IsTuple l items := ⟨_, e4, rfl, nl, rfl⟩
        unfold Builtin.«set.__init__» noKeywords Builtin.Frozenset.updateFrom
        generalize hPI : pyIter = PI
        wp_walk
        subst hPI
        refine wpAny_pyIter_tuple q4 (wpAny_bind (wpAny_runValue ?_))
        refine loop _ fun h' tk hg hk => ?_
        show wpAny _ _ _ _ _ _
        refine wpAny_pure ?_
        show wpAny _ _ (ret Value.none) _ _ _
        exact wpAny_pure ⟨rfl, h', tk, rfl, hg, hk⟩
      · cases r2 with
        | error e => exact hr2
        | ok f2 =>
          cases f2 with
          | ret r =>
            obtain ⟨rfl, h', tk, rfl, hg, hk⟩ := hr2
            repeat (any_goals (first | assumption | wp_step))
            exact fin _ _ hg hk
          | _ => exact hr2.elim
    | _ => exact hr.elim
def SetN (S : Addr) (n : Nat) (h : Heap) : Prop := ∃ o es ep t, h.get? S = some o ∧ o.ExactSet ∧ o.data = .set es ep t ∧ t.fits es.size = true ∧ es.size = n
def nubG {κ : Type} [DecidableEq κ] (ks : List κ) : List κ := ks.foldl (fun acc k => if k ∈ acc then acc else k :: acc) []
theorem nubG_fold {κ : Type} [DecidableEq κ] : ∀ (ks acc : List κ), acc.Nodup → (ks.foldl (fun acc k => if k ∈ acc then acc else k :: acc) acc).Nodup ∧ ∀ x, x ∈ ks.foldl (fun acc k => if k ∈ acc then acc else k :: acc) acc ↔ x ∈ acc ∨ x ∈ ks
  | [], acc, h => ⟨h, fun x => by simp⟩
  | k :: ks, acc, h => by
    rw [List.foldl_cons]
    by_cases hk : k ∈ acc
    · rw [if_pos hk]
      obtain ⟨h1, h2⟩ := nubG_fold ks acc h
      refine ⟨h1, fun x => ?_⟩
      rw [h2, List.mem_cons]
      constructor
      · rintro (a | a)
        · exact .inl a
        · exact .inr (.inr a)
      · rintro (a | a | a)
        · exact .inl a
        · subst a; exact .inl hk
        · exact .inr a
    · rw [if_neg hk]
      obtain ⟨h1, h2⟩ := nubG_fold ks (k :: acc) (List.nodup_cons.mpr ⟨hk, h⟩)
      refine ⟨h1, fun x => ?_⟩
      rw [h2, List.mem_cons, List.mem_cons]
      constructor
      · rintro ((a | a) | a)
        · exact .inr (.inl a)
        · exact .inl a
        · exact .inr (.inr a)
      · rintro (a | a | a)
        · exact .inl (.inr a)
        · exact .inl (.inl a)
        · exact .inr a
theorem nubG_nd {κ : Type} [DecidableEq κ] (ks : List κ) : (nubG ks).Nodup := (nubG_fold ks [] List.nodup_nil).1
theorem nubG_mem {κ : Type} [DecidableEq κ] (ks : List κ) (x : κ) : x ∈ nubG ks ↔ x ∈ ks := by
  have := (nubG_fold ks [] List.nodup_nil).2 x
  unfold nubG
  rw [this]; simp
theorem nd_len_le {κ : Type} [DecidableEq κ] : ∀ {a b : List κ}, a.Nodup → (∀ x ∈ a, x ∈ b) → a.length ≤ b.length
  | [], b, _, _ => by simp
  | x :: a, b, h, hs => by
    obtain ⟨h1, h2⟩ := List.nodup_cons.mp h
    have hx := hs x (by simp)
    have := nd_len_le (a := a) (b := b.erase x) h2 (fun y hy => (List.mem_erase_of_ne (fun e => h1 (by rw [← e]; exact hy))).mpr (hs y (by simp [hy])))
    rw [List.length_erase_of_mem hx] at this
    have hp : 0 < b.length := List.length_pos_of_mem hx
    rw [List.length_cons]; omega
theorem nub_len {κ : Type} [DecidableEq κ] {a ks : List κ} (h : a.Nodup) (hm : ∀ x, x ∈ a ↔ x ∈ ks) : a.length = (nubG ks).length :=
  Nat.le_antisymm (nd_len_le h fun x hx => (nubG_mem ks x).mpr ((hm x).mp hx)) (nd_len_le (nubG_nd ks) fun x hx => (hm x).mpr ((nubG_mem ks x).mp hx))
theorem apart {l : Addr} (hlt : l < s.heap.objs.size) : l ≠ (s.heap.push (freshSet w)).objs.size ∧ s.heap.objs.size ∉ [(s.heap.push (freshSet w)).objs.size, l] := by
  rw [Heap.size_push]
  refine ⟨Nat.ne_of_lt (Nat.lt_succ_of_lt hlt), ?_⟩
  simp only [List.mem_cons, List.not_mem_nil, or_false, not_or]
  exact ⟨Nat.ne_of_lt (Nat.lt_succ_self _), Nat.ne_of_gt hlt⟩
theorem kept_of {G : Array GenState → Array GenState → Prop} {s' : Shared} {l : Addr} (hm : Moved (s.heap.objs.size :: [(s.heap.push (freshSet w)).objs.size]) G (midSet s w l) s') : ∀ b o, s.heap.get? b = some o → s'.heap.get? b = some o := fun b o e => by
  have hb := Heap.lt_size e
  refine hm.heap b o ?_ (Heap.get?_push_of_some _ (Heap.get?_push_of_some _ e))
  rw [Heap.size_push]
  simp only [List.mem_cons, List.not_mem_nil, or_false, not_or]
  exact ⟨Nat.ne_of_lt hb, Nat.ne_of_lt (Nat.lt_succ_of_lt hb)⟩
theorem back_of {s' : Shared} {wr : List Addr} {l : Addr} (hm : Moved wr (fun a b => b = a) (midSet s w l) s') : s' = { s with heap := s'.heap, toks := s'.toks } := by
  obtain ⟨h', g', d', t', o'⟩ := s'
  have h1 : g' = s.gens := hm.gens
  have h2 : d' = s.drawn := hm.drawn
  have h3 : o' = s.os := hm.os
  subst h1; subst h2; subst h3; rfl
theorem call_setTI {l : Addr} {items : Array Value} (ns : List Int) {Q : Value → Shared → Prop} (hh : A.handled = none) (hl : s.heap.IsTuple l items) (hit : IntsAre items.toList ns) (hb : ns.length + 1 < scanBound)
    (fin : ∀ h' tk, SetN s.heap.objs.size (nubG ns).length h' → (∀ b o, s.heap.get? b = some o → h'.get? b = some o) → Q (.ref s.heap.objs.size) { s with heap := h', toks := tk }) : wpAny (model P w) A (call (.type "set") [.ref l]) Q E s := by
  have hlt : l < s.heap.objs.size := by obtain ⟨o, ho, _⟩ := hl; exact Heap.lt_size ho
  obtain ⟨n1, n2⟩ := apart (w := w) hlt
  have hz : items.size = ns.length := by have := IntsAre.length hit; rwa [Array.length_toList] at this
  have g1 : (midSet s w l).heap.get? s.heap.objs.size = some (freshSet w) := Heap.get?_push_of_some _ (Heap.get?_push_size _ rfl)
  refine call_setT (Good := SetN s.heap.objs.size (nubG ns).length) hl (fun R hR => ?_) fin
  refine set_update_ints ((Walks.tuple (by simp [hh]) _ l n1 items).toS) s.heap.objs.size n2 ns hz hb (fun i v hv => ?_) items.size 0 _ (by omega) (Nat.zero_le _) ⟨⟨_, Heap.get?_push_size _ rfl, rfl, rfl⟩, ((hl.push _).push _)⟩ ⟨0, Nat.le_refl 0, setR_new_at g1⟩ fun s' c hm hc hS => ?_
  · have hi : i < ns.length := by rw [← hz]; exact (Array.getElem?_eq_some_iff.mp hv).1
    obtain ⟨t, e⟩ := IntsAre.int_at hit i v (by rw [Array.getElem?_toList]; exact hv)
    refine ⟨ns[i], t, List.getElem?_eq_getElem hi, ?_⟩
    rw [e, List.getD_eq_getElem?_getD, List.getElem?_eq_getElem hi]; rfl
  · rw [back_of hm]
    refine hR _ _ ?_ (kept_of hm)
    obtain ⟨o, es, ep, t, ho, hx, hd, _, hn, hmem, _, hf, hsz, _⟩ := hS
    refine ⟨o, es, ep, t, ho, hx, hd, hf, ?_⟩
    have := nub_len (a := es.toList.map L2.keyOf) (ks := ns) hn (fun x => by rw [← hmem x]; simp)
    rw [← this, List.length_map, Array.length_toList]
theorem call_setTT {l : Addr} {items : Array Value} (ks : List (Addr × List Int)) {Q : Value → Shared → Prop} (hh : A.handled = none) (hl : s.heap.IsTuple l items) (hit : items.toList = ks.map fun p => Value.ref p.1) (hk : ∀ p ∈ ks, IsT P w s.heap p.2 p.1) (hf : ks.length ≤ 300) (hu : A.units + 3 < cLine)
    (fin : ∀ h' tk, SetN s.heap.objs.size (nubG (ks.map (·.2))).length h' → (∀ b o, s.heap.get? b = some o → h'.get? b = some o) → Q (.ref s.heap.objs.size) { s with heap := h', toks := tk }) : wpAny (model P w) A (call (.type "set") [.ref l]) Q E s := by
  have hlt : l < s.heap.objs.size := by obtain ⟨o, ho, _⟩ := hl; exact Heap.lt_size ho
  obtain ⟨n1, n2⟩ := apart (w := w) hlt
  have hz : items.size = ks.length := by have := congrArg List.length hit; rwa [Array.length_toList, List.length_map] at this
  have g1 : (midSet s w l).heap.get? s.heap.objs.size = some (freshSet w) := Heap.get?_push_of_some _ (Heap.get?_push_size _ rfl)
  have free : ∀ b, s.heap.objs.size ≤ b → s.heap.get? b = none := fun b hb => by
    cases q : s.heap.get? b with
    | none => rfl
    | some o => exact absurd (Nat.lt_of_lt_of_le (Heap.lt_size q) hb) (Nat.lt_irrefl _)
  refine call_setT (Good := SetN s.heap.objs.size (nubG (ks.map (·.2))).length) hl (fun R hR => ?_) fin
  refine loopTB ((Walks.tuple (by simp [hh]) _ l n1 items).toS) s.heap.objs.size n2 ks hz hf (fun i v hv => ?_) s.heap hk (free _ (Nat.le_refl _)) (fun b hb => free b (by rw [List.mem_singleton.mp hb, Heap.size_push]; exact Nat.le_succ _)) (by simp only [Around.in1]; first | omega | exact (by omega)) items.size 0 _ (by omega) (Nat.zero_le _) ⟨⟨_, Heap.get?_push_size _ rfl, rfl, rfl⟩, ((hl.push _).push _)⟩ (fun b o e => Heap.get?_push_of_some _ (Heap.get?_push_of_some _ e)) ⟨[], _, _, _, StG.none g1, Got.zero ks⟩ fun s' L es ep t hm hS hg => ?_
  · have q : items.toList[i]? = some v := by rw [Array.getElem?_toList]; exact hv
    rw [hit, List.getElem?_map] at q
    obtain ⟨p, hp, e⟩ := Option.map_eq_some_iff.mp q
    exact ⟨p, hp, e.symm⟩
  · rw [back_of hm]
    refine hR _ _ ?_ (kept_of hm)
    obtain ⟨o, ho, hx, hd⟩ := hS.ob
    refine ⟨o, es, ep, t, ho, hx, hd, hS.fit, ?_⟩
    rw [rowsG_sz hS.rw_]
    have := nub_len (a := L.map (·.2)) (ks := ks.map (·.2)) hS.un (fun x => ?_)
    · rw [← this, List.length_map]
    · constructor
      · intro h
        obtain ⟨p, hp, rfl⟩ := List.mem_map.mp h
        exact List.mem_map.mpr ⟨p, List.mem_of_mem_take (hg.sub p hp), rfl⟩
      · intro h
        obtain ⟨p, hp, rfl⟩ := List.mem_map.mp h
        exact hg.all p (by rw [hz, List.take_length]; exact hp)
theorem nubG_snoc {κ : Type} [DecidableEq κ] (l : List κ) (x : κ) : (nubG (l ++ [x])).length = if x ∈ l then (nubG l).length else (nubG l).length + 1 := by
  have e : nubG (l ++ [x]) = if x ∈ nubG l then nubG l else x :: nubG l := by unfold nubG; rw [List.foldl_append]; rfl
  rw [e]
  by_cases h : x ∈ l
  · rw [if_pos ((nubG_mem l x).mpr h), if_pos h]
  · rw [if_neg (fun q => h ((nubG_mem l x).mp q)), if_neg h]; rfl
theorem loopTx {I : Addr} {fp wr : List Addr} {G : Array GenState → Array GenState → Prop} {n : Nat} {Pv : Nat → Value → Prop} {St : Nat → Shared → Prop} {R : Result → Shared → Prop}
    (W : WalksS P w A.in1 I fp wr G n Pv St) (S : Addr) (hSf : S ∉ fp) (xs : List Str) (hn : n = xs.length) (hb : xs.length + 1 < scanBound) (hval : ∀ i v, Pv i v → ∃ x t, xs[i]? = some x ∧ v = .str x t) :
    ∀ (k i : Nat) (s : Shared), n - i = k → i ≤ n → St i s → s.heap.SetOf (PySem.strKind P w) S (fun q => decide (q ∈ xs.take i)) (nubG (xs.take i)).length →
      (∀ z, Moved (S :: wr) G s z → z.heap.SetOf (PySem.strKind P w) S (fun q => decide (q ∈ xs)) (nubG xs).length → R (.ok (.ret .none)) z) → codeAny (model P w) A (.builtin "set.update.loop" ⟨[.ref S, .ref I], []⟩) R s := by
  have o1 : S ∉ wr := fun h => hSf (W.sub _ h)
  have o2 : ∀ b ∈ wr, b ∈ S :: wr := fun b hb => List.mem_cons_of_mem _ hb
  have stay : ∀ {s s' : Shared} {f : Str → Bool} {c : Nat}, Moved wr G s s' → s.heap.SetOf (PySem.strKind P w) S f c → s'.heap.SetOf (PySem.strKind P w) S f c := fun hm hS => by
    obtain ⟨o, es, ep, t, ho, rest⟩ := hS
    exact ⟨o, es, ep, t, hm.heap S _ o1 ho, rest⟩
  intro k
  induction k with
  | zero =>
    intro i s hk hi hst hS hR
    obtain rfl : i = n := by omega
    refine codeAny_builtin PyProof.Rows.F.entry_set_update_loop ?_
    rw [Around.under_plainId PyProof.Rows.F.plain_set_update_loop _]
    refine (wpAny_bind (W.done s _ _ hst fun z hm => ?_) : wpAny _ A.in1 (pyNext (.ref I) >>= _) _ _ s)
    rw [hn, List.take_length] at hS
    show wpAny _ A.in1 (ret .none) _ _ z
    exact wpAny_pure (hR z (hm.mono o2) (stay hm hS))
  | succ k ih =>
    intro i s hk hi hst hS hR
    have hlt : i < n := by omega
    refine codeAny_builtin PyProof.Rows.F.entry_set_update_loop ?_
    rw [Around.under_plainId PyProof.Rows.F.plain_set_update_loop _]
    refine (wpAny_bind (W.item i s _ _ hlt hst fun v z hP hst' hm => ?_) : wpAny _ A.in1 (pyNext (.ref I) >>= _) _ _ s)
    obtain ⟨x, t, hx, rfl⟩ := hval i v hP
    have hS' := stay hm hS
    have tk : xs.take (i + 1) = xs.take i ++ [x] := by rw [List.take_add_one, hx]; rfl
    have cnt : (nubG (xs.take i)).length ≤ i := by
      have := nd_len_le (nubG_nd (xs.take i)) (fun y hy => (nubG_mem _ y).mp hy)
      rw [List.length_take] at this
      omega
    refine (wpAny_bind (wpAny_holding ?_) : wpAny _ A.in1 (holding [Value.str x t] (setAdd S (.str x t)) >>= _) _ _ z)
    unfold setAdd
    refine wpAny_holding (wpAny_bind ((PySem.strKind P w).pyHash (k := x) (strKind_is _ _ _ _) ?_))
    refine wpAny_setAddHashed_of (knd := PySem.strKind P w) (s := { z with toks := z.toks + 1 }) (strKind_is _ _ _ _) rfl hS' (by omega) fun h' hsb hS2 => ?_
    have hS3 : h'.SetOf (PySem.strKind P w) S (fun q => decide (q ∈ xs.take (i + 1))) (nubG (xs.take (i + 1))).length := by
      refine SetOf_congr hS2 (fun q => ?_) ?_
      · rw [tk]
        simp only [List.mem_append, List.mem_singleton]
        by_cases q1 : q ∈ xs.take i <;> by_cases q2 : q = x <;> simp [q1, q2]
      · rw [tk, nubG_snoc]
        by_cases q1 : x ∈ xs.take i <;> simp [q1]
    refine wpAny_pure ⟨plainId_quiet PyProof.Rows.F.plain_set_update_loop _, ih (i + 1) _ (by omega) hlt (W.frame _ z _ _ hst' (Nat.le_succ _) fun b hb o e => ?_) hS3 fun y hy hq => ?_⟩
    · rw [hsb.2 b (fun q : b = S => hSf (by rw [← q]; exact hb))]; exact e
    · refine hR y (Moved.trans W.gtrans ((hm.mono o2).then_heap (Nat.le_succ _) fun b o hb e => ?_) hy) hq
      rw [hsb.2 b (fun q : b = S => hb (by rw [q]; exact List.mem_cons_self))]; exact e
theorem call_setTS {l : Addr} {items : Array Value} (xs : List Str) {Q : Value → Shared → Prop} (hh : A.handled = none) (hl : s.heap.IsTuple l items) (hit : Vals (xs.map V.str) items.toList) (hb : xs.length + 1 < scanBound)
    (fin : ∀ h' tk, SetN s.heap.objs.size (nubG xs).length h' → (∀ b o, s.heap.get? b = some o → h'.get? b = some o) → Q (.ref s.heap.objs.size) { s with heap := h', toks := tk }) : wpAny (model P w) A (call (.type "set") [.ref l]) Q E s := by
  have hlt : l < s.heap.objs.size := by obtain ⟨o, ho, _⟩ := hl; exact Heap.lt_size ho
  obtain ⟨n1, n2⟩ := apart (w := w) hlt
  have hz : items.size = xs.length := by have := hit.length; rw [List.length_map, Array.length_toList] at this; exact this.symm
  have g1 : (midSet s w l).heap.get? s.heap.objs.size = some (freshSet w) := Heap.get?_push_of_some _ (Heap.get?_push_size _ rfl)
  have at_ : ∀ {xs : List Str} {us : List Value}, Vals (xs.map V.str) us → ∀ (i : Nat) (v : Value), us[i]? = some v → ∃ x t, xs[i]? = some x ∧ v = .str x t := by
    intro xs
    induction xs with
    | nil => intro us h i v hv; cases h; simp at hv
    | cons x xs ih =>
      intro us h i v hv
      cases h with
      | cons r rs =>
        obtain ⟨t, rfl⟩ := r
        cases i with
        | zero => simp at hv; subst hv; exact ⟨x, t, rfl, rfl⟩
        | succ i => exact ih rs i v (by simpa using hv)
  refine call_setT (Good := SetN s.heap.objs.size (nubG xs).length) hl (fun R hR => ?_) fin
  refine loopTx ((Walks.tuple (by simp [hh]) _ l n1 items).toS) s.heap.objs.size n2 xs hz hb (fun i v hv => at_ hit i v (by rw [Array.getElem?_toList]; exact hv)) items.size 0 _ (by omega) (Nat.zero_le _) ⟨⟨_, Heap.get?_push_size _ rfl, rfl, rfl⟩, ((hl.push _).push _)⟩ ⟨freshSet w, #[], 0, _, g1, ⟨rfl, rfl, rfl⟩, rfl, (fun e he => by simp at he), by simp, by decide, rfl, rfl⟩ fun s' hm hS => ?_
  rw [back_of hm]
  refine hR _ _ ?_ (kept_of hm)
  obtain ⟨o, es, ep, t, ho, hx, hd, _, _, _, hf, hsz⟩ := hS
  exact ⟨o, es, ep, t, ho, hx, hd, hf, hsz⟩
end
section
variable {X : Cx} {c : Cf} {k1 : Kd} {e : Expr} {f : FE} {pos p p2 q : Pos} {k : Kn}
def SetLen (K : PySem.W.Frag) (H : Hp) (l : Addr) (n : Nat) : Prop :=
  (∃ ns : List Int, SqT K H l (ns.map V.int) ∧ ns.length ≤ 1000 ∧ n = (nubG ns).length) ∨ (∃ ks : List (Addr × List Int), SqT K H l (ks.map fun p => V.ref p.1) ∧ (∀ p ∈ ks, SqT K H p.1 (p.2.map V.int)) ∧ ks.length ≤ 300 ∧ n = (nubG (ks.map (·.2))).length) ∨
  ∃ xs : List Str, SqT K H l (xs.map V.str) ∧ xs.length ≤ 1000 ∧ n = (nubG xs).length
theorem refs_vals : ∀ {as : List Addr} {us : List Value}, Vals (as.map V.ref) us → us = as.map Value.ref
  | [], _, .nil => rfl
  | a :: as, _, .cons r rs => by rw [refs_vals rs]; cases r; rfl
theorem pe_lenSetG {a : Expr} {ta : TE} (hc : X.calm = true) (hu : X.A.units + 64 < cLine) (hm : X.mg "len" = none) (hm2 : X.mg "set" = none) (ha : PE X a ta) (hg : Gl X "len") (hg2 : Gl X "set") (na : starEach [a] X.env = (false, eval a X.env) :: starEach [] X.env) :
    PE X (.Call (.Name "len" p) [.Call (.Name "set" p2) [a] [] q] [] pos) (fun σ H Q => ta σ H fun x H1 => ∃ l n, x = .ref l ∧ SetLen X.K H1 l n ∧ Q (.int n) H1) := by
  refine ⟨fun pins s σ H Q I h => ?_⟩
  refine Call_ (ld_blt I hg hm PySem.boot_len (PyProof.Rows.callWith_builtin1 (PyProof.Rows.args_cons (Call_ (ld_blt I hg2 hm2 PyProof.Rows.boot_set ?_)) rfl) rfl rfl))
  refine PyProof.Rows.callWith_type1 (PyProof.Rows.args_cons (thn (ha.run pins s σ H _ I h) fun v s1 ⟨x, H1, I1, r1, l, n, ex, hq, q1⟩ => PyProof.Rows.args_nil ?_) na) na rfl
  subst ex
  cases r1
  have fin : ∀ (h' : Heap) (tk : Nat), SetN s1.heap.objs.size n h' → (∀ b o, s1.heap.get? b = some o → h'.get? b = some o) →
      wpAny (model X.prog X.w) X.A (spliced (backTo pos (starEach [] X.env))) (fun vs z => wpAny (model X.prog X.w) X.A (call (.builtin "len") (Value.ref s1.heap.objs.size :: vs)) (EP X pins σ Q) X.xe z) X.xe { s1 with heap := h', toks := tk } := fun h' tk hS hk => by
    refine PyProof.Rows.args_nil ?_
    obtain ⟨o, es, ep, t, ho, hx, hd, hf, hsz⟩ := hS
    have I2 : L2.Inv X pins σ H1 { s1 with heap := h', toks := tk } := I1.kept hk
    have hfit : (es.size : Int) < 2 ^ 63 := by
      have : es.size ≤ 1000 := by
        rw [hsz]
        rcases hq with ⟨ns, _, h1, e1⟩ | ⟨ks, _, _, h1, e1⟩ | ⟨xs, _, h1, e1⟩
        · rw [e1]; exact Nat.le_trans (nd_len_le (nubG_nd ns) fun y hy => (nubG_mem _ y).mp hy) h1
        · rw [e1]; exact Nat.le_trans (nd_len_le (nubG_nd _) fun y hy => (nubG_mem _ y).mp hy) (by rw [List.length_map]; omega)
        · rw [e1]; exact Nat.le_trans (nd_len_le (nubG_nd xs) fun y hy => (nubG_mem _ y).mp hy) h1
      omega
    exact call_len_set ho hx hd hf hfit ⟨.int n, H1, I2.tok _, ⟨_, by rw [hsz]⟩, q1⟩
  have hsb : (1003 : Nat) < scanBound := by decide
  rcases hq with ⟨ns, hT, hl, rfl⟩ | ⟨ks, hT, hk, hl, rfl⟩ | ⟨xs, hT, hl, rfl⟩
  · obtain ⟨its, r, ⟨o, h1, h2, m, h3⟩, _⟩ := I1.tuple hT
    exact call_setTI ns (I1.ok.hd hc) ⟨o, h1, h2, m, h3⟩ (by simpa using r.ints) (by omega) fin
  · obtain ⟨its, r, ⟨o, h1, h2, m, h3⟩, _⟩ := I1.tuple hT
    refine call_setTT ks (I1.ok.hd hc) ⟨o, h1, h2, m, h3⟩ ?_ (fun p hp => I1.isT (hk p hp)) hl (by omega) fin
    have := refs_vals (as := ks.map (·.1)) (by rw [List.map_map]; exact r)
    rw [List.map_map] at this
    exact (by simpa using this : its = ks.map (Value.ref ∘ fun x => x.1))
  · obtain ⟨its, r, ⟨o, h1, h2, m, h3⟩, _⟩ := I1.tuple hT
    exact call_setTS xs (I1.ok.hd hc) ⟨o, h1, h2, m, h3⟩ (by simpa using r) (by omega) fin
def lenSetD : D → R D
  | .tup ds => match asI ds with
    | some ns => if ns.length ≤ 1000 then .ok (.int (nubG ns).length) else .fail
    | none => match asTs ds with
      | some ks => if ks.length ≤ 300 then .ok (.int (nubG ks).length) else .fail
      | none => match asS ds with
        | some xs => if xs.length ≤ 1000 then .ok (.int (nubG xs).length) else .fail
        | none => .fail
  | _ => .fail
theorem asTs_rds {G : Hp} : ∀ {ds : List D} {vs : List V} {ks : List (List Int)}, RDs k G ds vs → asTs ds = some ks → ∃ ps : List (Addr × List Int), vs = ps.map (fun p => V.ref p.1) ∧ ps.map (·.2) = ks ∧ ∀ p ∈ ps, SqU k.K G p.1 (p.2.map V.int)
  | _, _, ks, .nil, h => by cases h; exact ⟨[], rfl, rfl, by simp⟩
  | d :: ds, _, ks, .cons a b, h => by
    simp only [asTs] at h
    split at h
    · rename_i x xs h1 h2
      cases h
      obtain ⟨ad, rfl, hs⟩ := RD.asT a h1
      obtain ⟨ps, rfl, rfl, hp⟩ := asTs_rds b h2
      refine ⟨(ad, x) :: ps, rfl, rfl, fun p hp' => ?_⟩
      rcases List.mem_cons.mp hp' with rfl | hp'
      · exact hs
      · exact hp p hp'
    · cases h
theorem d_lenSet (hk : c.k.K = X.K) (hc : X.calm = true) (hu : X.A.units + 64 < cLine) (hm : X.mg "len" = none) (hm2 : X.mg "set" = none) (he : PE' X c k1 e f) (hg : Gl X "len" := by rfl) (hg2 : Gl X "set" := by rfl) (na : starEach [e] X.env = (false, eval e X.env) :: starEach [] X.env := by rfl) :
    PE' X c .st (.Call (.Name "len" p) [.Call (.Name "set" p2) [e] [] q] [] pos) (e1 lenSetD f) :=
  peI (pe_lenSetG hc hu hm hm2 he hg hg2 na) fun σ H Q z => e1_go (r := fun x H1 Q => ∃ l n, x = .ref l ∧ SetLen X.K H1 l n ∧ Q (.int n) H1) (fun G H x u d ex n hg Q p => by
    cases x with
    | tup ds =>
      obtain ⟨ad, vs, rfl, ha, r⟩ := n.tup
      have ha' : SqT X.K H ad vs := hk ▸ ex.sqT ha.t
      simp only [lenSetD] at hg
      split at hg
      · rename_i ns hn
        split at hg
        · rename_i hl
          cases hg
          have := asI_of r hn; subst this
          exact ⟨ad, _, rfl, .inl ⟨ns, ha', hl, rfl⟩, p _ G H (Step.refl ex) (.int _)⟩
        · cases hg
      · split at hg
        · rename_i ks hn
          split at hg
          · rename_i hl
            cases hg
            obtain ⟨ps, rfl, rfl, hp⟩ := asTs_rds r hn
            rw [List.length_map] at hl
            exact ⟨ad, _, rfl, .inr (.inl ⟨ps, ha', fun q hq => hk ▸ ex.sqT (hp q hq).t, by omega, rfl⟩), p _ G H (Step.refl ex) (.int _)⟩
          · cases hg
        · split at hg
          · rename_i xs hn
            split at hg
            · rename_i hl
              cases hg
              have := asS_of r hn; subst this
              exact ⟨ad, _, rfl, .inr (.inr ⟨xs, ha', hl, rfl⟩), p _ G H (Step.refl ex) (.int _)⟩
            · cases hg
          · cases hg
    | _ => simp [lenSetD] at hg) z
end
end M
set_option Elab.async false
set_option linter.all false
set_option maxRecDepth 100000
set_option maxHeartbeats 4000000
namespace M
open PySem L2
section
instance lawK : LawfulBEq Key where
  eq_of_beq := by
    intro a b h
    cases a with
    | inl x => cases b with
      | inl y => exact congrArg Sum.inl (by simpa using (show (x == y) = true from h))
      | inr y => cases h
    | inr x => cases b with
      | inl y => cases h
      | inr y => exact congrArg Sum.inr (by simpa using (show (x == y) = true from h))
  rfl := by
    intro a
    cases a with
    | inl x => show (x == x) = true; simp
    | inr x => show (x == x) = true; simp
theorem scan_ok {n : Nat} (h : n ≤ 1000) : n + 1 < scanBound := by
  have : (1003 : Nat) < scanBound := by decide
  omega
def kset (P : Program) (w : World) (t : List Key) (a : Addr) : HO := SetK P w a (fun q => decide (q ∈ t)) t.length
def nubK (acc : List Key) (k : Key) : List Key := if k ∈ acc then acc else k :: acc
theorem nubG_eq (ks : List Key) : nubG ks = ks.foldl nubK [] := by
  unfold nubG
  congr
  funext acc k
  unfold nubK
  by_cases h : k ∈ acc
  · rw [if_pos h, if_pos h]
  · rw [if_neg h, if_neg h]
def famK (P : Program) (w : World) (K : PySem.W.Frag) : Fam P w K (List Key) Key where
  ob := fun t a => kset P w t a
  t0 := []
  pre := fun t y k H => y = kV k ∧ t.length + 1 < scanBound
  post := fun t y k t' => t' = if k ∈ t then t else k :: t
  new := fun H h a e => setK_new ⟨freshSet w, #[], 0, _, e, ⟨rfl, rfl, rfl⟩, rfl, (fun e he => by simp at he), by simp, by decide, rfl, rfl⟩
  add := by
    intro X hP hw hK hu pins s σ H S t y k u Q E I hS ry hp hq
    subst hP hw hK
    obtain ⟨rfl, h2⟩ := hp
    have R := setK_get I hS
    refine call_set_add (knd := mixKind X.prog X.w) (kV_is ry) (key_scan ry) R h2 fun h' sb R' => ?_
    refine hq _ _ rfl (I.write (e := S) (by rw [hS]; trivial) (.inl rfl) (fun b u hb hu => (sb.2 b hb).trans hu) (by obtain ⟨o, _, _, _, ho, _⟩ := R'; exact ⟨o, ho⟩) (setK_new (PyProof.Rows.SetOf_congr R' (fun q => ?_) ?_)))
    · by_cases h : k ∈ t
      · rw [if_pos h]
        by_cases q1 : q ∈ t
        · simp [q1]
        · have : q ≠ k := fun e => q1 (by rw [e]; exact h)
          simp [q1, this]
      · rw [if_neg h]
        by_cases q1 : q ∈ t <;> by_cases q2 : q = k <;> simp [q1, q2]
    · by_cases h : k ∈ t <;> simp [h]
theorem call_lenK {X : Cx} : CallR X (.builtin "len") (fun xs H Q => ∃ a L, xs = [V.ref a] ∧ H a = some (kset X.prog X.w L a) ∧ Q (.int L.length) H) := by
  intro pins s σ H xs us Q I r h
  obtain ⟨a, L, rfl, ha, q⟩ := h
  rw [Vals.ref1 r]
  obtain ⟨o, es, ep, t, ho, hx, hd, _, _, hb, hf, hsz⟩ := setK_get I ha
  have hs : (scanBound : Int) < 2 ^ 63 := by decide
  exact call_len_set ho hx hd hf (by omega) ⟨.int L.length, H, I.tok _, ⟨_, by rw [hsz]⟩, q⟩
def lenScK (fi : FI) (ga : FG) (t : FT) (fe : FE) (vs : List Nat) : FE := fun S => fi S >>= fun ds => if ds.length < 900 then lcF ga t fe (wipeS S vs) ds >>= fun ys => (match keysD ys with
  | some ks => .ok (.int (nubG ks).length)
  | none => .fail) else .fail
theorem lenScK_go {X : Cx} {c : Cf} {t : FT} {ki gs vs : List Nat} {fi : FI} {ga : FG} {fe : FE} {σ : L2.St} {H : Hp} {Q : VK} {gi : TG} {tt : TT} {te : TE} (hk : c.k.K = X.K) (hg : ∀ v σ H Q, RdG c.nx gs ga v σ H Q → gi v σ H Q) (ht : ∀ σ H Q, RdT c.nx t σ H Q → tt σ H Q) (he : ∀ σ H Q, RdE c.nx .st fe σ H Q → te σ H Q)
    (hgs : ∀ i, i ∈ gs → i ∈ vs) (q : RdE c .st (lenScK fi ga t fe vs) σ H Q) :
    tScG (famK X.prog X.w X.K) (RdI c ki fi) gi tt te vs σ H fun v H1 => ∃ a L, [v] = [V.ref a] ∧ H1 a = some (kset X.prog X.w L a) ∧ Q (.int L.length) H1 := by
  obtain ⟨G, S, rel, p⟩ := q
  refine ⟨G, S, rel, ?_⟩
  have p : PostE c .st G S σ H Q (fi S >>= fun ds => if ds.length < 900 then lcF ga t fe (wipeS S vs) ds >>= fun ys => (match keysD ys with
    | some ks => .ok (.int (nubG ks).length)
    | none => .fail) else .fail) := p
  cases e0 : fi S with
  | exc x => rw [e0] at p; exact p
  | fail => rw [e0] at p; exact p
  | ok ds =>
    rw [e0, R.ok_bind] at p
    by_cases hz : ds.length < 900
    · rw [if_pos hz] at p
      intro J G1 H1 sp it Dl hD
      have relb := ((rel.grow sp).wipe vs).cw (W := liftX E0)
      refine ⟨fun i m H2 => m = ds.length - i ∧ i ≤ ds.length ∧ ∃ G2 ac, Step G1 H1 G2 H2 ∧ G2 Dl = none ∧ H2 Dl = some (kset X.prog X.w ac Dl) ∧ ac.length ≤ i ∧
          PostE c .st G S σ H Q (lcF ga t fe (wipeS S vs) (ds.drop i) >>= fun ys => (match keysD ys with
            | some ks => .ok (.int (ks.foldl nubK ac).length)
            | none => .fail)),
        ⟨_, rfl, Nat.zero_le _, G1, [], Step.new' sp.gh hD, sp.gh.free hD, upd_same, Nat.zero_le _, by simpa [nubG_eq] using p⟩, ?_⟩
      rintro i m H2 ⟨rfl, hle, G2, ac, sp2, hGD, hHD, hal, p2⟩
      have rel2 : Rel c.nx G2 (wipeS S vs) (L2.wipe σ vs) H2 := relb.grow sp2
      have itm := it G2 H2 sp2.g sp2.gh fun j hj x ow => by
        obtain ⟨_, _, o, _, ho, _⟩ := (rel.grow sp).own ow
        rw [ho, sp2.h _ _ ho]
      have nD : ∀ {G6 H6 : Hp}, Step G2 H2 G6 H6 → G6 Dl = none ∧ H6 Dl = some (kset X.prog X.w ac Dl) := fun {G6 H6} z => by
        refine ⟨?_, z.h _ _ hHD⟩
        cases q : G6 Dl with
        | none => rfl
        | some o =>
          rcases z.gr _ _ q with w | w
          · rw [hGD] at w; cases w
          · rw [hHD] at w; cases w
      by_cases hlt : i < ds.length
      · obtain ⟨d, hd⟩ : ∃ d, ds[i]? = some d := ⟨ds[i], List.getElem?_eq_getElem hlt⟩
        have hdrop : ds.drop i = d :: ds.drop (i + 1) := by
          rw [List.drop_eq_getElem_cons hlt]; congr 1; rw [List.getElem?_eq_getElem hlt] at hd; exact Option.some.inj hd
        rw [hdrop] at p2
        obtain ⟨hgo, hy⟩ := itm.2 i d hd
        refine .inr ⟨hgo, fun H' => ∃ G3 ac, Step G1 H1 G3 H' ∧ G3 Dl = none ∧ H' Dl = some (kset X.prog X.w ac Dl) ∧ ac.length ≤ i + 1 ∧
          PostE c .st G S σ H Q (lcF ga t fe (wipeS S vs) (ds.drop (i + 1)) >>= fun ys => (match keysD ys with
            | some ks => .ok (.int (ks.foldl nubK ac).length)
            | none => .fail)), fun H' ⟨G3, r3⟩ => ⟨_, by omega, rfl, hlt, G3, r3⟩, fun x H3 hx => ?_⟩
        obtain ⟨G3, sp3, hd3⟩ := hy x H3 hx
        refine hg x _ H3 _ ⟨G3, wipeS S vs, d, rel2.grow sp3, hd3, ?_⟩
        unfold lcF at p2
        cases e1 : ga d (wipeS S vs) with
        | exc x => rw [e1] at p2; exact p2.elim
        | fail => rw [e1] at p2; exact p2.elim
        | ok S1 =>
          rw [e1, R.nox_ok, R.ok_bind] at p2
          intro G4 σ4 H4 sp4 rel4 f4
          refine ⟨wipe_eq (by rw [f4.len, wipe_length]) fun j hj => f4.sg j fun z => hj (hgs j z), ht σ4 H4 _ ⟨G4, S1, rel4, ?_⟩⟩
          cases e2 : t S1 with
          | exc x => rw [e2] at p2; exact p2.elim
          | fail => rw [e2] at p2; exact p2.elim
          | ok b =>
            rw [e2, R.nox_ok, R.ok_bind] at p2
            intro G5 H5 sp5
            have spA : Step G2 H2 G5 H5 := (sp3.trans sp4).trans sp5
            cases b with
            | false =>
              rw [if_neg Bool.false_ne_true] at p2 ⊢
              exact ⟨G5, ac, sp2.trans spA, (nD spA).1, (nD spA).2, by omega, p2⟩
            | true =>
              rw [if_pos rfl] at p2 ⊢
              refine he σ4 H5 _ ⟨G5, S1, rel4.grow sp5, ?_⟩
              cases e3 : fe S1 with
              | exc x => rw [e3] at p2; exact p2.elim
              | fail => rw [e3] at p2; exact p2.elim
              | ok y =>
                rw [e3, R.nox_ok, R.ok_bind] at p2
                intro v G6 H6 sp6 hv
                have hv : RD c.k G6 y v := hv
                have spB := spA.trans sp6
                cases e4 : lcF ga t fe (wipeS S vs) (ds.drop (i + 1)) with
                | exc x => exact absurd e4 (lcF_exc _)
                | fail => rw [e4] at p2; exact p2.elim
                | ok ys =>
                  rw [e4] at p2
                  have p2 : PostE c .st G S σ H Q (match keysD (y :: ys) with
                    | some ks => .ok (.int (ks.foldl nubK ac).length)
                    | none => .fail) := p2
                  simp only [keysD] at p2
                  cases ek : keyD y with
                  | none => rw [ek] at p2; exact p2.elim
                  | some kk =>
                    cases es : keysD ys with
                    | none => rw [ek, es] at p2; exact p2.elim
                    | some ks =>
                      rw [ek, es] at p2
                      obtain rfl := keyD_rd ek hv
                      refine ⟨ac, kk, (nD spB).2, ⟨rfl, scan_ok (by omega)⟩, ?_⟩
                      rintro L' rfl
                      have spC : ∀ L' : List Key, Step G1 H1 G6 (upd H6 Dl (kset X.prog X.w L' Dl)) := fun L' => by
                        have z := sp2.trans spB
                        exact ⟨z.g, z.h.upd hD, z.gh.upd (nD spB).1, z.gr⟩
                      by_cases hm : kk ∈ ac
                      · rw [if_pos hm]
                        refine ⟨G6, ac, spC ac, (nD spB).1, upd_same, by omega, ?_⟩
                        rw [R.ok_bind, es]
                        simpa only [List.foldl_cons, nubK, if_pos hm] using p2
                      · rw [if_neg hm]
                        refine ⟨G6, kk :: ac, spC _, (nD spB).1, upd_same, by simp only [List.length_cons]; omega, ?_⟩
                        rw [R.ok_bind, es]
                        simpa only [List.foldl_cons, nubK, if_neg hm] using p2
      · have hi : i = ds.length := by omega
        subst hi
        rw [List.drop_length] at p2
        refine .inl ⟨itm.1 _ (Nat.le_refl _), Dl, ac, rfl, hHD, ?_⟩
        have p2 : PostE c .st G S σ H Q (.ok (.int ac.length)) := p2
        exact p2 _ G2 H2 (sp.trans sp2) (.int _)
    · rw [if_neg hz] at p; exact p.elim
theorem d_lenScK {X : Cx} {c : Cf} {t : FT} {tg elt iter : Expr} {ifs : List Expr} {scope : Scope} {p1 p2 pos : Pos} {x : Str} (own : List (Str × Nat)) {ki gs : List Nat} {fi : FI} {ga : FG} {fe : FE} (hk : c.k.K = X.K) (hu : X.A.units + 64 < cLine) (hm : X.mg x = none) (hc : X.calm = true) (hN : X.N.Nodup) (hi : PI' X c ki tg iter fi) (ok : BlkOk X.N X.env.scope scope own)
    (hg : ∀ (s : Shared) (H : Hp) (C : Addr) (cl : List (Str × Addr)) (fp : List Addr), PG' (X.blk s H scope (compEnvC scope cl C X.env) fp) c.nx gs tg ga) (ht : ∀ (s : Shared) (H : Hp) (C : Addr) (cl : List (Str × Addr)) (fp : List Addr), PTs' (X.blk s H scope (compEnvC scope cl C X.env) fp) c.nx ifs t)
    (he : ∀ (s : Shared) (H : Hp) (C : Addr) (cl : List (Str × Addr)) (fp : List Addr), PE' (X.blk s H scope (compEnvC scope cl C X.env) fp) c.nx .st elt fe) (hgs : ∀ i, i ∈ gs → i ∈ own.map (·.2) := by decide) (hs : ∀ x, foldedSetIterable iter X.env x = pure x := by intro _; rfl)
    (hv : bootBuiltins x = some (.builtin "len") := by decide +kernel) (hgl : Gl X x := by rfl) (hn : x ≠ "__name__" := by decide) (hdb : (x == ("__debug__" : Str)) = false := by decide) :
    PE' X c .st (.Call (.Name x p1) [.SetComp elt [⟨tg, iter, ifs, 0⟩] scope p2] [] pos) (lenScK fi ga t fe (own.map (·.2))) :=
  peI (pe_callB call_lenK hgl hm hv (pa_cons (pe_scG (famK X.prog X.w X.K) hu hc hN hi ok hg ht he hs) pa_nil rfl) hn hdb rfl rfl) fun σ H Q q => lenScK_go hk (fun _ _ _ _ z => z) (fun _ _ _ z => z) (fun _ _ _ z => z) hgs q
end
end M
set_option Elab.async false
set_option linter.all false
set_option maxRecDepth 100000
set_option maxHeartbeats 4000000
namespace M
open PySem L2 PySem.W PyProof.Rows
section
variable {prog : Program} {w : World} {A : Around} {E : Value → Shared → Prop} {s : Shared} {a kS : Addr} {b : Bool} {vs : List Value} {e1 : Nat} {P : PySem.Fin → Shared → Prop}
end
section
variable {X : Cx} {k : Nat} {f : Addr} {fd : FuncData} {ps : List Str} {sp : Sp}
end
end M
set_option Elab.async false
set_option linter.all false
set_option maxRecDepth 100000
set_option maxHeartbeats 4000000
namespace M
open PySem L2
section
variable {X : Cx} {k : Kn} {c : Cf} {e : Expr} {pos : Pos} {den : List D → R D}
end
end M
set_option Elab.async false
set_option linter.all false
set_option maxRecDepth 100000
set_option maxHeartbeats 4000000
namespace M
open PySem L2 PySem.W PySem.Calls PyProof.Rows
section
variable {prog : Program} {w : World} {A : Around} {E : Value → Shared → Prop} {s : Shared}
theorem collect_tup {l : Addr} {vs : List Value} {Q : List Value → Shared → Prop} (hl : IsTup s.heap l vs.toArray)
    (h : Q vs { s with heap := (s.heap.push (seqObj "list" #[] 0)).update s.heap.objs.size (Obj.mapSeq (· ++ vs.toArray)) }) (hsz : vs.length ≤ sizeLine) :
    wpAny (model prog w) A (collect (.ref l)) Q E s := by
  obtain ⟨o, ho, hc, n, hd⟩ := id hl
  unfold collect
  refine wpAny_bind (wpAny_runValue (codeAny_builtin entry_proto_collect' ?_))
  show wpAny _ _ (do again (.builtin "list.__iadd__" ⟨[← newList [], .ref l], []⟩)) _ _ s
  refine wpAny_bind (wpAny_newList (wpAny_pure ⟨Code.quiet_builtin _ (by decide +kernel), codeAny_builtin entry_list_iadd' ?_⟩))
  show wpAny _ _ (Builtin.List.listExtendWith (.ref s.heap.objs.size) (.ref l) (.ref s.heap.objs.size)) _ _ { s with heap := s.heap.push (seqObj "list" #[] 0) }
  unfold Builtin.List.listExtendWith
  have ho' : (s.heap.push (seqObj "list" #[] 0)).get? l = some o := Heap.get?_push_of_some _ ho
  refine wpAny_bind (wpAny_typeOf (T := "tuple") ⟨o, ho', hc⟩ ?_)
  have ht : (Value.type "tuple" == Value.type "tuple") = true := by rfl
  rw [if_pos (by rw [ht]; simp)]
  refine wpAny_bind (listItems_at ho' hd ?_)
  refine wpAny_bind (listItems_at (xs := #[]) (n := 0) (Heap.get?_push_size _ rfl) rfl ?_)
  rw [if_neg (by simp)]
  refine wpAny_bind (listUpdate_at (xs := #[]) (n := 0) (Heap.get?_push_size _ rfl) rfl ?_ (Nat.zero_le _) (by show (#[] ++ vs.toArray).size ≤ sizeLine + 1; simp only [Array.size_append, List.size_toArray, List.length_nil]; omega))
  refine wpAny_pure ?_
  show wpAny (model prog w) A (do
      let o ← load s.heap.objs.size
      match o.data with
      | .seq xs _ => pure xs.toList
      | _ => unsupported "internal:collect") Q E { s with heap := (s.heap.push (seqObj "list" #[] 0)).update s.heap.objs.size (Obj.mapSeq (· ++ vs.toArray)) }
  refine wpAny_bind (wpAny_load (get?_update_seq (Heap.get?_push_size _ rfl) _) ?_)
  show wpAny _ _ (pure ((#[] : Array Value) ++ vs.toArray).toList) Q E _
  rw [show ((#[] : Array Value) ++ vs.toArray).toList = vs by simp]
  exact wpAny_pure h
theorem sortedT_of_sort {l : Addr} {vs : List Value} {kw : List (Str × Value)} {Q : Value → Shared → Prop} (hl : IsTup s.heap l vs.toArray) (hL : vs.length ≤ sizeLine) (ha1 : argsOk "sorted" ⟨[.ref l], kw⟩) (ha2 : ∀ x, argsOk "list.sort" ⟨[.ref x], kw⟩)
    (body : ∀ E' : Value → Shared → Prop, wpAny (model prog w) A.in1.in1 (Builtin.«list.sort» ⟨[.ref (s.heap.objs.size + 1)], kw⟩) (fun f s' => f = .done (.ret .none) ∧ Q (.ref (s.heap.objs.size + 1)) s') E' { s with heap := copyHeap s.heap vs }) :
    wpAny (model prog w) A (call (.builtin "sorted") [.ref l] kw) Q E s := by
  refine call_function_entry_kw kind_sorted plain_sorted entry_sorted ha1 ?_
  unfold Builtin.«sorted»
  refine wpAny_bind (m := checkCount "sorted" 1 1 _) (wpAny_pure ?_)
  refine wpAny_bind (collect_tup hl ?_ hL)
  refine wpAny_bind (wpAny_newList ?_ hL)
  have hsz : ((s.heap.push (seqObj "list" #[] 0)).update s.heap.objs.size (Obj.mapSeq (· ++ vs.toArray))).objs.size = s.heap.objs.size + 1 := by
    rw [Heap.size_update, size_push']
  show wpAny _ _ _ _ _ { s with heap := copyHeap s.heap vs }
  rw [hsz]
  refine wpAny_bind (wpAny_holding (wpAny_call_entry_kw slot_list_sort ⟨_, copyHeap_at s.heap vs, rfl⟩ entry_list_sort ?body (ha2 _)))
  case body =>
    show wpAny (model prog w) A.in1.in1 (Builtin.«list.sort» ⟨[.ref (s.heap.objs.size + 1)], kw⟩) _ _ _
    refine wpAny_mono (body _) (fun f s' hf => ?_) fun _ _ e => e
    obtain ⟨rfl, hq⟩ := hf
    exact ⟨_, rfl, wpAny_pure ⟨_, rfl, hq⟩⟩
variable {κ : KeyKind}
theorem sortedT_vals {l : Addr} {vs : List Value} {Q : Value → Shared → Prop} (hl : IsTup s.heap l vs.toArray) (S : SortsAt prog w A.in1.in1 { s with heap := sortingHeap (copyHeap s.heap vs) (s.heap.objs.size + 1) vs } κ vs) (hL : vs.length ≤ sizeLine)
    (h : Q (.ref (s.heap.objs.size + 1)) { s with heap := sortedAll s.heap vs (sortVals κ false vs vs).toArray }) : wpAny (model prog w) A (call (.builtin "sorted") [.ref l]) Q E s :=
  sortedT_of_sort hl hL (args_sorted1 _) (fun _ => args_list_sort _) fun _ => list_sort_vals (s := { s with heap := copyHeap s.heap vs }) (copyHeap_at s.heap vs) S hL ⟨rfl, h⟩
variable {β : Type} {R : Value → β → Prop} {vs : List Value} {bs : List β} {enc : β → PyData}
theorem sortedT_data {l : Addr} {Q : Value → Shared → Prop} (hl : IsTup s.heap l vs.toArray) (e : EachIs R vs bs) (er : EachIs (fun v b => ∃ as, Reads s.heap v (enc b) as) vs bs) (hal : AllAlike (bs.map enc)) (hk : Sortable (bs.map enc)) (hL : bs.length ≤ sizeLine)
    (hu : ∀ b, b ∈ bs → A.units + 2 + (enc b).depth < cLine) (h : ∀ out, out.length = bs.length → EachIs R out (bs.mergeSort (dataLe false enc)) → Q (.ref (s.heap.objs.size + 1)) { s with heap := sortedAll s.heap vs (List.toArray out) }) :
    wpAny (model prog w) A (call (.builtin "sorted") [.ref l]) Q E s := by
  have er' : EachIs (fun v b => ∃ as, Reads (sortingHeap (copyHeap s.heap vs) (s.heap.objs.size + 1) vs) v (enc b) as) vs bs := er.mono fun _ _ ⟨as, r⟩ => ⟨as, PyProof.Rows.Reads.keeps (fun _ _ => sorting_copy_old) r⟩
  exact sortedT_vals hl (SortsAt.data (s := { s with heap := sortingHeap (copyHeap s.heap vs) (s.heap.objs.size + 1) vs }) (each_map (R := fun v d => ∃ as, Reads (sortingHeap (copyHeap s.heap vs) (s.heap.objs.size + 1) vs) v d as) enc er') hal hk (bound_map hu)) (by rw [e.length]; exact hL)
    (h _ (by rw [sortVals_length false rfl]; exact e.length) (sortVals_data false e er' hal))
end
section
variable {X : Cx} {k : Kn}
def rSrtT (X : Cx) : List V → Hp → VK → Prop := fun vs H Q => ∃ a xs ds, vs = [V.ref a] ∧ SqT X.K H a xs ∧ DpAll X.K H xs ds ∧ PySem.W.AllAlike ds ∧ PySem.W.Sortable ds ∧ (∀ d, d ∈ ds → d.depth ≤ 60) ∧
  ∀ p, H p = none → Q (.ref p) (upd H p (.lst (((xs.zip ds).mergeSort (PySem.W.dataLe false (·.2))).map (·.1))))
theorem cr_srtT (hu : X.A.units + 64 < cLine) : CallR X (.builtin "sorted") (rSrtT X) := by
  intro pins s σ H vs us Q I r h
  obtain ⟨a, xs, ds, rfl, hs, hd, hal, hso, hdp, q⟩ := h
  obtain ⟨u, rfl, ru⟩ := vals1 r
  cases ru
  obtain ⟨its, rv, pl, hz⟩ := I.tuple hs
  have hlen := DpAll.length hd
  have hm : (xs.zip ds).map (·.2) = ds := by rw [List.map_snd_zip]; omega
  have ea := DpAll.zip hd rv
  refine sortedT_data (enc := fun (b : V × PyData) => b.2) (R := fun u (b : V × PyData) => RelV b.1 u) (bs := xs.zip ds) pl (EachIs.imp (fun _ _ z => z.1) ea) (EachIs.imp (fun u b z => Dp.reads I b.2 b.1 u z.2 z.1) ea) (by rw [hm]; exact hal) (by rw [hm]; exact hso) (by rw [List.length_zip]; omega) ?_ ?_
  · intro b hb
    have : b.2 ∈ ds := by rw [← hm]; exact List.mem_map.mpr ⟨b, hb, rfl⟩
    have := hdp _ this
    omega
  · intro out ho eo
    obtain ⟨m, F⟩ := I.fr
    obtain ⟨cn, _, N, _, kp⟩ := PySem.W.sorted_news (news := []) F (fun p hp => nomatch hp) its out
    have hobj := (N _ List.mem_cons_self).1
    have hv := each_vals eo
    refine ⟨.ref (s.heap.objs.size + 1), _, I.laid (a := s.heap.objs.size + 1) (t' := s.toks) (o := .lst _) kp (Nat.le_succ _) ⟨?_, out, cn, hv, hobj⟩, rfl, q _ (I.hok.fresh (Nat.le_succ _))⟩
    rw [List.length_map, List.length_mergeSort, List.length_zip]; omega
def srtAD : D → R D
  | .lst ds => if srtOk ds then .ok (.lst (srt ds)) else .fail
  | .tup ds => if srtOk ds then .ok (.lst (srt ds)) else .fail
  | _ => .fail
theorem c_srtA (hk : k.K = X.K) (hu : X.A.units + 64 < cLine) : ClR X k (.builtin "sorted") .fr (f1 srtAD) := cl1 ((cr_srt hu).or (cr_srtT hu)) fun G H x v d e n hg Q p => by
  cases x <;> simp only [srtAD] at hg <;> first | (cases hg; done) | skip
  · split at hg
    · rename_i ho
      cases hg; obtain ⟨a, vs, rfl, ha, r⟩ := n.tup
      have hd : doks 59 _ = true := (by unfold srtOk at ho; simp only [Bool.and_eq_true] at ho; exact ho.1.1)
      refine .inr ⟨a, vs, _, rfl, hk ▸ e.sqT ha.t, hk ▸ (r.mono e).dp 59 hd, fun p hp q hq => ?_, srt_sortable ho, fun q hq => ?_, fun pp hp => p _ _ _ (Step.new' e hp) ⟨pp, _, rfl, e.free hp, hp, upd_same, .lst r.srt⟩⟩
      · obtain ⟨d1, h1, rfl⟩ := toPs_mem hp
        obtain ⟨d2, h2, rfl⟩ := toPs_mem hq
        unfold srtOk at ho
        simp only [Bool.and_eq_true, List.all_eq_true] at ho
        exact alikeD_of _ _ (ho.1.2 d1 h1 d2 h2)
      · obtain ⟨d1, h1, rfl⟩ := toPs_mem hq
        have := (dok_lay 59 d1 (doks_mem hd h1)).2
        omega
    · cases hg
  · split at hg
    · rename_i ho
      cases hg; obtain ⟨a, vs, rfl, ha, r⟩ := n.lst e
      have hd : doks 59 _ = true := (by unfold srtOk at ho; simp only [Bool.and_eq_true] at ho; exact ho.1.1)
      refine .inl ⟨a, vs, _, rfl, SqL.of ha, hk ▸ (r.mono e).dp 59 hd, fun p hp q hq => ?_, srt_sortable ho, fun q hq => ?_, fun pp hp => p _ _ _ (Step.new' e hp) ⟨pp, _, rfl, e.free hp, hp, upd_same, .lst r.srt⟩⟩
      · obtain ⟨d1, h1, rfl⟩ := toPs_mem hp
        obtain ⟨d2, h2, rfl⟩ := toPs_mem hq
        unfold srtOk at ho
        simp only [Bool.and_eq_true, List.all_eq_true] at ho
        exact alikeD_of _ _ (ho.1.2 d1 h1 d2 h2)
      · obtain ⟨d1, h1, rfl⟩ := toPs_mem hq
        have := (dok_lay 59 d1 (doks_mem hd h1)).2
        omega
    · cases hg
end
end M
set_option Elab.async false
set_option linter.all false
set_option maxRecDepth 100000
set_option maxHeartbeats 4000000
namespace PySem
namespace SupX
open PySem.W PySem.Calls PyProof.Rows PySem.HandSPX
def Stores : List Str → List Stmt → Prop
  | [], [] => True
  | f :: fs, st :: sts => (∃ p1 p2 p3 p4 : Pos, st = .Assign [.Attribute (.Name "self" p1) f p2] (.Name f p3) p4) ∧ Stores fs sts
  | _, _ => False
def InitBody (fs : List Str) (body : List Stmt) : Prop :=
  ∃ (p0 p1 p2 p3 p4 p5 : Pos) (m : Str) (j : Nat) (sts : List Stmt), body = .Expr (.Call (.Attribute (.Call (.Name "super" p0) [] [] p1) "__init__" p2) [.Constant (.str m) j p3] [] p4) p5 :: sts ∧ (p2.endLine == p4.line) = true ∧ Stores fs sts
structure SupT (prog : Program) (K : Frag) (C fI : Addr) (fs : List Str) : Prop where
  cls : ∃ nm q N bs bm sn sub ab col dd k0 k1 k2 k3 k5, K.lookup C = some (excClassObj nm q C N bs bm true sn sub ab col dd k0 k1 k2 k3 k5 "ValueError.__new__") ∧ refsVE bm = true
  sa : findIn K (.ref C) "__setattr__" = some (some (.builtin "object.__setattr__"))
  noN : ∀ f, f ∈ fs → findIn K (.ref C) f = some none
  nd : ((("self" : Str)) :: fs).Nodup
  nod : ∀ f, f ∈ fs → (f == ("__debug__" : Str)) = false
  sup : ks_superIn K C C "__init__" = some (some (.builtin "ValueError.__init__"))
  isV : subIn K (.ref C) (.type "ValueError") = some true
  mro : mroIn K C (.ref C) = some true
  opq : nsIn K cStatics "thirdparty.any" = some none
  iC : findIn K (.ref C) "__init__" = some (some (.ref fI))
  tI : typeIn K (.ref fI) = some (.type "function")
  sup0 : nsIn K mainGlobals "super" = some none
  htop : (prog.main.scope.names.lookup ("super" : Str)).isSome = false
  fn : ∃ (oc : Value) (od : Option Addr) (qual : Str) (params : Arguments) (body : List Stmt) (scope : Scope) (dV kV doc pm : Value) (an : Option Addr) (ct : Value) (osl : Array (Option Value)) (cda cc : Addr)
      (ccl cl : Value) (cdd cld : Option Addr) (vs : Array Value) (ccs csl : Array (Option Value)) (file : Str) (tf : Tok) (ar : Arg),
    K.lookup fI = some ⟨oc, od, .func (ksFn "__init__" qual params body scope dV kV doc pm an (.ref cda) ct cc), osl⟩ ∧ codeIn K (.ref cda) qual = true ∧ K.lookup cda = some ⟨ccl, cdd, .fields vs, ccs⟩ ∧ vs[2]? = some (.str file tf) ∧
    ((prog.main.file : Str) == file) = true ∧ K.lookup cc = some ⟨cl, cld, .cell (some (.ref C)), csl⟩ ∧ InitBody fs body ∧ (params.posonlyargs ++ params.args).head? = some ar ∧ ar.arg = "self" ∧
    (∀ (s : Shared) (us : List Value), us.length = fs.length + 1 → BindsTo s (ksFn "__init__" qual params body scope dV kV doc pm an (.ref cda) ct cc) ⟨us, []⟩ ((("self" : Str) :: fs).zip us)) ∧
    scope.names.lookup ("super" : Str) = some .globalImplicit ∧ scope.names.lookup ("__class__" : Str) = some .free ∧ (∀ f, f ∈ ("self" : Str) :: fs → scope.names.lookup f = some .local) ∧ scope.kind = .function ∧ scope.isGenerator = false ∧ scope.isCoroutine = false ∧
    (∀ x ∈ scope.names, x.2 ≠ .cell)
def exD (C t : Addr) (d : Option Addr) : Obj := { cls := .ref C, dict := d, data := .fields #[.ref t, .none, .none, .none, .bool false, .none] }
section
variable {prog : Program} {w : World} {A : Around} {E : Value → Shared → Prop} {K : Frag} {C fI : Addr} {fs : List Str}
def putAll (mD : Str → Option Value) : List Str → List Value → Str → Option Value
  | f :: fs, v :: vs => putAll (fun y => if y = f then some v else mD y) fs vs
  | _, _ => mD
structure InitEnd (h h' : Heap) (x C dx t : Addr) (mD : Str → Option Value) : Prop where
  keep : ∀ b o, b ≠ x → h.get? b = some o → h'.get? b = some o
  obj : h'.get? x = some (exD C t (some dx))
  dbig : h.objs.size ≤ dx
  dne : dx ≠ x
  ns : h'.Ns1 dx mD
end
end SupX
end PySem
set_option Elab.async false
set_option linter.all false
set_option maxRecDepth 100000
set_option maxHeartbeats 4000000
namespace PySem
namespace SupX
open PySem.W PySem.Calls PyProof.Rows PySem.HandSPX
structure Made (h h' : Heap) (e C d : Addr) (mD : Str → Option Value) : Prop where
  keep : ∀ b o, h.get? b = some o → h'.get? b = some o
  new : h.objs.size ≤ e
  obj : ∃ t, h'.get? e = some (exD C t (some d))
  dbig : h.objs.size ≤ d
  dne : d ≠ e
  ns : h'.Ns1 d mD
section
variable {prog : Program} {w : World} {A : Around} {E : Value → Shared → Prop} {K : Frag} {C fI : Addr} {fs : List Str}
end
end SupX
end PySem
namespace M
open PySem L2 PySem.W PySem.Calls PyProof.Rows
section
variable {X : Cx} {C fI : Addr}
end
end M
set_option Elab.async false
set_option linter.all false
set_option maxRecDepth 100000
set_option maxHeartbeats 4000000
namespace M
open PySem L2
def xix : Nat := 1000000
def Kn.at (k : Kn) (a : Addr) : Kn := ⟨k.K, fun i => if i = xix then some (a, []) else k.cl i⟩
mutual
def D.noX : D → Bool
  | .cls c => decide (c ≠ xix)
  | .obj c xs => decide (c ≠ xix) && D.noXs xs
  | .tup xs => D.noXs xs
  | .lst xs => D.noXs xs
  | .dic _ xs => D.noXs xs
  | .dit _ xs => D.noXs xs
  | .dkf _ xs => D.noXs xs
  | .dig _ xs => D.noXs xs
  | _ => true
def D.noXs : List D → Bool
  | [] => true
  | x :: xs => x.noX && D.noXs xs
end
theorem Kn.at_cl {k : Kn} {a : Addr} {i : Nat} (h : i ≠ xix) : (k.at a).cl i = k.cl i := if_neg h
theorem Kn.up {k : Kn} {a : Addr} (h0 : k.cl xix = none) {i : Nat} {p : Addr × List Str} (h : k.cl i = some p) : (k.at a).cl i = some p := by
  rw [Kn.at_cl]; exact h
  rintro rfl; rw [h0] at h; cases h
mutual
theorem RD.up {k : Kn} {G : Hp} {a : Addr} (h0 : k.cl xix = none) : ∀ {d : D} {v : V}, RD k G d v → RD (k.at a) G d v
  | _, _, .non => .non
  | _, _, .bl b => .bl b
  | _, _, .int i => .int i
  | _, _, .str x => .str x
  | _, _, .ty n => .ty n
  | _, _, .tup h r => .tup h (RDs.up h0 r)
  | _, _, .lst h r => .lst h (RDs.up h0 r)
  | _, _, .scr h => .scr h
  | _, _, .cls h => .cls (Kn.up h0 h)
  | _, _, .dic h l r => .dic h l (RDs.up h0 r)
  | _, _, .dit h l r => .dit h l (RDs.up h0 r)
  | _, _, .dkf h l r => .dkf h l (RDs.up h0 r)
  | _, _, .dig h l kk r => .dig h l kk (RDs.up h0 r)
  | _, _, .obj c h r => .obj (Kn.up h0 c) h (RDs.up h0 r)
theorem RDs.up {k : Kn} {G : Hp} {a : Addr} (h0 : k.cl xix = none) : ∀ {ds : List D} {vs : List V}, RDs k G ds vs → RDs (k.at a) G ds vs
  | _, _, .nil => .nil
  | _, _, .cons a b => .cons (RD.up h0 a) (RDs.up h0 b)
end
mutual
theorem RD.down {k : Kn} {G : Hp} {a : Addr} : ∀ {d : D} {v : V}, RD (k.at a) G d v → d.noX = true → RD k G d v
  | _, _, .non, _ => .non
  | _, _, .bl b, _ => .bl b
  | _, _, .int i, _ => .int i
  | _, _, .str x, _ => .str x
  | _, _, .ty n, _ => .ty n
  | _, _, .tup h r, q => by simp only [D.noX] at q; exact .tup h (RDs.down r q)
  | _, _, .lst h r, q => by simp only [D.noX] at q; exact .lst h (RDs.down r q)
  | _, _, .scr h, _ => .scr h
  | _, _, .cls h, q => by simp only [D.noX, decide_eq_true_eq] at q; rw [Kn.at_cl q] at h; exact .cls h
  | _, _, .dic h l r, q => by simp only [D.noX] at q; exact .dic h l (RDs.down r q)
  | _, _, .dit h l r, q => by simp only [D.noX] at q; exact .dit h l (RDs.down r q)
  | _, _, .dkf h l r, q => by simp only [D.noX] at q; exact .dkf h l (RDs.down r q)
  | _, _, .dig h l kk r, q => by simp only [D.noX] at q; exact .dig h l kk (RDs.down r q)
  | _, _, .obj c h r, q => by
    simp only [D.noX, Bool.and_eq_true, decide_eq_true_eq] at q
    rw [Kn.at_cl q.1] at c
    exact .obj c h (RDs.down r q.2)
theorem RDs.down {k : Kn} {G : Hp} {a : Addr} : ∀ {ds : List D} {vs : List V}, RDs (k.at a) G ds vs → D.noXs ds = true → RDs k G ds vs
  | _, _, .nil, _ => .nil
  | _, _, .cons a b, q => by
    simp only [D.noXs, Bool.and_eq_true] at q
    exact .cons (RD.down a q.1) (RDs.down b q.2)
end
theorem Gc.up {mg : Str → Option Value} {k : Kn} {x : Str} {d : D} {a : Addr} (h0 : k.cl xix = none) (h : Gc mg k x d) : Gc mg (k.at a) x d := by
  obtain ⟨v, u, h1, h2, h3⟩ := h.ex
  exact ⟨v, u, h1, h2, fun G => (h3 G).up h0⟩
section
variable {P : Program} {w : World} {K : PySem.W.Frag} {mg : Str → Option Value} {base : Heap}
theorem fn_okX {k : Kn} {fr : Bool} {as : List Nat} {x qual : Str} {params : Arguments} {body : List Stmt} {scope : Scope} {dvs : List V} {kws : List (Str × V)} {f : Addr} {fd : FuncData} {N ps : List Str} {lv : Nat} {s : FS} (F : FunD K x qual params body scope dvs kws f fd) (S : FnScope N ps scope)
    (hb : ∀ (cdv : Value) (A : Around) (outer : List PySem.Env) (sh : Shared) (H G0 : Hp) (E : XK), Room lv (A.deeper (PyProof.Rows.envOfC qual scope sh.heap.objs.size f cdv)) → L2N.Takes (cxOf (L2N.CX P w) P w K mg base N qual scope f cdv A outer sh H E) (liftX E) →
      PB' (cxOf (L2N.CX P w) P w K mg base N qual scope f cdv A outer sh H E) ⟨k, H, G0, liftX E⟩ fr as body s) :
    FnOk P w K mg base (L2N.CX P w) (lv + 1) f fd ps (SpF k fr ps.length (runF fr N.length s)) := by
  refine F.ok S (fun vs H Q E q => q.1) fun cdv A outer sh H vs Q E hr q => ?_
  exact body_ok (X := cxOf (L2N.CX P w) P w K mg base N qual scope f cdv A outer sh H E) (fun G0 => hb cdv A outer sh H G0 E hr (L2N.takes_of rfl rfl rfl rfl)) q
theorem init_okX {k : Kn} {as : List Nat} {x qual : Str} {params : Arguments} {body : List Stmt} {scope : Scope} {dvs : List V} {kws : List (Str × V)} {f : Addr} {fd : FuncData} {N ps : List Str} {lv ci : Nat} {s : FS} (F : FunD K x qual params body scope dvs kws f fd) (S : FnScope N ps scope) (h0 : 0 ∉ as)
    (hb : ∀ (cdv : Value) (A : Around) (outer : List PySem.Env) (sh : Shared) (H H0 G0 : Hp) (E : XK), Room lv (A.deeper (PyProof.Rows.envOfC qual scope sh.heap.objs.size f cdv)) → L2N.Takes (cxOf (L2N.CX P w) P w K mg base N qual scope f cdv A outer sh H E) (liftX E) →
      PB' (cxOf (L2N.CX P w) P w K mg base N qual scope f cdv A outer sh H E) ⟨k, H0, G0, liftX E⟩ false as body s) :
    FnOk P w K mg base (L2N.CX P w) (lv + 1) f fd ps (SpN k ci ps.length (runN N.length ci s)) := by
  refine F.ok S (fun vs H Q E q => q.1) fun cdv A outer sh H vs Q E hr q => ?_
  exact body_init (X := cxOf (L2N.CX P w) P w K mg base N qual scope f cdv A outer sh H E) h0 (fun H0 G0 => hb cdv A outer sh H H0 G0 E hr (L2N.takes_of rfl rfl rfl rfl)) q
end
structure CalleeX (P : Program) (w : World) (K : PySem.W.Frag) (mg : Str → Option Value) (base : Heap) (k : Kn) (lv : Nat) (x : Str) (n : Nat) (fr : Bool) (den : List D → R D) : Prop where
  ex : ∃ (f : Addr) (fd : FuncData) (ps : List Str), ps.length = n ∧ FnOk P w K mg base (L2N.CX P w) lv f fd ps (SpF k fr n den) ∧ mg x = some (.ref f) ∧ PySem.W.keepIn K (.ref f) = true ∧ Binds K fd ps []
structure MethodX (P : Program) (w : World) (K : PySem.W.Frag) (mg : Str → Option Value) (base : Heap) (k : Kn) (lv : Nat) (ci : Nat) (m : Str) (n : Nat) (fr : Bool) (den : List D → R D) : Prop where
  ex : ∃ (C f : Addr) (fd : FuncData) (ps nm : List Str), ps.length = n ∧ k.cl ci = some (C, nm) ∧ m ∉ nm ∧ Cls K C ∧ Meth K C m f ∧ FnOk P w K mg base (L2N.CX P w) lv f fd ps (SpF k fr n den) ∧ Binds K fd ps []
structure MakerX (P : Program) (w : World) (K : PySem.W.Frag) (mg : Str → Option Value) (base : Heap) (k : Kn) (lv : Nat) (x : Str) (ci n : Nat) (den : List D → R D) : Prop where
  ex : ∃ (C f : Addr) (fd : FuncData) (ps : List Str) (nm : List Str), ps.length = n + 1 ∧ k.cl ci = some (C, nm) ∧ Mk K C f ∧ FnOk P w K mg base (L2N.CX P w) lv f fd ps (SpN k ci (n + 1) den) ∧ mg x = some (.ref C) ∧ Binds K fd ps []
section
variable {X : Cx} {c : Cf} {kd k1 k2 k3 : Kd} {a b e o : Expr} {f g h : FE} {pos apos : Pos} {fr : Bool} {x : Str} {den : List D → R D} {ci : Nat}
def eCX (o : List D → R D) (g : FA) : FE := fun S => g S >>= fun xs => o xs
theorem callX_go {n : Nat} {fa : FA} {σ : L2.St} {H : Hp} {Q : VK} (hl : ∀ S ds, fa S = .ok ds → ds.length = n) (q : RdE c (kdOf fr) (eCX den fa) σ H Q) : RdA c false fa σ H fun vs H1 => SpF c.k fr n den vs H1 Q (WE c.W σ) := by
  obtain ⟨G, S, rel, p⟩ := q
  have p : PostE c (kdOf fr) G S σ H Q (fa S >>= fun ds => den ds) := p
  refine ⟨G, S, rel, ?_⟩
  cases e0 : fa S with
  | exc x => rw [e0] at p; exact p
  | fail => rw [e0] at p; exact p
  | ok ds =>
    rw [e0] at p
    intro vs G1 H1 s1 q1
    have q1 : RDs c.k G1 ds vs := q1
    refine ⟨by rw [← q1.length]; exact hl S ds e0, G1, ds, s1.gh, q1, ?_⟩
    have p : PostE c (kdOf fr) G S σ H Q (den ds) := p
    cases e1 : den ds with
    | ok d => rw [e1] at p; exact fun v G' H' s2 r2 => p v G' H' (s1.trans s2) (r2.mono s1.h)
    | exc x =>
      rw [e1] at p
      have p : PX c σ x := p
      exact fun _ cls da G' H' s2 xr => p cls da G' H' ((rel.grow s1).st.trans s2) xr
    | fail => rw [e1] at p; exact p.elim
theorem d_callX {lv m n : Nat} {p : Pos} {es : List Expr} {fa : FA} (F : CalleeX X.prog X.w X.K X.mg X.base c.k lv x n fr den) (hr : Room m X.A) (hle : lv ≤ m) (tk : L2N.Takes X c.W) (ha : PA' X c false (e :: es) fa) (hl : Len n fa) (hg : Gl X x := by rfl) (hdb : (x == ("__debug__" : Str)) = false := by decide)
    (hs : starEach (e :: es) X.env = (false, eval e X.env) :: starEach es X.env := by rfl) (hs2 : ((backTo pos (starEach es X.env)).any fun x => x.1) = false := by rfl) : PE' X c (kdOf fr) (.Call (.Name x p) (e :: es) [] pos) (eCX den fa) := by
  obtain ⟨f, fd, ps, hn, ok, hm, hk, hb⟩ := F.ex
  exact peI (pe_callS ok (hr.mono hle) hg hm hk hb (fun σ => L2N.passAt tk σ) ha hdb hs hs2) fun σ H Q q => callX_go hl q
def eMX (ci : Nat) (den : List D → R D) (f : FE) (fa : FA) : FE := fun S => f S >>= fun o => if o.isObj ci then fa S >>= fun ds => den (o :: ds) else .fail
end
end M
set_option Elab.async false
set_option linter.all false
set_option maxRecDepth 100000
set_option maxHeartbeats 4000000
namespace M
open PySem L2
section
variable {X : Cx} {c : Cf} {kd k1 k2 k3 : Kd} {a b e o : Expr} {f g h : FE} {pos apos : Pos} {fr : Bool} {x : Str} {den : List D → R D} {ci : Nat}
structure RaO (K : PySem.W.Frag) (mg : Str → Option Value) (k : Kn) (x : Str) (ci : Nat) : Prop where
  ex : ∃ C, k.cl ci = some (C, []) ∧ PySem.W.excIn K C [.type "ValueError", .type "Exception", .type "BaseException", .type "object"] "ValueError.__new__" = true ∧ mg x = some (.ref C) ∧ PySem.W.keepIn K (.ref C) = true ∧
    PySem.W.subIn K (.ref C) (.type "BaseException") = some true ∧ PySem.W.typeIn K (.ref C) = some (.type "type")
structure RaI (P : Program) (K : PySem.W.Frag) (mg : Str → Option Value) (k : Kn) (x : Str) (ci : Nat) (fs : List Str) : Prop where
  ex : ∃ C fI, k.cl ci = some (C, fs) ∧ fs ≠ [] ∧ fs.length ≤ 900 ∧ PySem.SupX.SupT P K C fI fs ∧ mg x = some (.ref C) ∧ PySem.W.keepIn K (.ref C) = true ∧
    PySem.W.subIn K (.ref C) (.type "BaseException") = some true ∧ PySem.W.typeIn K (.ref C) = some (.type "type")
def sExc0 (ci : Nat) : FS := fun _ => .exc ⟨ci, []⟩
theorem s_raise0 {j : Nat} {p p2 pos' : Pos} {m : Str} (R : RaO X.K X.mg c.k x ci) (hc : X.calm = true) (tk : L2N.Takes X c.W) (hg : Gl X x := by rfl) (hdb : (x == ("__debug__" : Str)) = false := by decide) :
    PS' X c fr [] (.Raise (some (.Call (.Name x p) [.Constant (.str m) j p2] [] pos)) none pos') (sExc0 ci) := by
  obtain ⟨C, hcl, h1, h2, h3, h4, h5⟩ := R.ex
  refine psI (L2N.ps_raise hc tk (L2N.pmk_own PySem.F.excBase_ValueError h1 h2 h3 (raises_own h4 h5) hg hdb)) fun Dn σ H ⟨G, S, rel, p⟩ => ?_
  have p : PXs c ⟨ci, []⟩ := p
  exact p σ (.ref C) none G H rel.st ⟨C, [], hcl, rfl, .inl ⟨rfl, rfl, rfl⟩⟩
end
end M
set_option Elab.async false
set_option linter.all false
set_option maxRecDepth 100000
set_option maxHeartbeats 4000000
namespace M
open PySem L2
def PostS1 (c : Cf) (fr : Bool) (as : List Nat) (G : Hp) (S : Env) (σ : L2.St) (H : Hp) (Dn : Ends) : R (Fl × Env) → Prop
  | .ok z => PostS c fr as G S σ H Dn (.ok z)
  | .exc x => PX c σ x
  | .fail => False
theorem PostS1.of {c : Cf} {fr : Bool} {as : List Nat} {G : Hp} {S : Env} {σ : L2.St} {H : Hp} {Dn : Ends} {r : R (Fl × Env)} (p : PostS c fr as G S σ H Dn r) : PostS1 c fr as G S σ H Dn r := by
  cases r with
  | ok z => exact p
  | exc x => exact p σ
  | fail => exact p
section
variable {X : Cx} {c : Cf} {kd k1 k2 k3 : Kd} {a b e o : Expr} {f g h : FE} {t u : FT} {s r : FS} {pos apos : Pos} {fr : Bool} {x : Str} {den : List D → R D} {ci : Nat} {as bs : List Nat} {st : Stmt} {sts : List Stmt}
theorem PostS1.gr {G H G' H' : Hp} {S : Env} {σ : L2.St} {Dn : Ends} {q : R (Fl × Env)} (rel : Rel c G S σ H) (sp : Step G H G' H') (p : PostS1 c fr as G S σ H Dn q) : PostS1 c fr as G' S σ H' Dn q := by
  cases q with
  | ok z => exact PostS.gr rel sp p
  | exc x => exact p
  | fail => exact p
theorem PostS1.sub {as' : List Nat} {G H : Hp} {S : Env} {σ : L2.St} {Dn : Ends} {q : R (Fl × Env)} (hs : ∀ i, i ∈ as' → i ∈ as) (p : PostS1 c fr as G S σ H Dn q) : PostS1 c fr as' G S σ H Dn q := by
  cases q with
  | ok z => exact PostS.sub hs p
  | exc x => exact p
  | fail => exact p
theorem Rel.back {G H G' H' : Hp} {S S' : Env} {σ σ' : L2.St} {W : WX} (rel : Rel c G S σ H) (r2 : Rel ⟨c.k, H, G, W⟩ G' S' σ' H') : Rel c G' S' σ' H' :=
  ⟨rel.st.trans r2.st, r2.len, r2.fz, fun i d q => by
    obtain ⟨a, o, e, g, h0, ho, ct⟩ := r2.ow i d q
    exact ⟨a, o, e, g, rel.st.h.free h0, ho, ct⟩, r2.nd⟩
end
end M
set_option Elab.async false
set_option linter.all false
set_option maxRecDepth 100000
set_option maxHeartbeats 4000000
namespace PySem
namespace SupX
open PySem.W PySem.Spec PySem.Calls PyProof.Rows
section
variable {prog : Program} {w : World} {A : Around} {E : Value → Shared → Prop} {s : Shared} {K : Frag} {x D : Addr} {ox : Obj} {od : Option Obj}
end
end SupX
end PySem
set_option Elab.async false
set_option linter.all false
set_option maxRecDepth 100000
set_option maxHeartbeats 4000000
namespace M
open PySem L2
structure IsT (K : PySem.W.Frag) (k : Kn) (ce : Nat) (t : D) (b : Bool) : Prop where
  ex : ∃ C nm, k.cl ce = some (C, nm) ∧ ExcC K C ∧ ((∃ ci C2 nm2, t = .cls ci ∧ ci ≠ xix ∧ k.cl ci = some (C2, nm2) ∧ PySem.W.kitOne K (.ref C) (.ref C2) = some b) ∨ ∃ n, t = .ty n ∧ PySem.W.kitOne K (.ref C) (.type n) = some b)
section
variable {k : Kn} {K : PySem.W.Frag} {a : Addr}
theorem IsT.exc {ce : Nat} {t : D} {b : Bool} {C : Addr} {nm : List Str} (h : IsT K k ce t b) (hc : k.cl ce = some (C, nm)) : ExcC K C := by
  obtain ⟨C', nm', h1, h2, _⟩ := h.ex
  rw [hc] at h1; cases h1
  exact h2
theorem IsT.val {ce : Nat} {t : D} {b : Bool} {G : Hp} {v : V} {C : Addr} {nm : List Str} (h : IsT K k ce t b) (hc : k.cl ce = some (C, nm)) (r : RD (k.at a) G t v) : ∃ cv, (∀ u, RelV v u → u = cv) ∧ PySem.W.kitOne K (.ref C) cv = some b := by
  obtain ⟨C', nm', h1, h2, h3⟩ := h.ex
  rw [hc] at h1; cases h1
  rcases h3 with ⟨ci, C2, nm2, rfl, hne, h4, h5⟩ | ⟨n, rfl, h5⟩
  · cases r with
    | cls hr =>
      rw [Kn.at_cl hne, h4] at hr
      cases hr
      exact ⟨.ref C2, fun u hu => hu, h5⟩
  · cases r with
    | ty => exact ⟨.type n, fun u hu => hu, h5⟩
end
section
variable {X : Cx} {c : Cf} {k : Kn} {kd k1 k2 k3 : Kd} {e o : Expr} {f g h : FE} {pos apos : Pos} {fr : Bool} {x : Str}
structure Held (X : Cx) (k : Kn) (a : Addr) (y : Exc) (H0 G0 : Hp) : Prop where
  ex : ∃ (oe : Obj) (cls : Value) (d : Option Addr), (a, oe) ∈ X.pn ∧ Zc cls d oe ∧ (∃ vs, oe.data = .fields vs) ∧ XR ⟨k, H0, G0, liftX E0⟩ G0 y cls d H0
structure XfT (K : PySem.W.Frag) (k : Kn) (ci : Nat) (f : Str) (j : Nat) : Prop where
  ex : ∃ C nm, k.cl ci = some (C, nm) ∧ nm[j]? = some f ∧ nm.Nodup ∧ XfC K C ∧ PySem.W.findIn K (.ref C) f = some none
end
end M
set_option Elab.async false
set_option linter.all false
set_option maxRecDepth 100000
set_option maxHeartbeats 4000000
namespace M
open PySem L2 PySem.W
abbrev FnS : Type := Option (Str × Str × Arguments × FuncBody × Scope × Addr × List Str × Addr)
def supI (K : PySem.W.Frag) (x : Str) : Addr := He.ma K (He.ga K x) "__init__"
def seenS (K : PySem.W.Frag) (x : Str) : FnS := (K.lookup (supI K x)).bind fun o => match o.data with
  | .func z => some (z.name, z.qualname, z.params, z.body, z.scope, z.globals, z.closure.map (·.1), z.builtins)
  | _ => none
structure Sx where
  x : Str
  fs : List Str
  qual : Str
  params : Arguments
  body : List Stmt
  scope : Scope
def Sx.val (s : Sx) : FnS := some ("__init__", s.qual, s.params, .stmts s.body, s.scope, mainGlobals, ["__class__"], builtinsNs)
def isNone : Value → Bool
  | .none => true
  | _ => false
def exoB (K : PySem.W.Frag) (C : Addr) : Bool := match K.lookup C with
  | some ⟨.type "type", _, .cls cd, sl⟩ => (match cd.mro, sl.toList with
    | .ref C' :: bm, [_, _, _, _, some (.builtin n), _] => C' == C && (n == "ValueError.__new__" && (!cd.hasDel && (cd.hasDict && PySem.HandSPX.refsVE bm)))
    | _, _ => false)
  | _ => false
def fnB (file : Str) (K : PySem.W.Frag) (s : Sx) : Bool := match K.lookup (supI K s.x) with
  | some ⟨_, _, .func z, _⟩ => codeIn K z.code s.qual && (isNone z.defaults && (isNone z.kwdefaults && (match z.code, z.closure with
    | .ref cda, [(_, cc)] => (match K.lookup cda with
      | some ⟨_, _, .fields vs, _⟩ => (match (vs[2]? : Option Value) with
        | some (.str f _) => decide (f = file)
        | _ => false)
      | _ => false) && (match K.lookup cc with
      | some ⟨_, _, .cell (some (.ref C')), _⟩ => decide (C' = He.ga K s.x)
      | _ => false)
    | _, _ => false)))
  | _ => false
def supB (file : Str) (K : PySem.W.Frag) (s : Sx) : Bool :=
  exoB K (He.ga K s.x) && (He.eqO (findIn K (.ref (He.ga K s.x)) "__setattr__") (some (some (.builtin "object.__setattr__"))) && ((s.fs.all fun f => He.eqO (findIn K (.ref (He.ga K s.x)) f) (some none)) &&
  (He.eqO (ks_superIn K (He.ga K s.x) (He.ga K s.x) "__init__") (some (some (.builtin "ValueError.__init__"))) && (decide (subIn K (.ref (He.ga K s.x)) (.type "ValueError") = some true) && (decide (mroIn K (He.ga K s.x) (.ref (He.ga K s.x)) = some true) &&
  (He.eqO (nsIn K cStatics "thirdparty.any") (some none) && (He.eqO (findIn K (.ref (He.ga K s.x)) "__init__") (some (some (.ref (supI K s.x)))) && (decide (typeIn K (.ref (supI K s.x)) = some (.type "function")) &&
  (He.eqO (nsIn K mainGlobals "super") (some none) && (keepIn K (.ref (He.ga K s.x)) && (decide (subIn K (.ref (He.ga K s.x)) (.type "BaseException") = some true) && (decide (typeIn K (.ref (He.ga K s.x)) = some (.type "type")) && fnB file K s))))))))))))
def kwAt (w : Wh) (x : Str) (K : PySem.W.Frag) : Addr := match K.lookup (w.ad K) with
  | some ⟨_, _, .func z, _⟩ => (match z.kwdefaults with
    | .ref D => (match nsIn K D x with
      | some (some (.ref a)) => a
      | _ => 0)
    | _ => 0)
  | _ => 0
inductive XF where
  | isT (x y : Str) (b : Bool)
  | isTy (x : Str) (n : String) (b : Bool)
  | ecc (x : Str)
  | fld (x f : Str)
  | cme (x m : Str)
  | dfl (w : Wh) (x : Str) (d : D)
  | sf (x : Str)
def XF.ok (K : PySem.W.Frag) : XF → Bool
  | .isT x y b => decide (kitOne K (.ref (He.ga K x)) (.ref (He.ga K y)) = some b)
  | .isTy x n b => decide (kitOne K (.ref (He.ga K x)) (.type n) = some b)
  | .ecc x => He.eqO (findIn K (.ref (He.ga K x)) "__getattribute__") (some (some (.builtin "BaseException.__getattribute__"))) && (He.eqO (findIn K (.ref (He.ga K x)) "__getattr__") (some none) && (decide (subIn K (.ref (He.ga K x)) (.type "BaseException") = some true) && (hasDictIn K (He.ga K x) &&
    (He.eqO (findIn K (.ref (He.ga K x)) "__class__") (some (some (.builtin "object.__class__"))) && (He.eqO (specialIn K (.builtin "object.__class__") "__get__") (some (some (.builtin "getset_descriptor.__get__"))) && (decide (takesIn K (.builtin "object.__class__") = some true) && decide (mroIn K (He.ga K x) (.type "object") = some true)))))))
  | .cme x m => readsIn K (He.ga K x) (.type "type") && (He.eqO (specialIn K (.ref (He.ga K x)) "__getattribute__") (some (some (.builtin "type.__getattribute__"))) && (He5.wrapB K (He.ga K x) "classmethod" "classmethod.__get__" m && fnIn K (He5.wf K (He.ga K x) "classmethod" m)))
  | .dfl w x d => dB K d (.ref (kwAt w x K))
  | .sf x => PySem.W.selfFirst K (He.ga K x)
  | .fld x f => xfB K (He.ga K x) && He.eqO (findIn K (.ref (He.ga K x)) f) (some none)
section
variable {K : PySem.W.Frag} {cl : Nat → Option (Addr × List Str)} {x y f : Str} {n : String} {b : Bool} {ci cj j : Nat} {nm nm2 : List Str}
theorem cme_ok {m : Str} (h : (XF.cme x m).ok K = true) : ClX.CRead K (He.ga K x) (.type "type") ∧ ClX.CMet K (He.ga K x) (.type "type") m (He.ma K (He.ga K x) m) (He5.wf K (He.ga K x) "classmethod" m) := by
  obtain ⟨h1, h⟩ := He.ba h
  obtain ⟨h2, h⟩ := He.ba h
  obtain ⟨h3, h4⟩ := He.ba h
  exact ⟨⟨h1, He.eqO_ok h2⟩, He5.cmet_of h3 h4⟩
theorem dfl_ok {w : Wh} {d : D} (h : (XF.dfl w x d).ok K = true) (G : Hp) : RD ⟨K, cl⟩ G d (.ref (kwAt w x K)) := by
  obtain ⟨v, r, z⟩ := dB_ok (cl := cl) (show dB K d (.ref (kwAt w x K)) = true from h)
  cases v <;> simp only [RelV] at r <;> first | (cases r; done) | skip
  all_goals first | (obtain ⟨t, r⟩ := r; cases r; done) | (cases r; exact z G)
theorem raO_ok {mg : Str → Option Value} (h : (He.Fa.exc x).ok K = true) (hg : mg x = some (.ref (He.ga K x))) (h1 : cl ci = some (He.ga K x, [])) : RaO K mg ⟨K, cl⟩ x ci := by
  obtain ⟨a, b, c, d⟩ := He.exc_ok h
  exact ⟨_, h1, a, hg, b, c, d⟩
end
structure TryC (K : PySem.W.Frag) (mg : Str → Option Value) (k : Kn) (x : Str) (mt : Nat → Option Bool) : Prop where
  ex : ∃ cv, mg x = some cv ∧ ∀ ci b, mt ci = some b → ∃ C nm, k.cl ci = some (C, nm) ∧ PySem.W.exmOne K (.ref C) cv = some b
section
variable {X : Cx} {c : Cf} {pos : Pos} {s : FS} {as bs : List Nat}
end
theorem takes0 {X : Cx} : L2N.Takes X (liftX E0) := fun _ _ ⟨_, _, _, _, _, _, _, _, _, _, _, _, _, _, _, _, w⟩ => w.elim
abbrev AlV : Type := AlZ × (Bool × List FnS)
structure Fv where
  y : Fy
  ts : List TabI
  xs : List XF
  ss : List Sx
  file : Str
def obsV (x : Fv) (fn : List Dx) (K : PySem.W.Frag) : AlV := (obsZ x.y x.ts fn K, (x.xs.all fun f => f.ok K) && x.ss.all fun s => supB x.file K s, x.ss.map fun s => seenS K s.x)
def valHV (x : Fv) (fn : List Dx) (w : World) : AlV := (valZ x.ts fn w, true, x.ss.map fun s => s.val)
def SaysV (x : Fv) (fn : List Dx) (w : World) (K : PySem.W.Frag) : Prop := obsV x fn K = valHV x fn w
section
variable {x : Fv} {fn : List Dx} {K : PySem.W.Frag} {w : World}
theorem SaysV.z (c : SaysV x fn w K) : SaysZ x.y x.ts fn w K := congrArg (fun z : AlV => z.1) c
theorem SaysV.both (c : SaysV x fn w K) : ((x.xs.all fun f => f.ok K) && x.ss.all fun s => supB x.file K s) = true := congrArg (fun z : AlV => z.2.1) c
theorem SaysV.xf (c : SaysV x fn w K) (i : Nat) {f : XF} (h : x.xs[i]? = some f := by rfl) : f.ok K = true := List.all_eq_true.mp (He.ba c.both).1 f (List.mem_of_getElem? h)
end
end M
set_option Elab.async false
set_option linter.all false
set_option maxRecDepth 100000
set_option maxHeartbeats 4000000
namespace M
open PySem L2
def obsVL (as : List Addr) (x : Fv) (fn : List Dx) (g : Addr → Option Obj) : AlV := obsV x fn (He.frG g as)
def hookVL (as : List Addr) (x : Fv) (fn : List Dx) : PySem.W.Hook where
  α := AlV
  obs := fun s => obsVL as x fn s.heap.get?
  val := fun w => valHV x fn w
  says := fun w h => ∃ K : PySem.W.Frag, K.In h ∧ SaysV x fn w K
  of := fun _ _ e => ⟨_, He.frG_in, e⟩
  keeps := fun _ _ _ ⟨K, hK, c⟩ k => ⟨K, PySem.W.Frag.In.keeps hK k, c⟩
theorem obsVL_eq {as : List Addr} {x : Fv} {fn : List Dx} {g : Addr → Option Obj} {s : Shared} (h : ∀ a, g a = s.heap.get? a) : obsVL as x fn g = (hookVL as x fn).obs s := by
  have q : g = s.heap.get? := funext h
  subst q; rfl
def mpV : List Dx → List He.FnW
  | [] => []
  | d :: r => d.d.val :: mpV r
theorem mpV_eq : ∀ l : List Dx, mpV l = l.map fun d => d.d.val
  | [] => rfl
  | d :: r => by rw [mpV, mpV_eq r]; rfl
def mpT (w : World) : List TabI → List (Option (List (Option (Str × Int))))
  | [] => []
  | t :: r => some (He.keysIn w.params (t.2.map (·.1))) :: mpT w r
theorem mpT_eq (w : World) : ∀ l : List TabI, mpT w l = l.map fun t => some (He.keysIn w.params (t.2.map (·.1)))
  | [] => rfl
  | d :: r => by rw [mpT, mpT_eq w r]; rfl
def mpS : List Sx → List FnS
  | [] => []
  | d :: r => d.val :: mpS r
theorem mpS_eq : ∀ l : List Sx, mpS l = l.map fun s => s.val
  | [] => rfl
  | d :: r => by rw [mpS, mpS_eq r]; rfl
def valL (x : Fv) (fn : List Dx) (w : World) : AlV := (((true, mpV fn), mpT w x.ts), true, mpS x.ss)
theorem valL_eq (x : Fv) (fn : List Dx) (w : World) : valL x fn w = valHV x fn w := by
  unfold valL valHV valZ
  rw [mpV_eq, mpT_eq, mpS_eq]
end M
set_option Elab.async false
set_option linter.all false
set_option maxRecDepth 100000
set_option maxHeartbeats 0
namespace Pf
open PySem L2 M
def topS (i : Nat) : Stmt := PySem.Challenge.pw_firstbreach_k18_shares_of_each_period.main.body.getD i (.Pass ⟨0, 0, 0, 0⟩)
def clsB : Stmt → List Stmt
  | .ClassDef _ _ _ b .. => b
  | _ => []
def clsS (i j : Nat) : Stmt := (clsB (topS i)).getD j (.Pass ⟨0, 0, 0, 0⟩)
def gv_MOST_STATES : D := .int 5000
def gv_LONGEST_PERIOD : D := .int 8
abbrev st_check_supply : Stmt := topS 9
abbrev st_moves_of : Stmt := topS 10
abbrev st_Supply : Stmt := clsS 8 0
abbrev st_Supply_share : Stmt := clsS 8 1
abbrev st_Supply_after : Stmt := clsS 8 3
abbrev st_parting : Stmt := topS 14
abbrev st_shares : Stmt := topS 16
abbrev st__law_number : Stmt := topS 18
abbrev st__law_machine : Stmt := topS 19
abbrev st__law_ring : Stmt := topS 20
abbrev st__law_share : Stmt := topS 21
abbrev st__law_begins : Stmt := topS 22
abbrev st__law_drawn : Stmt := topS 23
abbrev st__law_reached : Stmt := topS 24
abbrev st__law_moves : Stmt := topS 25
abbrev st__law_after : Stmt := topS 26
abbrev st__law_parting : Stmt := topS 27
abbrev st__law_low : Stmt := topS 28
abbrev st__law_boundaries : Stmt := topS 29
abbrev st__law_is_int : Stmt := topS 30
abbrev st__law_is_word : Stmt := topS 31
abbrev st__law_stays : Stmt := topS 32
abbrev st__law_are_rows : Stmt := topS 33
abbrev st_law : Stmt := topS 34
def dd_check_supply : Dx := ⟨.glo "check_supply", ⟨("", none), "check_supply", "check_supply", defArgs st_check_supply, defBody st_check_supply, defScope st_check_supply, [], []⟩⟩
def dd_moves_of : Dx := ⟨.glo "moves_of", ⟨("", none), "moves_of", "moves_of", defArgs st_moves_of, defBody st_moves_of, defScope st_moves_of, [], []⟩⟩
def dd_Supply : Dx := ⟨.met "Supply" "__init__", ⟨("", none), "__init__", "Supply.__init__", defArgs st_Supply, defBody st_Supply, defScope st_Supply, [], [("starts", .adr (kwAt (.met "Supply" "__init__") "starts"))]⟩⟩
def dd_Supply_share : Dx := ⟨.cme "Supply" "share", ⟨("", none), "share", "Supply.share", defArgs st_Supply_share, defBody st_Supply_share, defScope st_Supply_share, [], []⟩⟩
def dd_Supply_after : Dx := ⟨.met "Supply" "after", ⟨("", none), "after", "Supply.after", defArgs st_Supply_after, defBody st_Supply_after, defScope st_Supply_after, [], []⟩⟩
def dd_parting : Dx := ⟨.glo "parting", ⟨("", none), "parting", "parting", defArgs st_parting, defBody st_parting, defScope st_parting, [], []⟩⟩
def dd_shares : Dx := ⟨.glo "shares", ⟨("", none), "shares", "shares", defArgs st_shares, defBody st_shares, defScope st_shares, [], []⟩⟩
def dd__law_number : Dx := ⟨.glo "_law_number", ⟨("", none), "_law_number", "_law_number", defArgs st__law_number, defBody st__law_number, defScope st__law_number, [], []⟩⟩
def dd__law_machine : Dx := ⟨.glo "_law_machine", ⟨("", none), "_law_machine", "_law_machine", defArgs st__law_machine, defBody st__law_machine, defScope st__law_machine, [], []⟩⟩
def dd__law_ring : Dx := ⟨.glo "_law_ring", ⟨("", none), "_law_ring", "_law_ring", defArgs st__law_ring, defBody st__law_ring, defScope st__law_ring, [], []⟩⟩
def dd__law_share : Dx := ⟨.glo "_law_share", ⟨("", none), "_law_share", "_law_share", defArgs st__law_share, defBody st__law_share, defScope st__law_share, [], []⟩⟩
def dd__law_begins : Dx := ⟨.glo "_law_begins", ⟨("", none), "_law_begins", "_law_begins", defArgs st__law_begins, defBody st__law_begins, defScope st__law_begins, [], []⟩⟩
def dd__law_drawn : Dx := ⟨.glo "_law_drawn", ⟨("", none), "_law_drawn", "_law_drawn", defArgs st__law_drawn, defBody st__law_drawn, defScope st__law_drawn, [], []⟩⟩
def dd__law_reached : Dx := ⟨.glo "_law_reached", ⟨("", none), "_law_reached", "_law_reached", defArgs st__law_reached, defBody st__law_reached, defScope st__law_reached, [], []⟩⟩
def dd__law_moves : Dx := ⟨.glo "_law_moves", ⟨("", none), "_law_moves", "_law_moves", defArgs st__law_moves, defBody st__law_moves, defScope st__law_moves, [], []⟩⟩
def dd__law_after : Dx := ⟨.glo "_law_after", ⟨("", none), "_law_after", "_law_after", defArgs st__law_after, defBody st__law_after, defScope st__law_after, [], []⟩⟩
def dd__law_parting : Dx := ⟨.glo "_law_parting", ⟨("", none), "_law_parting", "_law_parting", defArgs st__law_parting, defBody st__law_parting, defScope st__law_parting, [], []⟩⟩
def dd__law_low : Dx := ⟨.glo "_law_low", ⟨("", none), "_law_low", "_law_low", defArgs st__law_low, defBody st__law_low, defScope st__law_low, [], []⟩⟩
def dd__law_boundaries : Dx := ⟨.glo "_law_boundaries", ⟨("", none), "_law_boundaries", "_law_boundaries", defArgs st__law_boundaries, defBody st__law_boundaries, defScope st__law_boundaries, [], []⟩⟩
def dd__law_is_int : Dx := ⟨.glo "_law_is_int", ⟨("", none), "_law_is_int", "_law_is_int", defArgs st__law_is_int, defBody st__law_is_int, defScope st__law_is_int, [], []⟩⟩
def dd__law_is_word : Dx := ⟨.glo "_law_is_word", ⟨("", none), "_law_is_word", "_law_is_word", defArgs st__law_is_word, defBody st__law_is_word, defScope st__law_is_word, [], []⟩⟩
def dd__law_stays : Dx := ⟨.glo "_law_stays", ⟨("", none), "_law_stays", "_law_stays", defArgs st__law_stays, defBody st__law_stays, defScope st__law_stays, [], []⟩⟩
def dd__law_are_rows : Dx := ⟨.glo "_law_are_rows", ⟨("", none), "_law_are_rows", "_law_are_rows", defArgs st__law_are_rows, defBody st__law_are_rows, defScope st__law_are_rows, [], []⟩⟩
def dd_law : Dx := ⟨.glo "law", ⟨("", none), "law", "law", defArgs st_law, defBody st_law, defScope st_law, [], []⟩⟩
def fn : List Dx := [dd_check_supply, dd_moves_of, dd_Supply, dd_Supply_share, dd_Supply_after, dd_parting, dd_shares, dd__law_number, dd__law_machine, dd__law_ring, dd__law_share, dd__law_begins, dd__law_drawn, dd__law_reached, dd__law_moves, dd__law_after, dd__law_parting, dd__law_low, dd__law_boundaries, dd__law_is_int, dd__law_is_word, dd__law_stays, dd__law_are_rows, dd_law]
def ftab : List TabI := []
def fx : Fy := ⟨[.glo "check_supply", .glo "moves_of", .glo "parting", .glo "shares", .glo "_law_number", .glo "_law_machine", .glo "_law_ring", .glo "_law_share", .glo "_law_begins", .glo "_law_drawn", .glo "_law_reached", .glo "_law_moves", .glo "_law_after", .glo "_law_parting", .glo "_law_low", .glo "_law_boundaries", .glo "_law_is_int", .glo "_law_is_word", .glo "_law_stays", .glo "_law_are_rows", .glo "law", .free "abs", .free "bool", .free "enumerate", .free "int", .free "isinstance", .free "len", .free "list", .free "min", .free "range", .free "set", .free "sorted", .free "tuple", .glo "Supply", .cls "Supply", .mkr "Supply", .noat "Supply" "size", .noat "Supply" "steps", .noat "Supply" "starts", .noat "Supply" "moves", .meth "Supply" "after", .glo "InvalidSupply", .exc "InvalidSupply"], [("MOST_STATES", gv_MOST_STATES), ("LONGEST_PERIOD", gv_LONGEST_PERIOD)], [], []⟩
def fv : Fv := ⟨fx, ftab, [.dfl (.met "Supply" "__init__") "starts" (.tup [.int 0]), .cme "Supply" "share"], [], "/claim/cut.py"⟩
def clK (K : PySem.W.Frag) : Nat → Option (Addr × List Str) := fun i => if i = 3 then some (He.ga K "Supply", ["size", "steps", "starts", "moves"]) else if i = 202 then some (He.ga K "InvalidSupply", []) else none
def looseN : List Str := (["_wall", "BreachError", "InvalidSupply", "NothingCommon", "MOST_STATES", "LONGEST_PERIOD", "Supply", "check_supply", "moves_of", "joint_steps", "both", "parting", "shares", "_law_number", "_law_machine", "_law_ring", "_law_share", "_law_begins", "_law_drawn", "_law_reached", "_law_moves", "_law_after", "_law_parting", "_law_low", "_law_boundaries", "_law_is_int", "_law_is_word", "_law_stays", "_law_are_rows"] : List Str)
abbrev Rw : PySem.W.OpenRow := PySem.W.OpenLaw.row PySem.Challenge.rw_firstbreach_k18_shares_of_each_period
end Pf
set_option Elab.async false
set_option linter.all false
set_option maxRecDepth 100000
set_option maxHeartbeats 0
namespace Pf
open PySem L2 M
def asL : List Addr := [2, 3, 6, 4, 21, 31, 44, 56, 136, 145, 152, 157, 162, 167, 174, 181, 188, 193, 198, 205, 212, 219, 226, 233, 240, 247, 252, 259, 266, 273, 280, 285, 0, 20, 30, 43, 55, 135, 144, 151, 156, 161, 166, 173, 180, 187, 192, 197, 204, 211, 218, 225, 232, 239, 246, 251, 258, 265, 272, 279, 284, 15, 16, 17, 18, 19, 29, 32, 42, 54, 72, 79, 89, 95, 102, 109, 116, 121, 128, 133, 134, 137, 138, 141, 142, 143, 146, 147, 148, 149, 150, 153, 154, 155, 158, 159, 160, 163, 164, 165, 168, 169, 170, 171, 172, 175, 176, 177, 178, 179, 182, 183, 184, 185, 186, 189, 190, 191, 194, 195, 196, 199, 200, 201, 202, 203, 206, 207, 208, 209, 210, 213, 214, 215, 216, 217, 220, 221, 222, 223, 224, 227, 228, 229, 230, 231, 234, 235, 236, 237, 238, 241, 242, 243, 244, 245, 248, 249, 250, 253, 254, 255, 256, 257, 260, 261, 262, 263, 264, 267, 268, 269, 270, 271, 274, 275, 276, 277, 278, 281, 282, 283, 71, 67, 77, 78, 87, 88, 94, 101, 108, 115, 120, 127, 132, 68, 69, 70, 66, 76, 80, 86, 90, 91, 92, 93, 96, 97, 98, 99, 100, 103, 104, 105, 106, 107, 110, 111, 112, 113, 114, 117, 118, 119, 122, 123, 124, 125, 126, 129, 130, 131]
abbrev hk : PySem.W.Hook := hookVL asL fv fn
def ob (s : PySem.W.SharedT) : AlV := obsVL asL fv fn (HandSHeadRun.getT s)
theorem ob_eq (s : PySem.W.SharedT) : ob s = hk.obs s.abs := obsVL_eq (HandSHeadRun.getT_eq s)
theorem runParts {σ α β γ : Type} {x : Option σ} {f1 : σ → α} {f2 : σ → β} {f3 : σ → γ} {a : α} {b : β} {c : γ} (h1 : x.map (fun s => (f1 s, f2 s)) = some (a, b)) (h2 : x.map (fun s => f3 s) = some c) : x.map (fun s => (f1 s, f2 s, f3 s)) = some (a, b, c) := by
  cases x with
  | none => cases h1
  | some s =>
    have e1 : (f1 s, f2 s) = (a, b) := Option.some.inj h1
    have e2 : f3 s = c := Option.some.inj h2
    cases e1; cases e2; rfl
section
open HandSHeadRun PySem.W
theorem run2 (w : World) (os : OsState) : (endF (stepQ (denQ tabQ) Rw.prog w) 4000 Rw.prog w os).map (fun s => ob s) = some (valL fv fn w) := by kernel_rfl
theorem run1 (w : World) (os : OsState) : (endF (stepQ (denQ tabQ) Rw.prog w) 4000 Rw.prog w os).map (fun s => (looksF Rw.prog (boot_heap w.params) s.abs, seenQ (PySem.W.view Rw.prog [34]) looseN (importedModules Rw.prog.main.body) (fun s => xlAt (PySem.W.view Rw.prog [34]) [] s && recOk Rw.toRowW.records s) s.abs)) = some (true, openGood (PySem.W.view Rw.prog [34]) looseN) := by kernel_rfl
theorem run (w : World) : RunEq Rw (PySem.W.view Rw.prog [34]) hk ob 4000 looseN w := fun os => runParts (run1 w os) ((run2 w os).trans (by rw [valL_eq]; rfl))
end
end Pf
set_option Elab.async false
set_option linter.all false
set_option maxRecDepth 100000
set_option maxHeartbeats 4000000
namespace M
open PySem L2
section
variable {X : Cx} {c : Cf} {a b e o : Expr} {f g h : FE} {pos apos : Pos} {x : Str} {den : List D → R D}
theorem d_callXS {lv m n : Nat} {p : Pos} {es : List Expr} {fa : FA} (F : CalleeX X.prog X.w X.K X.mg X.base c.k lv x n false den) (hr : Room m X.A) (hle : lv ≤ m) (tk : L2N.Takes X c.W) (ha : PA' X c false (e :: es) fa) (hl : Len n fa) (hg : Gl X x := by rfl) (hdb : (x == ("__debug__" : Str)) = false := by decide)
    (hs : starEach (e :: es) X.env = (false, eval e X.env) :: starEach es X.env := by rfl) (hs2 : ((backTo pos (starEach es X.env)).any fun x => x.1) = false := by rfl) : PE' X c .st (.Call (.Name x p) (e :: es) [] pos) (eCX den fa) := d_callX F hr hle tk ha hl hg hdb hs hs2
end
end M
set_option Elab.async false
set_option linter.all false
set_option maxRecDepth 100000
set_option maxHeartbeats 4000000
namespace M
open PySem L2
structure MakerXD (P : Program) (w : World) (K : PySem.W.Frag) (mg : Str → Option Value) (base : Heap) (k : Kn) (lv : Nat) (x : Str) (ci n : Nat) (dd : List D) (den : List D → R D) : Prop where
  ex : ∃ (C f : Addr) (fd : FuncData) (ps nm : List Str) (dvs : List V) (ds : List Value), k.cl ci = some (C, nm) ∧ Mk K C f ∧ FnOk P w K mg base (L2N.CX P w) lv f fd ps (SpN k ci (n + dd.length + 1) den) ∧ mg x = some (.ref C) ∧ Binds K fd ps ds ∧ Vals dvs ds ∧ ∀ G, RDs k G dd dvs
structure CmethX (P : Program) (w : World) (K : PySem.W.Frag) (mg : Str → Option Value) (base : Heap) (k : Kn) (lv : Nat) (ci : Nat) (m : Str) (n : Nat) (fr : Bool) (den : List D → R D) : Prop where
  ex : ∃ (C p g : Addr) (mc : Value) (fd : FuncData) (ps nm : List Str), ps.length = n ∧ k.cl ci = some (C, nm) ∧ ClX.CRead K C mc ∧ ClX.CMet K C mc m p g ∧ FnOk P w K mg base (L2N.CX P w) lv g fd ps (SpF k fr n den) ∧ Binds K fd ps []
section
variable {X : Cx} {c : Cf} {kd k1 k2 k3 : Kd} {a b e o : Expr} {f g h : FE} {pos apos : Pos} {fr : Bool} {x : Str} {den : List D → R D} {ci : Nat}
theorem run_makeSD {CX : CXT} {k : Nat} {C f : Addr} {fd : FuncData} {ps : List Str} {sp : Sp} {E : XK} {pins : List (Addr × Obj)} {σ : L2.St} {H : Hp} {s : Shared} {Q : VK} {us ds : List Value} {vs dvs : List V} (Mm : Mk X.K C f) (F : FnOk X.prog X.w X.K X.mg X.base CX k f fd ps sp) (hr : Room (k + 1) X.A) (hb : Binds X.K fd ps ds) (hd : Vals dvs ds)
    (hx : ∀ (H : Hp) (s : Shared) (e : Value) (s' : Shared), L2.Inv X pins σ H s → CX X.stack H s E e s' → X.xe e s') (I : L2.Inv X pins σ H s) (r : Vals vs us)
    (h : ∀ x dx, H x = none → H dx = none → dx ≠ x → sp (.ref x :: (vs ++ dvs)) (upd (upd H dx (.own x)) x (.ins C dx [])) (fun v H2 => v = .non ∧ Q (.ref x) H2) E) :
    wpAny (model X.prog X.w) X.A (call (.ref C) us) (EP X pins σ Q) X.xe s := by
  have hq := h (s.heap.objs.size + 1) s.heap.objs.size (I.hok.fresh (Nat.le_succ _)) (I.hok.fresh (Nat.le_refl _)) (Nat.ne_of_lt (Nat.lt_succ_self _))
  have I2 := L2.Inv.made (C := C) I
  have r2 : Vals (V.ref (s.heap.objs.size + 1) :: (vs ++ dvs)) (Value.ref (s.heap.objs.size + 1) :: (us ++ ds)) := .cons rfl (r.append hd)
  have hl : (Value.ref (s.heap.objs.size + 1) :: (us ++ ds)).length = ps.length := by
    have e := r2.length
    rw [F.len _ _ _ _ hq] at e
    exact e.symm
  have bb := hb _ (Value.ref (s.heap.objs.size + 1) :: us) I2.kIn (by rw [← hl]; rfl)
  have bb : BindsTo _ fd ⟨Value.ref (s.heap.objs.size + 1) :: us, []⟩ (ps.zip (Value.ref (s.heap.objs.size + 1) :: (us ++ ds))) := bb
  refine wpAny_call (make_map (f := f) I.kIn Mm.makes Mm.init (beq_iff_eq.mp Mm.fn) (codeAny_mono (F.run _ X.stack _ _ ⟨Value.ref (s.heap.objs.size + 1) :: us, []⟩ (Value.ref (s.heap.objs.size + 1) :: (us ++ ds)) _ _ E (hr.make C us [])
    (I2.env0.make C us []) bb r2 hq) fun r s' hq' => ?_))
  cases r with
  | error e => exact hx _ _ e s' I2 hq'
  | ok fl =>
    cases fl with
    | ret u =>
      obtain ⟨v, H', I3, rv, ev, q3⟩ := I2.after hq'
      subst ev
      exact ⟨rv, ⟨V.ref (s.heap.objs.size + 1), H', I3, rfl, q3⟩⟩
    | next => exact False.elim hq'
    | brk => exact False.elim hq'
    | cont => exact False.elim hq'
def tMakeSD (C : Addr) (sp : Sp) (dvs : List V) (E : L2.St → XK) (t : TA) : TE := fun σ H Q => t σ H fun vs H1 => ∀ x dx, H1 x = none → H1 dx = none → dx ≠ x → sp (.ref x :: (vs ++ dvs)) (upd (upd H1 dx (.own x)) x (.ins C dx [])) (fun v H2 => v = .non ∧ Q (.ref x) H2) (E σ)
def tMakeSL (i : Nat) (C : Addr) (sp : Sp) (dvs : List V) (E : L2.St → XK) (t : TA) : TE := fun σ H Q => σ[i]? = some (some (.ref C)) ∧ tMakeSD C sp dvs E t σ H Q
theorem pe_makeSL {CX : CXT} {E : L2.St → XK} {i k : Nat} {C f : Addr} {fd : FuncData} {ps : List Str} {sp : Sp} {p : Pos} {es : List Expr} {t : TA} {dvs : List V} {ds : List Value} (Mm : Mk X.K C f) (F : FnOk X.prog X.w X.K X.mg X.base CX k f fd ps sp) (hr : Room (k + 1) X.A) (hN : X.N[i]? = some x) (hv : Vis X.env.scope x) (hb : Binds X.K fd ps ds) (hd : Vals dvs ds) (hx : ∀ σ, PassesAt CX X σ (E σ))
    (ha : PA X (e :: es) t) (hdb : (x == ("__debug__" : Str)) = false := by decide) (hcd : (x == ("__classdict__" : Str)) = false := by decide) (he : starEach (e :: es) X.env = (false, eval e X.env) :: starEach es X.env := by rfl) (hpl : (backTo pos (starEach es X.env)).any (·.1) = false := by rfl) :
    PE X (.Call (.Name x p) (e :: es) [] pos) (tMakeSL i C sp dvs E t) := by
  refine ⟨fun pins s σ H Q I ⟨hs, h⟩ => ?_⟩
  refine wpAny_Call_Name_kw (thn ((pe_var (pos := p) hN hv hdb hcd).run pins s σ H (fun v H1 => v = .ref C ∧ H1 = H) I ⟨.ref C, hs, rfl, rfl⟩) fun u s1 ⟨v, H1, I1, r1, q1⟩ => ?_)
  obtain ⟨rfl, rfl⟩ := q1
  cases r1
  refine PySem.W.callWith_K (h₀ := X.base) I.ok.mod.kin Mm.kp (thn (ha.run pos pins s1 σ _ _ I1 h) fun us s2 ⟨vs, H2, I2, r, q⟩ => ⟨I2.kIn, ?_⟩) he hpl
  exact run_makeSD Mm F hr hb hd (fun H s e s' => hx σ pins H s e s') I2 r q
def eCXD (dd : List D) (o : List D → R D) (g : FA) : FE := fun S => g S >>= fun xs => o (xs ++ dd)
theorem makeXD_go {C : Addr} {nm : List Str} {n : Nat} {fa : FA} {σ : L2.St} {H : Hp} {Q : VK} {dd : List D} {dvs : List V} (hd : ∀ G, RDs c.k G dd dvs) (hcl : c.k.cl ci = some (C, nm)) (hl : Len n fa) (q : RdE c .fr (eCXD dd den fa) σ H Q) :
    RdA c false fa σ H fun vs H1 => ∀ x dx, H1 x = none → H1 dx = none → dx ≠ x → SpN c.k ci (n + dd.length + 1) den (.ref x :: (vs ++ dvs)) (upd (upd H1 dx (.own x)) x (.ins C dx [])) (fun v H2 => v = .non ∧ Q (.ref x) H2) (WE c.W σ) := by
  obtain ⟨G, S, rel, p⟩ := q
  have p : PostE c .fr G S σ H Q (fa S >>= fun ds => den (ds ++ dd)) := p
  refine ⟨G, S, rel, ?_⟩
  cases e0 : fa S with
  | exc x => rw [e0] at p; exact p
  | fail => rw [e0] at p; exact p
  | ok ds =>
    rw [e0] at p
    intro vs G1 H1 s1 q1 x dx hx hdx hne
    have q1 : RDs c.k G1 ds vs := q1
    have q2 : RDs c.k G1 (ds ++ dd) (vs ++ dvs) := q1.append (hd G1)
    have hgx : G1 x = none := s1.gh.free hx
    have ex1 : Ex H1 (upd (upd H1 dx (.own x)) x (.ins C dx [])) := (Ex.new hdx).upd hx
    refine ⟨by simp [← q1.length, hl S ds e0, (hd G1).length], x, vs ++ dvs, G1, ds ++ dd, C, dx, nm, rfl, hcl, upd_same, hgx, s1.gh.trans ex1, q2, ?_⟩
    have p : PostE c .fr G S σ H Q (den (ds ++ dd)) := p
    cases e1 : den (ds ++ dd) with
    | ok d =>
      rw [e1] at p
      intro G' H' o ex hk gh hgx' gr ho ct
      refine ⟨rfl, p _ G' H' (s1.trans ⟨ex, fun b u q => hk b u (ne_of_none q hx) (ex1 b u q), gh, fun b u q => ?_⟩) ⟨x, o, rfl, hgx', s1.h.free hx, ho, ct⟩⟩
      rcases gr b u q with z | z
      · exact .inl z
      · exact .inr (ex1.free z)
    | exc y =>
      rw [e1] at p
      have p : PX c σ y := p
      intro _ cls da G' H' s2 xr
      have exl : Ex H1 (less (upd (upd H1 dx (.own x)) x (.ins C dx [])) x) := fun b u q => by
        rw [less_ne (ne_of_none q hx)]; exact ex1 b u q
      refine p cls da G' H' ((rel.grow s1).st.trans ⟨s2.g, fun b u q => s2.h b u (exl b u q), s2.gh, fun b u q => ?_⟩) xr
      rcases s2.gr b u q with z | z
      · exact .inl z
      · exact .inr (exl.free z)
    | fail => rw [e1] at p; exact p.elim
def isClsD (ci : Nat) : D → Bool
  | .cls c => decide (c = ci)
  | _ => false
def eCXL (i ci : Nat) (dd : List D) (o : List D → R D) (g : FA) : FE := fun S => eV i S >>= fun d => if isClsD ci d then eCXD dd o g S else .fail
theorem d_makerXL (i : Nat) {lv m' n : Nat} {dd : List D} {p : Pos} {y : Str} {es : List Expr} {fa : FA} (F : MakerXD X.prog X.w X.K X.mg X.base c.k lv y ci n dd den) (hr : Room m' X.A) (hle : lv + 1 ≤ m') (tk : L2N.Takes X c.W) (ha : PA' X c false (e :: es) fa) (hl : Len n fa) (hN : X.N[i]? = some x := by rfl) (hv : Vis X.env.scope x := by first | exact Or.inl rfl | exact Or.inr (Or.inl rfl) | exact Or.inr (Or.inr rfl)) (hdb : (x == ("__debug__" : Str)) = false := by decide) (hcd : (x == ("__classdict__" : Str)) = false := by decide)
    (hs : starEach (e :: es) X.env = (false, eval e X.env) :: starEach es X.env := by rfl) (hs2 : ((backTo pos (starEach es X.env)).any fun x => x.1) = false := by rfl) : PE' X c .fr (.Call (.Name x p) (e :: es) [] pos) (eCXL i ci dd den fa) := by
  obtain ⟨C, f, fd, ps, nm, dvs, ds, hcl, mk, ok, hm, hb, hd, hdd⟩ := F.ex
  refine peI (pe_makeSL mk ok (hr.mono hle) hN hv hb hd (fun σ => L2N.passAt tk σ) ha hdb hcd hs hs2) fun σ H Q ⟨G, S, rel, q⟩ => ?_
  have q : PostE c .fr G S σ H Q (eV i S >>= fun d => if isClsD ci d then eCXD dd den fa S else .fail) := q
  cases e0 : eV i S with
  | exc x => exact absurd e0 eV_exc
  | fail => rw [e0] at q; exact q.elim
  | ok d =>
    rw [e0, R.ok_bind] at q
    by_cases hd0 : isClsD ci d = true
    · rw [if_pos hd0] at q
      refine ⟨?_, makeXD_go hdd hcl hl ⟨G, S, rel, q⟩⟩
      unfold eV at e0
      split at e0
      · rename_i d' hS
        cases e0
        obtain ⟨v, hσ, hv⟩ := rel.fz i _ hS
        cases d with
        | cls c' =>
          have hc : c' = ci := by simpa [isClsD] using hd0
          subst hc
          cases hv with
          | cls h => rw [hcl] at h; cases h; exact hσ
        | _ => simp [isClsD] at hd0
      · cases e0
    · rw [if_neg hd0] at q; exact q.elim
def tCMethS (C : Addr) (sp : Sp) (E : L2.St → XK) (ta : TE) (t : TA) : TE := fun σ H Q => ta σ H fun x H1 => x = .ref C ∧ t σ H1 fun vs H2 => sp (.ref C :: vs) H2 Q (E σ)
theorem pe_cmethS {CX : CXT} {E : L2.St → XK} {k : Nat} {C p g : Addr} {mc : Value} {fd : FuncData} {ps : List Str} {sp : Sp} {m : Str} {es : List Expr} {ta : TE} {t : TA} {pl : Sem Bool} (he : PE X o ta) (r : ClX.CRead X.K C mc) (cm : ClX.CMet X.K C mc m p g) (F : FnOk X.prog X.w X.K X.mg X.base CX k g fd ps sp) (hr : Room k X.A) (hb : Binds X.K fd ps []) (hx : ∀ σ, PassesAt CX X σ (E σ)) (ha : PA X (e :: es) t)
    (hst : starEach (e :: es) X.env = (false, eval e X.env) :: starEach es X.env := by rfl) (hpl : (backTo pos (starEach es X.env)).any (·.1) = false := by rfl)
    (ht : eval (.Call (.Attribute o m apos) (e :: es) [] pos) X.env = (do
      let ov ← eval o X.env
      standAt apos.atName
      let (f, first) ← holding [ov] (getMethod ov m pl)
      callWith pos f first (backTo pos (starEach (e :: es) X.env)) (backToKw pos (keywordEach [] X.env))) := by rfl) :
    PE X (.Call (.Attribute o m apos) (e :: es) [] pos) (tCMethS C sp E ta t) := by
  refine ⟨fun pins s σ H Q I h => ?_⟩
  refine PySem.W.methodCall_KW (pl := pl) (thn (he.run pins s σ H _ I h) fun u s1 ⟨x, H1, I1, rx, ex, q⟩ => ?_) ht
  subst ex
  obtain rfl : u = Value.ref C := rx
  refine ClX.getmethcm_ok I1 r cm fun s2 I2 => ?_
  refine ClX.callwith_cm I2 (ClX.base_none I1 (Nat.le_refl _)) cm.fi (thn (ha.run pos _ s2 σ H1 _ I2 q) fun us s3 ⟨vs, H2, I3, rv, q2⟩ => ⟨⟨ClX.pin_at I3, I3.kIn⟩, ?_⟩) hst hpl
  have r2 : Vals (V.ref C :: vs) (Value.ref C :: us) := .cons rfl rv
  have hl : (Value.ref C :: us).length = ps.length := by rw [← r2.length]; exact F.len _ _ _ _ q2
  have bb := hb s3 (Value.ref C :: us) I3.kIn (by rw [List.append_nil]; exact hl)
  rw [List.append_nil] at bb
  have z : wpAny (model X.prog X.w) X.A (call (.ref s1.heap.objs.size) us) (EP X ((s1.heap.objs.size, PySem.W.methodObj (.ref g) (.ref C)) :: pins) σ Q) X.xe s3 :=
    wpAny_call (PySem.W.method_call (ClX.pin_at I3) (codeAny_mono (F.run X.A X.stack s3 H2 ⟨Value.ref C :: us, []⟩ (Value.ref C :: us) (V.ref C :: vs) Q _ hr I3.env0 bb r2 q2) fun r s' hq => by
      cases r with
      | error e => exact hx σ _ H2 s3 e s' I3 hq
      | ok fl =>
        cases fl with
        | ret u => exact I3.after hq
        | next => exact False.elim hq
        | brk => exact False.elim hq
        | cont => exact False.elim hq))
  exact thn z fun _ _ y => ClX.unpinE y
def eCMX (ci : Nat) (den : List D → R D) (f : FE) (fa : FA) : FE := fun S => f S >>= fun o => if isClsD ci o then fa S >>= fun ds => den (o :: ds) else .fail
theorem d_cmethX {lv m' : Nat} (ci : Nat) {m : Str} {n : Nat} {es : List Expr} {fa : FA} {pl : Sem Bool} (F : CmethX X.prog X.w X.K X.mg X.base c.k lv ci m (n + 1) fr den) (hr : Room m' X.A) (hle : lv ≤ m') (tk : L2N.Takes X c.W) (ho : PE' X c .st o f) (ha : PA' X c false (e :: es) fa) (hl : Len n fa)
    (hst : starEach (e :: es) X.env = (false, eval e X.env) :: starEach es X.env := by rfl) (hpl : (backTo pos (starEach es X.env)).any (·.1) = false := by rfl)
    (ht : eval (.Call (.Attribute o m apos) (e :: es) [] pos) X.env = (do
      let ov ← eval o X.env
      standAt apos.atName
      let (f, first) ← holding [ov] (getMethod ov m pl)
      callWith pos f first (backTo pos (starEach (e :: es) X.env)) (backToKw pos (keywordEach [] X.env))) := by rfl) :
    PE' X c (kdOf fr) (.Call (.Attribute o m apos) (e :: es) [] pos) (eCMX ci den f fa) := by
  obtain ⟨C, p, g, mc, fd, ps, nm, hn, hcl, cr, cm, ok, bd⟩ := F.ex
  refine peI (pe_cmethS ho cr cm ok (hr.mono hle) bd (fun σ => L2N.passAt tk σ) ha hst hpl ht) fun σ H Q ⟨G, S, rel, q⟩ => ?_
  refine rdE_go (g := fun o => if isClsD ci o then fa S >>= fun ds => den (o :: ds) else .fail) (Post := PostE c (kdOf fr) G S σ H Q) rel q (fun _ z => z) (fun z => z) fun d v G1 H1 s1 q1 p1 => ?_
  by_cases ho : isClsD ci d = true
  · rw [if_pos ho] at p1
    cases d with
    | cls c' =>
      have hc : c' = ci := by simpa [isClsD] using ho
      subst hc
      have q1 : RD c.k G1 (.cls c') v := q1
      cases q1 with
      | cls h =>
        rw [hcl] at h; cases h
        refine ⟨rfl, G1, S, rel.grow s1, ?_⟩
        cases e0 : fa S with
        | exc x => rw [e0] at p1; exact p1
        | fail => rw [e0] at p1; exact p1
        | ok as =>
          rw [e0] at p1
          intro vs G2 H2 s2 q2
          have q2 : RDs c.k G2 as vs := q2
          refine ⟨by simp [← q2.length, hl S as e0], G2, .cls c' :: as, s2.gh, .cons (.cls hcl) q2, ?_⟩
          have p1 : PostE c (kdOf fr) G S σ H Q (den (.cls c' :: as)) := p1
          cases e1 : den (.cls c' :: as) with
          | ok d => rw [e1] at p1; exact fun v G' H' s3 r3 => p1 v G' H' ((s1.trans s2).trans s3) (r3.mono (s1.h.trans s2.h))
          | exc x =>
            rw [e1] at p1
            have p1 : PX c σ x := p1
            exact fun _ cls da G' H' s3 xr => p1 cls da G' H' ((rel.grow (s1.trans s2)).st.trans s3) xr
          | fail => rw [e1] at p1; exact p1.elim
    | _ => simp [isClsD] at ho
  · rw [if_neg ho] at p1; exact p1.elim
end
end M
set_option Elab.async false
set_option linter.all false
set_option maxRecDepth 100000
set_option maxHeartbeats 4000000
namespace M
open PySem L2 PyProof.Rows
def keyT : D → Option (List Key)
  | .tup ds => if 1 < ds.length ∧ ds.length < 4 ∧ ds.all isStrD = false then keysD ds else none
  | _ => none
section
variable {k : Kn} {G H : Hp}
theorem strs_back : ∀ {ds : List D} {vs : List V}, RDs k G ds vs → (vs.all fun x => match x with | .str _ => true | _ => false) = true → ds.all isStrD = true
  | _, _, .nil, _ => rfl
  | d :: ds, v :: vs, .cons a b, h => by
    rw [List.all_cons, Bool.and_eq_true] at h
    rw [List.all_cons, strs_back b h.2, Bool.and_true]
    have h1 := h.1
    split at h1
    · cases a; rfl
    · cases h1
theorem keyT_now (e : Ex G H) {d : D} {v : V} {q : List Key} (h : keyT d = some q) (n : Now k G H d v) : ∃ b, v = .ref b ∧ H b = some (.tup (q.map kV)) := by
  unfold keyT at h
  split at h
  · rename_i ds
    split at h
    · rename_i hc
      obtain ⟨a, vs, rfl, ha, r⟩ := n.tup
      obtain rfl := keysD_rd h r
      refine ⟨a, rfl, ?_⟩
      rcases ha with ha | ⟨o, its, m, _, _, _, _, _, oc⟩
      · exact e _ _ ha
      · exfalso
        have hl := r.length
        unfold okC at oc
        rw [← hl] at oc
        simp only [Bool.or_eq_true, decide_eq_true_eq] at oc
        rcases oc with z | z | z
        · omega
        · omega
        · rw [strs_back r z] at hc; exact absurd hc.2.2 (by simp)
    · cases h
  · cases h
def dlook (d y : D) : Option (Option D) := match d with
  | .dic ks ds => (keyD y).map fun q => getL ks ds q
  | .dit ks ds => (keyT y).map fun q => getL ks ds q
  | .dkf ks ds => (keyD y).map fun q => getL ks ds q
  | _ => none
theorem dlook_go (e : Ex G H) {d y : D} {u v : V} {o : Option D} (nx : Now k G H d u) (ny : Now k G H y v) (h : dlook d y = some o) :
    ∃ a ov, u = .ref a ∧ DGet H a v ov ∧ (∀ r, o = some r → ∃ w, ov = some w ∧ RD k G r w) ∧ (o = none → ov = none) := by
  cases d with
  | dic ks ds =>
    obtain ⟨q, hq, rfl⟩ := Option.map_eq_some_iff.mp h
    obtain ⟨a, vs, rfl, ha, hl, r⟩ := nx.dic e
    obtain rfl := keyD_now hq ny
    exact ⟨a, _, rfl, DGet.k ha, (getL_val hl r).1, (getL_val hl r).2⟩
  | dit ks ds =>
    obtain ⟨q, hq, rfl⟩ := Option.map_eq_some_iff.mp h
    obtain ⟨a, vs, rfl, ha, hl, r⟩ := nx.dit e
    obtain ⟨b, rfl, hb⟩ := keyT_now e hq ny
    exact ⟨a, _, rfl, DGet.t ha hb, (getL_val hl r).1, (getL_val hl r).2⟩
  | dkf ks ds =>
    obtain ⟨q, hq, rfl⟩ := Option.map_eq_some_iff.mp h
    obtain ⟨a, o, vs, rfl, ha, hl, r⟩ := nx.dkf e
    obtain rfl := keyD_now hq ny
    exact ⟨a, _, rfl, .inl ⟨_, q, .inr ⟨o, ha⟩, rfl, rfl⟩, (getL_val hl r).1, (getL_val hl r).2⟩
  | _ => cases h
end
section
variable {X : Cx} {c : Cf} {kd k1 k2 k3 : Kd} {a b e o : Expr} {f g h : FE} {pos apos cpos : Pos} {fr : Bool} {x : Str} {k : Kn}
theorem ix_dct (hu : X.A.units + 1 < cLine) : IxR X (fun x y H Q => ∃ a v, x = .ref a ∧ DGet H a y (some v) ∧ Q v H) := by
  intro value slice pins s σ H x y v u Q I rx ry h hs
  obtain ⟨a, z, rfl, g, q⟩ := h
  cases (show v = Value.ref a from rx)
  exact tail_any (dict_typeIs I g) PySem.F.slot_dict_getitem.lookup (d_getItem hu I g ry fun w' s3 I3 rw' => ⟨z, H, I3, rw', q⟩) hs
theorem op_dctIn (hu : X.A.units + 1 < cLine) : OpR X (compareOp .In) (fun y x H Q => ∃ a o, x = .ref a ∧ DGet H a y o ∧ Q (.bl o.isSome) H) := by
  intro pins s σ H y x u v Q I ry rx h
  obtain ⟨a, z, rfl, g, q⟩ := h
  cases (show v = Value.ref a from rx)
  exact d_in hu I g ry fun s3 I3 => ⟨.bl z.isSome, H, I3, rfl, q⟩
theorem op_dctNotIn (hu : X.A.units + 1 < cLine) : OpR X (compareOp .NotIn) (fun y x H Q => ∃ a o, x = .ref a ∧ DGet H a y o ∧ Q (.bl (!o.isSome)) H) := by
  intro pins s σ H y x u v Q I ry rx h
  obtain ⟨a, z, rfl, g, q⟩ := h
  cases (show v = Value.ref a from rx)
  exact d_notIn hu I g ry fun s3 I3 => ⟨.bl (!z.isSome), H, I3, rfl, q⟩
def ixA (d y : D) : R D := match dlook d y with
  | some (some r) => .ok r
  | some none => .fail
  | none => ixD d y
theorem o_ixA (hk : k.K = X.K) (hu : X.A.units + 65 < cLine) : Ix2 X k ixA := by
  obtain ⟨r0, h0, z0⟩ := o_ix (k := k) hk
  refine ⟨_, (ix_dct (by omega)).or h0, ?_⟩
  intro G H x y u v d e nx ny hg Q q
  unfold ixA at hg
  split at hg
  · rename_i r hl
    cases hg
    obtain ⟨a, ov, rfl, g, h1, _⟩ := dlook_go e nx ny hl
    obtain ⟨w, rfl, rw_⟩ := h1 _ rfl
    exact .inl ⟨a, w, rfl, g, q _ G H (Step.refl e) rw_⟩
  · cases hg
  · exact .inr (z0 G H x y u v d e nx ny hg Q q)
def inA (y d : D) : R D := match dlook d y with
  | some r => .ok (.bl r.isSome)
  | none => inD y d
def notInA (y d : D) : R D := match dlook d y with
  | some r => .ok (.bl (!r.isSome))
  | none => notInD y d
theorem o_inA (hk : k.K = X.K) (hu : X.A.units + 65 < cLine) : Op2 X k (compareOp .In) .st inA := by
  obtain ⟨r0, h0, z0⟩ := o_in (k := k) hk hu
  refine ⟨_, (op_dctIn (by omega)).or h0, ?_⟩
  intro G H y x v u d e ny nx hg Q q
  unfold inA at hg
  split at hg
  · rename_i r hl
    cases hg
    obtain ⟨a, ov, rfl, g, h1, h2⟩ := dlook_go e nx ny hl
    refine .inl ⟨a, ov, rfl, g, ?_⟩
    have : ov.isSome = r.isSome := by
      cases r with
      | none => rw [h2 rfl]; rfl
      | some r => obtain ⟨w, rfl, _⟩ := h1 _ rfl; rfl
    rw [this]
    exact q _ G H (Step.refl e) (.bl _)
  · exact .inr (z0 G H y x v u d e ny nx hg Q q)
theorem o_notinA (hk : k.K = X.K) (hu : X.A.units + 65 < cLine) : Op2 X k (compareOp .NotIn) .st notInA := by
  obtain ⟨r0, h0, z0⟩ := o_notin (k := k) hk hu
  refine ⟨_, (op_dctNotIn (by omega)).or h0, ?_⟩
  intro G H y x v u d e ny nx hg Q q
  unfold notInA at hg
  split at hg
  · rename_i r hl
    cases hg
    obtain ⟨a, ov, rfl, g, h1, h2⟩ := dlook_go e nx ny hl
    refine .inl ⟨a, ov, rfl, g, ?_⟩
    have : ov.isSome = r.isSome := by
      cases r with
      | none => rw [h2 rfl]; rfl
      | some r => obtain ⟨w, rfl, _⟩ := h1 _ rfl; rfl
    rw [this]
    exact q _ G H (Step.refl e) (.bl _)
  · exact .inr (z0 G H y x v u d e ny nx hg Q q)
def eGet2 (f g h : FE) : FE := fun S => f S >>= fun d => if isDct d then (g S >>= fun y => h S >>= fun z => match dlook d y with
  | some (some r) => .ok r
  | some none => .ok z
  | none => .fail) else .fail
theorem isDct_at {H : Hp} {G : Hp} (e : Ex G H) {d : D} {u : V} (hd : isDct d = true) (nx : Now k G H d u) : ∃ a, u = .ref a ∧ IsD H a := by
  cases d with
  | dic ks ds =>
    obtain ⟨a, vs, rfl, ha, hl, r⟩ := nx.dic e
    exact ⟨a, rfl, .inl ⟨_, .inl ha⟩⟩
  | dit ks ds =>
    obtain ⟨a, vs, rfl, ha, hl, r⟩ := nx.dit e
    exact ⟨a, rfl, .inr ⟨_, .inl ha⟩⟩
  | _ => cases hd
theorem d_get2A {dx : Expr} (hu : X.A.units + 64 < cLine) (ho : PE' X c k1 o f) (hi : PE' X c k2 e g) (hz : PE' X c .st dx h) (m : M2 X o "get" apos e dx cpos := by first | exact ⟨rfl, rfl, rfl, rfl⟩ | exact ⟨rfl, rfl, rfl⟩) :
    PE' X c .st (.Call (.Attribute o "get" apos) [e, dx] [] cpos) (eGet2 f g h) :=
  peI (pe_dget2 (by omega) ho hi hz m) fun σ H Q ⟨G, S, rel, p⟩ => by
    refine rdE_go (g := fun d => if isDct d then (g S >>= fun y => h S >>= fun z => match dlook d y with
      | some (some r) => R.ok r
      | some none => .ok z
      | none => .fail) else .fail) (Post := PostE c .st G S σ H Q) rel p (fun _ z => z) (fun z => z) fun d v G1 H1 s1 q1 p1 => ?_
    by_cases hd : isDct d = true
    · rw [if_pos hd] at p1
      obtain ⟨ad, rfl, isd⟩ := isDct_at s1.gh hd q1.now
      refine ⟨ad, rfl, isd, ?_⟩
      refine rdE_go (g := fun y => h S >>= fun z => match dlook d y with
        | some (some r) => R.ok r
        | some none => .ok z
        | none => .fail) (Post := PostE c .st G S σ H Q) (rel.grow s1) p1 (fun _ z => z) (fun z => z) fun y vy G2 H2 s2 q2 p2 => ?_
      have sA := s1.trans s2
      refine rdE_go (g := fun z => match dlook d y with
        | some (some r) => R.ok r
        | some none => .ok z
        | none => .fail) (Post := PostE c .st G S σ H Q) (rel.grow sA) p2 (fun _ z => z) (fun z => z) fun z vz G3 H3 s3 q3 p3 => ?_
      have sB := sA.trans s3
      cases hl : dlook d y with
      | none => rw [hl] at p3; exact p3.elim
      | some r =>
        obtain ⟨a', ov, e', dg, h1, h2⟩ := dlook_go s3.gh ((q1.now.grow s2).grow s3) (q2.now.grow s3) hl
        cases e'
        rw [hl] at p3
        cases r with
        | none =>
          obtain rfl := h2 rfl
          exact ⟨none, dg, p3 vz G3 H3 sB q3⟩
        | some r =>
          obtain ⟨w, rfl, rw_⟩ := h1 _ rfl
          exact ⟨some w, dg, p3 w G3 H3 sB rw_⟩
    · rw [if_neg hd] at p1; exact p1.elim
def putA (i : Nat) (S : Env) (m d y : D) : R (Fl × Env) := match m with
  | .dic ks ds => (match keyD y with
    | some q => if ks.Nodup ∧ ks.length < sizeLine then .ok (.nx, S.set i (some ⟨true, .dic (putL ks ds q d).1 (putL ks ds q d).2⟩)) else .fail
    | none => .fail)
  | .dit ks ds => (match keyT y with
    | some q => if ks.Nodup ∧ ks.length < sizeLine then .ok (.nx, S.set i (some ⟨true, .dit (putL ks ds q d).1 (putL ks ds q d).2⟩)) else .fail
    | none => .fail)
  | _ => .fail
def ownD (i : Nat) (S : Env) : R D := match S[i]? with
  | some (some ⟨true, d⟩) => .ok d
  | _ => .fail
theorem ownD_of {i : Nat} {S : Env} {z : D} (h : ownD i S = .ok z) : S[i]? = some (some ⟨true, z⟩) := by
  unfold ownD at h
  split at h
  · cases h; assumption
  · cases h
theorem ownD_exc {i : Nat} {S : Env} {x : Exc} : ownD i S ≠ .exc x := by unfold ownD; split <;> intro h <;> cases h
def sPutA (i : Nat) (fy f : FE) : FS := fun S => ownD i S >>= fun m => f S >>= fun d => fy S >>= fun y => putA i S m d y
theorem s_putA (i : Nat) {ix : Expr} {fy : FE} {px ps : Pos} (hu : X.A.units + 64 < cLine) (he : PE' X c .st e f) (hj : PE' X c k1 ix fy) (hN : X.N[i]? = some x := by rfl) (hv : Vis X.env.scope x := by first | exact Or.inl rfl | exact Or.inr (Or.inl rfl) | exact Or.inr (Or.inr rfl)) (hd : (x == ("__debug__" : Str)) = false := by decide)
    (hcd : (x == ("__classdict__" : Str)) = false := by decide) (hs : swapsWith e (some (.Subscript (.Name x px) ix ps)) pos.line X.env = pure false := by rfl) :
    PS' X c fr [i + 1000] (.Assign [.Subscript (.Name x px) ix ps] e pos) (sPutA i fy f) :=
  psI (ps_dput (by omega) (pe_var hN hv hd hcd) hj he hs) fun Dn σ H ⟨G, S, rel, p⟩ => by
    have p : PostS c fr [i + 1000] G S σ H Dn (ownD i S >>= fun m => f S >>= fun d => fy S >>= fun y => putA i S m d y) := p
    cases e0 : ownD i S with
    | exc x => exact absurd e0 ownD_exc
    | fail => rw [e0] at p; exact p.elim
    | ok m =>
      rw [e0, R.ok_bind] at p
      have hS := ownD_of e0
      obtain ⟨l, ob, es, hg, h0, ho, ct⟩ := rel.ow i _ hS
      have ow : OwnAt S σ i l := ⟨⟨_, hS⟩, es⟩
      refine rdE_go (Post := PostS c fr [i + 1000] G S σ H Dn) rel p (fun _ z => z _) (fun z => z) fun d v G1 H1 s1 q1 p1 => ?_
      refine ⟨_, es, ?_⟩
      refine rdE_go (Post := PostS c fr [i + 1000] G S σ H Dn) (rel.grow s1) p1 (fun _ z => z _) (fun z => z) fun y u G2 H2 s2 q2 p2 => ?_
      have sp := s1.trans s2
      have rel' := rel.grow sp
      cases ct with
      | @dic ks ds vs hl r =>
        simp only [putA] at p2
        cases hk : keyD y with
        | none => rw [hk] at p2; exact p2.elim
        | some q =>
          rw [hk] at p2
          dsimp only at p2
          by_cases hc : ks.Nodup ∧ ks.length < sizeLine
          · rw [if_pos hc] at p2
            obtain rfl := keyD_now hk q2.now
            obtain ⟨vs', e1, r', l'⟩ := putL_zip (q := q) hc.1 hl (r.mono sp.g) (RD.mono s2.g q1)
            have hz : (ks.zip vs).length < sizeLine := by rw [List.length_zip]; exact Nat.lt_of_le_of_lt (Nat.min_le_left _ _) hc.2
            refine ⟨l, _, rfl, DPut.k (sp.h _ _ ho) hz, ?_⟩
            rw [e1]
            exact p2 G2 σ _ sp.g (rel'.mut ow (.dic l' r')) ((Frm.step (as := []) rel sp).trans (Frm.mut rel' ow))
          · rw [if_neg hc] at p2; exact p2.elim
      | @dit ks ds vs hl r =>
        simp only [putA] at p2
        cases hk : keyT y with
        | none => rw [hk] at p2; exact p2.elim
        | some q =>
          rw [hk] at p2
          dsimp only at p2
          by_cases hc : ks.Nodup ∧ ks.length < sizeLine
          · rw [if_pos hc] at p2
            obtain ⟨b, rfl, hb⟩ := keyT_now s2.gh hk q2.now
            obtain ⟨vs', e1, r', l'⟩ := putL_zip (q := q) hc.1 hl (r.mono sp.g) (RD.mono s2.g q1)
            have hz : (ks.zip vs).length < sizeLine := by rw [List.length_zip]; exact Nat.lt_of_le_of_lt (Nat.min_le_left _ _) hc.2
            refine ⟨l, _, rfl, DPut.t (sp.h _ _ ho) hb hz, ?_⟩
            rw [e1]
            exact p2 G2 σ _ sp.g (rel'.mut ow (.dit l' r')) ((Frm.step (as := []) rel sp).trans (Frm.mut rel' ow))
          · rw [if_neg hc] at p2; exact p2.elim
      | _ => simp only [putA] at p2; exact p2.elim
end
end M
set_option Elab.async false
set_option linter.all false
set_option maxRecDepth 100000
set_option maxHeartbeats 4000000
namespace M
open PySem L2
variable {X : Cx} {c : Cf} {kd : Kd} {a : Expr} {t t1 : FT} {fr : Bool} {pos : Pos} {tg tg1 : Expr}
def unown (S : Env) (vs : List Nat) : Bool := vs.all fun i => match S[i]? with | some (some ⟨true, _⟩) => false | _ => true
def lc2F (ga : FG) (t : FT) (fi1 : FI) (ga1 : FG) (t1 : FT) (fe : FE) (vs vs1 : List Nat) (S : Env) : List D → R (List D)
  | [] => .ok []
  | d :: ds => (ga d S).nox >>= fun S1 => if unown S1 vs then (t S1).nox >>= fun b => if b then (fi1 S1).nox >>= fun es => lcF ga1 t1 fe (wipeS S1 vs1) es >>= fun ys => lc2F ga t fi1 ga1 t1 fe vs vs1 S ds >>= fun zs => .ok (ys ++ zs) else lc2F ga t fi1 ga1 t1 fe vs vs1 S ds else .fail
def lc2E (fi : FI) (ga : FG) (t : FT) (fi1 : FI) (ga1 : FG) (t1 : FT) (fe : FE) (vs vs1 : List Nat) : FE := fun S => fi S >>= fun ds => lc2F ga t fi1 ga1 t1 fe vs vs1 (wipeS S vs) ds >>= fun ys => if ys.length ≤ sizeLine then .ok (.lst ys) else .fail
theorem nox_exc {α β : Type} {r : R α} {f : α → R β} {x : Exc} (h : (r.nox >>= f) = .exc x) : ∃ a, r = .ok a ∧ f a = .exc x := by
  cases r with
  | ok a => exact ⟨a, rfl, h⟩
  | exc y => cases h
  | fail => cases h
theorem lc2F_exc {ga : FG} {t : FT} {fi1 : FI} {ga1 : FG} {t1 : FT} {fe : FE} {vs vs1 : List Nat} {S : Env} {x : Exc} : ∀ ds, lc2F ga t fi1 ga1 t1 fe vs vs1 S ds ≠ .exc x
  | [] => by intro h; cases h
  | d :: ds => by
    intro h
    unfold lc2F at h
    obtain ⟨S1, _, h⟩ := nox_exc h
    split at h
    case isFalse => cases h
    obtain ⟨b, _, h⟩ := nox_exc h
    cases b with
    | false => exact lc2F_exc ds h
    | true =>
      rw [if_pos rfl] at h
      obtain ⟨es, _, h⟩ := nox_exc h
      cases e3 : lcF ga1 t1 fe (wipeS S1 vs1) es with
      | exc y => exact lcF_exc _ e3
      | fail => rw [e3] at h; cases h
      | ok ys =>
        rw [e3, R.ok_bind] at h
        cases e4 : lc2F ga t fi1 ga1 t1 fe vs vs1 S ds with
        | ok ys => rw [e4] at h; cases h
        | exc y => exact lc2F_exc ds e4
        | fail => rw [e4] at h; cases h
def lcEnd (ys : List D) : R D := if ys.length ≤ sizeLine then .ok (.lst ys) else .fail
theorem short_of {G H : Hp} {S : Env} {σ : L2.St} {Q : VK} {r : R (List D)} {ac : List D} {y : D} (p : PostE c .fr G S σ H Q (r >>= fun ys => lcEnd (ac ++ y :: ys))) (hx : ∀ x, r ≠ .exc x) : ac.length < sizeLine := by
  cases r with
  | exc x => exact absurd rfl (hx x)
  | fail => exact p.elim
  | ok ys =>
    have p : PostE c .fr G S σ H Q (lcEnd (ac ++ y :: ys)) := p
    unfold lcEnd at p
    by_cases h : (ac ++ y :: ys).length ≤ sizeLine
    · simp at h; omega
    · rw [if_neg h] at p; exact p.elim
theorem own_wipe {S : Env} {σ : L2.St} {i : Nat} {a : Addr} : ∀ vs : List Nat, OwnAt (wipeS S vs) (L2.wipe σ vs) i a → OwnAt S σ i a
  | [], h => h
  | v :: vs, ⟨⟨d, h1⟩, h2⟩ => by
    unfold wipeS at h1
    unfold L2.wipe at h2
    by_cases e : v = i
    · subst e
      have hi := (List.getElem?_eq_some_iff.mp h1).1
      rw [List.getElem?_set_self (by simpa using hi)] at h1; cases h1
    · rw [List.getElem?_set_ne e] at h1 h2
      exact own_wipe vs ⟨⟨d, h1⟩, h2⟩
theorem lc2_go {ki ki1 gs gs1 vs vs1 : List Nat} {fi fi1 : FI} {ga ga1 : FG} {fe : FE} {σ : L2.St} {H : Hp} {Q : VK} {gi gi1 : TG} {tt tt1 : TT} {te : TE} {wi1 : TI} (hg : ∀ v σ H Q, RdG c.nx gs ga v σ H Q → gi v σ H Q) (ht : ∀ σ H Q, RdT c.nx t σ H Q → tt σ H Q)
    (hi1 : ∀ σ H Q, RdI c.nx ki1 fi1 σ H Q → wi1 σ H Q) (hg1 : ∀ v σ H Q, RdG c.nx gs1 ga1 v σ H Q → gi1 v σ H Q) (ht1 : ∀ σ H Q, RdT c.nx t1 σ H Q → tt1 σ H Q) (he : ∀ σ H Q, RdE c.nx .st fe σ H Q → te σ H Q)
    (h1000 : ∀ i ∈ vs, i < 1000) (hgs : ∀ i, i ∈ gs → i ∈ vs) (hgs1 : ∀ i, i ∈ gs1 → i ∈ vs1) (q : RdE c .fr (lc2E fi ga t fi1 ga1 t1 fe vs vs1) σ H Q) : tLc2 (RdI c ki fi) gi tt wi1 gi1 tt1 te vs vs1 σ H Q := by
  obtain ⟨G, S, rel, p⟩ := q
  refine ⟨G, S, rel, ?_⟩
  have p : PostE c .fr G S σ H Q (fi S >>= fun ds => lc2F ga t fi1 ga1 t1 fe vs vs1 (wipeS S vs) ds >>= fun ys => lcEnd ys) := p
  cases e0 : fi S with
  | exc x => rw [e0] at p; exact p
  | fail => rw [e0] at p; exact p
  | ok ds =>
    rw [e0, R.ok_bind] at p
    intro J G1 H1 sp it Dl hD
    have relb := ((rel.grow sp).wipe vs).cw (W := liftX E0)
    have hD0 : H Dl = none := sp.h.free hD
    have keep : ∀ {G2 H2 G6 H6 : Hp} {av : List V}, G2 Dl = none → H2 Dl = some (.lst av) → Step G2 H2 G6 H6 → G6 Dl = none ∧ H6 Dl = some (.lst av) := fun {G2 H2 G6 H6 av} hGD hHD z => by
      refine ⟨?_, z.h _ _ hHD⟩
      cases q : G6 Dl with
      | none => rfl
      | some o =>
        rcases z.gr _ _ q with w | w
        · rw [hGD] at w; cases w
        · rw [hHD] at w; cases w
    refine ⟨fun i m H2 => m = ds.length - i ∧ i ≤ ds.length ∧ ∃ G2 ac av, Step G1 H1 G2 H2 ∧ G2 Dl = none ∧ H2 Dl = some (.lst av) ∧ RDs c.k G2 ac av ∧
        PostE c .fr G S σ H Q (lc2F ga t fi1 ga1 t1 fe vs vs1 (wipeS S vs) (ds.drop i) >>= fun ys => lcEnd (ac ++ ys)),
      ⟨_, rfl, Nat.zero_le _, G1, [], [], Step.new' sp.gh hD, sp.gh.free hD, upd_same, .nil, by simpa using p⟩, ?_⟩
    rintro i m H2 ⟨rfl, hle, G2, ac, av, sp2, hGD, hHD, hr, p2⟩
    have rel2 : Rel c.nx G2 (wipeS S vs) (L2.wipe σ vs) H2 := relb.grow sp2
    have itm := it G2 H2 sp2.g sp2.gh fun j hj x ow => by
      obtain ⟨_, _, o, _, ho, _⟩ := (rel.grow sp).own ow
      rw [ho, sp2.h _ _ ho]
    by_cases hlt : i < ds.length
    · obtain ⟨d, hd⟩ : ∃ d, ds[i]? = some d := ⟨ds[i], List.getElem?_eq_getElem hlt⟩
      have hdrop : ds.drop i = d :: ds.drop (i + 1) := by
        rw [List.drop_eq_getElem_cons hlt]; congr 1; rw [List.getElem?_eq_getElem hlt] at hd; exact Option.some.inj hd
      rw [hdrop] at p2
      obtain ⟨hgo, hy⟩ := itm.2 i d hd
      refine .inr ⟨hgo, fun H' => ∃ G3 ac av, Step G1 H1 G3 H' ∧ G3 Dl = none ∧ H' Dl = some (.lst av) ∧ RDs c.k G3 ac av ∧
        PostE c .fr G S σ H Q (lc2F ga t fi1 ga1 t1 fe vs vs1 (wipeS S vs) (ds.drop (i + 1)) >>= fun ys => lcEnd (ac ++ ys)), fun H' ⟨G3, r3⟩ => ⟨_, by omega, rfl, hlt, G3, r3⟩, fun x H3 hx => ?_⟩
      obtain ⟨G3, sp3, hd3⟩ := hy x H3 hx
      refine hg x _ H3 _ ⟨G3, wipeS S vs, d, rel2.grow sp3, hd3, ?_⟩
      unfold lc2F at p2
      cases e1 : ga d (wipeS S vs) with
      | exc x => rw [e1] at p2; exact p2.elim
      | fail => rw [e1] at p2; exact p2.elim
      | ok S1 =>
        rw [e1, R.nox_ok, R.ok_bind] at p2
        split at p2
        case isFalse => exact p2.elim
        rename_i hun
        intro G4 σ4 H4 sp4 rel4 f4
        refine ⟨wipe_eq (by rw [f4.len, wipe_length]) fun j hj => f4.sg j fun z => hj (hgs j z), ht σ4 H4 _ ⟨G4, S1, rel4, ?_⟩⟩
        cases e2 : t S1 with
        | exc x => rw [e2] at p2; exact p2.elim
        | fail => rw [e2] at p2; exact p2.elim
        | ok b =>
          rw [e2, R.nox_ok, R.ok_bind] at p2
          intro G5 H5 sp5
          have spA : Step G2 H2 G5 H5 := (sp3.trans sp4).trans sp5
          have nA := keep hGD hHD spA
          cases b with
          | false =>
            rw [if_neg Bool.false_ne_true] at p2 ⊢
            exact ⟨G5, ac, av, sp2.trans spA, nA.1, nA.2, hr.mono spA.g, p2⟩
          | true =>
            rw [if_pos rfl] at p2 ⊢
            have rel5 := rel4.grow sp5
            refine hi1 σ4 H5 _ ⟨G5, S1, rel5, ?_⟩
            cases e3 : fi1 S1 with
            | exc x => rw [e3] at p2; exact p2.elim
            | fail => rw [e3] at p2; exact p2.elim
            | ok es =>
              rw [e3, R.nox_ok, R.ok_bind] at p2
              intro J1 G6 H6 sp6 it1
              have spB := spA.trans sp6
              have nB := keep hGD hHD spB
              have rel6 := rel5.grow sp6
              have relc := rel6.wipe vs1
              have noD1 : ∀ (i' : Nat) (a : Addr), OwnAt S1 σ4 i' a → a ≠ Dl := fun i' a ⟨⟨d', z1⟩, z2⟩ e => by
                have hi' : i' ∉ gs := fun hm => by
                  have := List.all_eq_true.mp hun i' (hgs i' hm)
                  rw [z1] at this; cases this
                have hk : i' + 1000 ∉ gs := fun hm => by have := h1000 _ (hgs _ hm); omega
                rw [f4.sl i' hi' hk] at z1
                rw [f4.sg i' hi'] at z2
                obtain ⟨_, _, o, _, ho, _⟩ := relb.own (i := i') (a := a) ⟨⟨d', z1⟩, z2⟩
                rw [e, hD] at ho; cases ho
              have noD : ∀ (i' : Nat) (a : Addr), OwnAt (wipeS S1 vs1) (L2.wipe σ4 vs1) i' a → a ≠ Dl := fun i' a ow => noD1 i' a (own_wipe vs1 ow)
              refine ⟨fun j m H7 => m = es.length - j ∧ j ≤ es.length ∧ ∃ G7 ac1 av1, Step G1 H1 G7 H7 ∧ Ex G6 G7 ∧ (∀ a o, a ≠ Dl → H6 a = some o → H7 a = some o) ∧ (∀ b o, G7 b = some o → G6 b = some o ∨ H6 b = none) ∧ G7 Dl = none ∧ H7 Dl = some (.lst av1) ∧ RDs c.k G7 ac1 av1 ∧
                  PostE c .fr G S σ H Q (lcF ga1 t1 fe (wipeS S1 vs1) (es.drop j) >>= fun ys => lc2F ga t fi1 ga1 t1 fe vs vs1 (wipeS S vs) (ds.drop (i + 1)) >>= fun zs => lcEnd (ac1 ++ (ys ++ zs))),
                ⟨_, rfl, Nat.zero_le _, G6, ac, av, sp2.trans spB, Ex.refl _, fun _ _ _ z => z, fun _ _ z => .inl z, nB.1, nB.2, hr.mono spB.g, ?_⟩, ?_⟩
              · rw [List.drop_zero]
                cases e4 : lcF ga1 t1 fe (wipeS S1 vs1) es with
                | exc x => exact absurd e4 (lcF_exc _)
                | fail => rw [e4] at p2; exact p2.elim
                | ok ys =>
                  rw [e4, R.ok_bind] at p2
                  rw [R.ok_bind]
                  cases e5 : lc2F ga t fi1 ga1 t1 fe vs vs1 (wipeS S vs) (ds.drop (i + 1)) with
                  | exc x => exact absurd e5 (lc2F_exc _)
                  | fail => rw [e5] at p2; exact p2.elim
                  | ok zs => rw [e5] at p2; exact p2
              rintro j m H7 ⟨rfl, hlj, G7, ac1, av1, sp7, xg, xh, xr, nG7, nH7, hr7, p7⟩
              have rel7 : Rel c.nx G7 (wipeS S1 vs1) (L2.wipe σ4 vs1) H7 := by
                refine ⟨relb.st.trans sp7, relc.len, fun i' d' z => ?_, fun i' d' z => ?_, relc.nd⟩
                · obtain ⟨v, z1, z2⟩ := relc.fz i' d' z
                  exact ⟨v, z1, z2.mono xg⟩
                · obtain ⟨a, o, z1, z2, z3, z4, z5⟩ := relc.ow i' d' z
                  refine ⟨a, o, z1, ?_, z3, xh a o (noD i' a ⟨⟨_, z⟩, z1⟩) z4, z5.mono xg⟩
                  cases q : G7 a with
                  | none => rfl
                  | some u =>
                    rcases xr a u q with w | w
                    · rw [z2] at w; cases w
                    · rw [z4] at w; cases w
              have itm1 := it1 G7 H7 xg sp7.gh fun j' hj' x ow => by
                obtain ⟨_, _, o, _, ho, _⟩ := rel6.own ow
                rw [ho, xh x o (noD1 j' x ow) ho]
              by_cases hlt1 : j < es.length
              · obtain ⟨d1, hd1⟩ : ∃ d, es[j]? = some d := ⟨es[j], List.getElem?_eq_getElem hlt1⟩
                have hdrop1 : es.drop j = d1 :: es.drop (j + 1) := by
                  rw [List.drop_eq_getElem_cons hlt1]; congr 1; rw [List.getElem?_eq_getElem hlt1] at hd1; exact Option.some.inj hd1
                rw [hdrop1] at p7
                obtain ⟨hgo1, hy1⟩ := itm1.2 j d1 hd1
                have nxt : ∀ {G9 H9 H10 : Hp}, Step G7 H7 G9 H9 → H10 Dl ≠ none → (∀ a, a ≠ Dl → H10 a = H9 a) → Step G1 H1 G9 H10 ∧ Ex G6 G9 ∧ (∀ a o, a ≠ Dl → H6 a = some o → H10 a = some o) ∧ (∀ b o, G9 b = some o → G6 b = some o ∨ H6 b = none) := fun {G9 H9 H10} s9 hn h10 => by
                  have sA := sp7.trans s9
                  have nD := keep nG7 nH7 s9
                  refine ⟨⟨sA.g, fun b o z => ?_, fun b o z => ?_, sA.gr⟩, xg.trans s9.g, fun a o ha z => by rw [h10 a ha]; exact s9.h a o (xh a o ha z), fun b o z => ?_⟩
                  · rw [h10 b (ne_of_none z hD)]; exact sA.h b o z
                  · rw [h10 b (ne_of_none z nD.1)]; exact sA.gh b o z
                  · rcases s9.gr b o z with w | w
                    · exact xr b o w
                    · right
                      cases q : H6 b with
                      | none => rfl
                      | some u =>
                        by_cases hb : b = Dl
                        · subst hb; rw [nH7] at w; cases w
                        · rw [xh b u hb q] at w; cases w
                refine .inr ⟨hgo1, fun H' => ∃ G8 ac1 av1, Step G1 H1 G8 H' ∧ Ex G6 G8 ∧ (∀ a o, a ≠ Dl → H6 a = some o → H' a = some o) ∧ (∀ b o, G8 b = some o → G6 b = some o ∨ H6 b = none) ∧ G8 Dl = none ∧ H' Dl = some (.lst av1) ∧ RDs c.k G8 ac1 av1 ∧
                  PostE c .fr G S σ H Q (lcF ga1 t1 fe (wipeS S1 vs1) (es.drop (j + 1)) >>= fun ys => lc2F ga t fi1 ga1 t1 fe vs vs1 (wipeS S vs) (ds.drop (i + 1)) >>= fun zs => lcEnd (ac1 ++ (ys ++ zs))),
                  fun H' ⟨G8, r8⟩ => ⟨_, by omega, rfl, hlt1, G8, r8⟩, fun x H8 hx => ?_⟩
                obtain ⟨G8, sp8, hd8⟩ := hy1 x H8 hx
                refine hg1 x _ H8 _ ⟨G8, wipeS S1 vs1, d1, rel7.grow sp8, hd8, ?_⟩
                unfold lcF at p7
                cases f1 : ga1 d1 (wipeS S1 vs1) with
                | exc x => rw [f1] at p7; exact p7.elim
                | fail => rw [f1] at p7; exact p7.elim
                | ok S3 =>
                  rw [f1, R.nox_ok, R.ok_bind] at p7
                  intro G9 σ9 H9 sp9 rel9 fr9
                  refine ⟨wipe_eq (by rw [fr9.len, wipe_length]) fun j hj => fr9.sg j fun z => hj (hgs1 j z), ht1 σ9 H9 _ ⟨G9, S3, rel9, ?_⟩⟩
                  cases f2 : t1 S3 with
                  | exc x => rw [f2] at p7; exact p7.elim
                  | fail => rw [f2] at p7; exact p7.elim
                  | ok b1 =>
                    rw [f2, R.nox_ok, R.ok_bind] at p7
                    intro Ga Ha spa
                    have sC : Step G7 H7 Ga Ha := (sp8.trans sp9).trans spa
                    have nC := keep nG7 nH7 sC
                    cases b1 with
                    | false =>
                      rw [if_neg Bool.false_ne_true] at p7 ⊢
                      obtain ⟨k1, k2, k3, k4⟩ := nxt (H10 := Ha) sC (by rw [nC.2]; exact fun z => nomatch z) fun _ _ => rfl
                      exact ⟨Ga, ac1, av1, k1, k2, k3, k4, nC.1, nC.2, hr7.mono sC.g, p7⟩
                    | true =>
                      rw [if_pos rfl] at p7 ⊢
                      refine he σ9 Ha _ ⟨Ga, S3, rel9.grow spa, ?_⟩
                      cases f3 : fe S3 with
                      | exc x => rw [f3] at p7; exact p7.elim
                      | fail => rw [f3] at p7; exact p7.elim
                      | ok y =>
                        rw [f3, R.nox_ok, R.ok_bind] at p7
                        intro v Gb Hb spb hv
                        have sD := sC.trans spb
                        have nD := keep nG7 nH7 sD
                        have p8 : PostE c .fr G S σ H Q (lcF ga1 t1 fe (wipeS S1 vs1) (es.drop (j + 1)) >>= fun ys => lc2F ga t fi1 ga1 t1 fe vs vs1 (wipeS S vs) (ds.drop (i + 1)) >>= fun zs => lcEnd (ac1 ++ y :: (ys ++ zs))) := by
                          cases e4 : lcF ga1 t1 fe (wipeS S1 vs1) (es.drop (j + 1)) with
                          | exc x => exact absurd e4 (lcF_exc _)
                          | fail => rw [e4] at p7; exact p7.elim
                          | ok ys => rw [e4] at p7; simpa using p7
                        have hsh : ac1.length < sizeLine := by
                          cases e4 : lcF ga1 t1 fe (wipeS S1 vs1) (es.drop (j + 1)) with
                          | exc x => exact absurd e4 (lcF_exc _)
                          | fail => rw [e4] at p8; exact p8.elim
                          | ok ys =>
                            rw [e4, R.ok_bind] at p8
                            cases e5 : lc2F ga t fi1 ga1 t1 fe vs vs1 (wipeS S vs) (ds.drop (i + 1)) with
                            | exc x => exact absurd e5 (lc2F_exc _)
                            | fail => rw [e5] at p8; exact p8.elim
                            | ok zs => rw [e5] at p8; exact short_of (r := .ok (ys ++ zs)) p8 fun _ z => nomatch z
                        refine ⟨av1, nD.2, by rw [← hr7.length]; exact hsh, ?_⟩
                        obtain ⟨k1, k2, k3, k4⟩ := nxt (H10 := upd Hb Dl (.lst (av1 ++ [v]))) sD (by rw [upd_same]; exact fun z => nomatch z) fun _ ha => upd_ne ha
                        refine ⟨Gb, ac1 ++ [y], av1 ++ [v], k1, k2, k3, k4, nD.1, upd_same, (hr7.mono sD.g).append (.cons hv .nil), ?_⟩
                        have e : ∀ zs : List D, ac1 ++ [y] ++ zs = ac1 ++ y :: zs := fun zs => by simp
                        simp only [e]
                        exact p8
              · have hj : j = es.length := by omega
                subst hj
                rw [List.drop_length] at p7
                exact .inl ⟨itm1.1 _ (Nat.le_refl _), G7, ac1, av1, sp7, nG7, nH7, hr7, p7⟩
    · have hi : i = ds.length := by omega
      subst hi
      rw [List.drop_length] at p2
      refine .inl ⟨itm.1 _ (Nat.le_refl _), ?_⟩
      have p2 : PostE c .fr G S σ H Q (lcEnd (ac ++ [])) := p2
      rw [List.append_nil] at p2
      unfold lcEnd at p2
      by_cases hz : ac.length ≤ sizeLine
      · rw [if_pos hz] at p2
        exact p2 _ G2 H2 (sp.trans sp2) ⟨Dl, _, rfl, hGD, hD0, hHD, .lst hr⟩
      · rw [if_neg hz] at p2; exact p2.elim
end M
set_option Elab.async false
set_option linter.all false
set_option maxRecDepth 100000
set_option maxHeartbeats 4000000
namespace M
open PySem L2 PySem.Spec PyProof.Rows
section
variable {prog : Program} {w : World} {A : Around} {R : Result → Shared → Prop} {s : Shared} {elt t0 i0 t1 i1 : Expr} {ifs0 ifs1 : List Expr} {scope : Scope} {pos : Pos} {it acc : Value} {env : PySem.Env}
abbrev SC2 (elt t0 i0 t1 i1 : Expr) (ifs0 ifs1 : List Expr) (scope : Scope) (pos : Pos) : Expr := .SetComp elt [⟨t0, i0, ifs0, 0⟩, ⟨t1, i1, ifs1, 0⟩] scope pos
abbrev tests (ifs : List Expr) (env : PySem.Env) : Sem Bool := forIn ifs true fun c r => if r = true then do let ok ← PySem.isTrue c env (eval c env); pure (ForInStep.yield ok) else pure (ForInStep.yield r)
theorem sc2_out (hs : ∀ x, foldedSetIterable i1 env x = pure x) (I : Nat → Shared → Prop)
    (turn : ∀ n s, I n s → wpAny (model prog w) A (pyNext it) (fun r s₁ => match r with
      | none => R (.ok .next) s₁
      | some v => wpAny (model prog w) A (letOwnedTupleGo t0 it v) (fun _ s₁' => wpAny (model prog w) A (assign t0 env v) (fun _ s₂ =>
          wpAny (model prog w) A (tests ifs0 env) (fun ok s₃ =>
            if ok = true then wpAny (model prog w) A (eval i1 env) (fun x s₄ => wpAny (model prog w) A (pyIter x) (fun it1 s₅ =>
              codeAny (model prog w) A (.compStart (SC2 elt t0 i0 t1 i1 ifs0 ifs1 scope pos) 1 it1 acc env) (fun r s' => match r with
                | .ok _ => ∃ m, m < n ∧ I m s'
                | .error _ => False) s₅) (notedBy (model prog w) A env fun e s' => R (.error e) s') s₄) (notedBy (model prog w) A env fun e s' => R (.error e) s') s₃
            else ∃ m, m < n ∧ I m s₃) (notedBy (model prog w) A env fun e s' => R (.error e) s') s₂) (notedBy (model prog w) A env fun e s' => R (.error e) s') s₁') (notedBy (model prog w) A env fun e s' => R (.error e) s') s₁) (notedBy (model prog w) A env fun e s' => R (.error e) s') s)
    (n : Nat) (h : I n s) : codeAny (model prog w) A (.compLoop (SC2 elt t0 i0 t1 i1 ifs0 ifs1 scope pos) 0 it acc env) R s := by
  refine codeAny_loop rfl I (fun n s hI => ?_) n h
  show wpAny _ A ((compTurn (SC2 elt t0 i0 t1 i1 ifs0 ifs1 scope pos) 0 it acc env).onRaise (fun x => do noteFrame x env; theTreesLotGoes x)) _ _ s
  have e : compTurn (SC2 elt t0 i0 t1 i1 ifs0 ifs1 scope pos) 0 it acc env = (do
      standAt i0.pos
      match ← pyNext it with
      | none => pure (.done .next)
      | some v =>
        letOwnedTupleGo t0 it v
        assign t0 env v
        let mut ok := true
        for c in ifs0 do
          if ok then ok ← PySem.isTrue c env (eval c env)
        if ok then
          let x ← eval i1 env
          standAt i1.pos
          let x ← foldedSetIterable i1 env x
          let _ ← runOwn (.compStart (SC2 elt t0 i0 t1 i1 ifs0 ifs1 scope pos) 1 (← holding [x] (pyIter x)) acc env) env
        again (.compLoop (SC2 elt t0 i0 t1 i1 ifs0 ifs1 scope pos) 0 it acc env)) := by rfl
  rw [e]
  refine wpAny_noted (wpAny_bind (wpAny_standAt (wpAny_bind (wpAny_mono (turn n s hI) (fun r s₁ h₁ => ?_) fun _ _ h' => h'))))
  match r, h₁ with
  | none, h₁ => exact wpAny_pure h₁
  | some v, h₁ =>
    refine wpAny_bind (wpAny_mono h₁ (fun _ s₁' h₁' => wpAny_bind (wpAny_mono h₁' (fun _ s₂ h₂ => wpAny_bind (wpAny_mono h₂ (fun ok s₃ h₃ => ?_) fun _ _ h' => h')) fun _ _ h' => h')) fun _ _ h' => h')
    match ok, h₃ with
    | false, h₃ => exact wpAny_pure ⟨rfl, h₃⟩
    | true, h₃ =>
      refine wpAny_bind (wpAny_mono h₃ (fun x s₄ h₄ => wpAny_bind (wpAny_standAt (wpAny_bind (wpAny_of_eq (hs x) (wpAny_bind (wpAny_holding (wpAny_mono h₄ (fun it1 s₅ h₅ => ?_) fun _ _ h' => h'))))))) fun _ _ h' => h')
      refine wpAny_bind (wpAny_runOwn ?_)
      rw [Around.mark_none]
      refine codeAny_mono h₅ fun r s' hr => ?_
      match r, hr with
      | .ok f, hr => first | exact wpAny_pure ⟨rfl, hr⟩ | exact wpAny_bind (wpAny_pure (wpAny_pure ⟨rfl, hr⟩))
      | .error e, hr => exact hr.elim
theorem sc2_in (I : Nat → Shared → Prop)
    (turn : ∀ n s, I n s → wpAny (model prog w) A (pyNext it) (fun r s₁ => match r with
      | none => R (.ok .next) s₁
      | some v => wpAny (model prog w) A (letOwnedTupleGo t1 it v) (fun _ s₁' => wpAny (model prog w) A (assign t1 env v) (fun _ s₂ =>
          wpAny (model prog w) A (tests ifs1 env) (fun ok s₃ =>
            if ok = true then wpAny (model prog w) A (eval elt env) (fun x s₄ =>
              wpAny (model prog w) A (call (.builtin "set.add") [acc, x]) (fun _ s₅ => ∃ m, m < n ∧ I m s₅) (notedBy (model prog w) A env fun e s' => R (.error e) s') s₄) (notedBy (model prog w) A env fun e s' => R (.error e) s') s₃
            else ∃ m, m < n ∧ I m s₃) (notedBy (model prog w) A env fun e s' => R (.error e) s') s₂) (notedBy (model prog w) A env fun e s' => R (.error e) s') s₁') (notedBy (model prog w) A env fun e s' => R (.error e) s') s₁) (notedBy (model prog w) A env fun e s' => R (.error e) s') s)
    (n : Nat) (h : I n s) : codeAny (model prog w) A (.compLoop (SC2 elt t0 i0 t1 i1 ifs0 ifs1 scope pos) 1 it acc env) R s := by
  refine codeAny_loop rfl I (fun n s hI => ?_) n h
  show wpAny _ A ((compTurn (SC2 elt t0 i0 t1 i1 ifs0 ifs1 scope pos) 1 it acc env).onRaise (fun x => do noteFrame x env; theTreesLotGoes x)) _ _ s
  have e : compTurn (SC2 elt t0 i0 t1 i1 ifs0 ifs1 scope pos) 1 it acc env = (do
      standAt i1.pos
      match ← pyNext it with
      | none => pure (.done .next)
      | some v =>
        letOwnedTupleGo t1 it v
        assign t1 env v
        let mut ok := true
        for c in ifs1 do
          if ok then ok ← PySem.isTrue c env (eval c env)
        if ok then
          (do let v ← eval elt env; standAt elt.pos; let _ ← call (.builtin "set.add") [acc, v])
        again (.compLoop (SC2 elt t0 i0 t1 i1 ifs0 ifs1 scope pos) 1 it acc env)) := by rfl
  rw [e]
  refine wpAny_noted (wpAny_bind (wpAny_standAt (wpAny_bind (wpAny_mono (turn n s hI) (fun r s₁ h₁ => ?_) fun _ _ h' => h'))))
  match r, h₁ with
  | none, h₁ => exact wpAny_pure h₁
  | some v, h₁ =>
    refine wpAny_bind (wpAny_mono h₁ (fun _ s₁' h₁' => wpAny_bind (wpAny_mono h₁' (fun _ s₂ h₂ => wpAny_bind (wpAny_mono h₂ (fun ok s₃ h₃ => ?_) fun _ _ h' => h')) fun _ _ h' => h')) fun _ _ h' => h')
    match ok, h₃ with
    | false, h₃ => exact wpAny_pure ⟨rfl, h₃⟩
    | true, h₃ => exact wpAny_bind (wpAny_bind (wpAny_mono h₃ (fun x s₄ h₄ => wpAny_bind (wpAny_standAt (wpAny_bind (wpAny_mono h₄ (fun _ s₅ h₅ => wpAny_pure (wpAny_pure ⟨rfl, h₅⟩)) fun _ _ h' => h')))) fun _ _ h' => h'))
theorem sc2_start (h0 : codeAny (model prog w) A (.compLoop (SC2 elt t0 i0 t1 i1 ifs0 ifs1 scope pos) 1 it acc env) R s)
    (h : wpAny (model prog w) A (pyIter it) (fun it' s' => codeAny (model prog w) A (.compLoop (SC2 elt t0 i0 t1 i1 ifs0 ifs1 scope pos) 1 it' acc env) R s') (notedBy (model prog w) A env fun x s' => R (.error x) s') s) :
    codeAny (model prog w) A (.compStart (SC2 elt t0 i0 t1 i1 ifs0 ifs1 scope pos) 1 it acc env) R s := by
  refine codeAny_of_tree ?_
  show wpAny _ _ ((compStart (SC2 elt t0 i0 t1 i1 ifs0 ifs1 scope pos) 1 it acc env).onRaise (fun x => do noteFrame x env; standAt theWindowsPlace)) _ _ s
  refine wpAny_notedAt ?_
  unfold compStart
  show wpAny _ _ (ask >>= _) _ _ s
  refine wpAny_bind (wpAny_askSetting (wpAny_ite ?_))
  have go : ∀ it' s', codeAny (model prog w) A (.compLoop (SC2 elt t0 i0 t1 i1 ifs0 ifs1 scope pos) 1 it' acc env) R s' → _ := fun it' s' h' => And.intro (rfl : (1 : Nat) = 1) h'
  split
  · first
      | exact wpAny_bind (wpAny_pure (wpAny_pure (And.intro rfl h0)))
      | exact wpAny_pure (And.intro rfl h0)
  · first
      | exact wpAny_bind (wpAny_rule (wpAny_bind (wpAny_standAt (wpAny_bind (wpAny_mono h (fun it' s' h' => wpAny_pure (And.intro rfl h')) fun _ _ x => x)))))
      | (refine wpAny_bind (wpAny_rule ?_); show wpAny _ _ (standAt i1.pos >>= _) _ _ s; exact wpAny_bind (wpAny_standAt (wpAny_bind (wpAny_mono h (fun it' s' h' => wpAny_pure (And.intro rfl h')) fun _ _ x => x))))
end
section
variable {τ κ : Type}
def tScG2 {P : Program} {w : World} {K : PySem.W.Frag} (F : Fam P w K τ κ) (wi : TI) (g : TG) (tt : TT) (wi1 : TI) (g1 : TG) (tt1 : TT) (te : TE) (vs vs1 : List Nat) : TE := fun σ H Q => wi σ H fun J H1 => ∀ S, H1 S = none → ∃ W : Nat → Nat → Hp → Prop, (∃ m, W 0 m (upd H1 S (F.ob F.t0 S))) ∧ ∀ i m H, W i m H →
  (J.stop i H ∧ Q (.ref S) H) ∨ (J.go i H ∧ ∃ Nx : Hp → Prop, (∀ H', Nx H' → ∃ m', m' < m ∧ W (i + 1) m' H') ∧ ∀ x H', J.yld i H x H' → g x (L2.wipe σ vs) H' fun σ2 H2 => L2.wipe σ2 vs = L2.wipe σ vs ∧ tt σ2 H2 fun b H3 =>
    if b = true then wi1 σ2 H3 fun J1 H4 => ∃ W1 : Nat → Nat → Hp → Prop, (∃ m, W1 0 m H4) ∧ ∀ j k H, W1 j k H →
      (J1.stop j H ∧ Nx H) ∨ (J1.go j H ∧ ∃ Nx1 : Hp → Prop, (∀ H', Nx1 H' → ∃ k', k' < k ∧ W1 (j + 1) k' H') ∧ ∀ x H', J1.yld j H x H' → g1 x (L2.wipe σ2 vs1) H' fun σ3 H5 => L2.wipe σ3 vs1 = L2.wipe σ2 vs1 ∧ tt1 σ3 H5 fun b H6 =>
        if b = true then te σ3 H6 fun y H7 => ∃ t kk, H7 S = some (F.ob t S) ∧ F.pre t y kk H7 ∧ ∀ t', F.post t y kk t' → Nx1 (upd H7 S (F.ob t' S)) else Nx1 H6)
    else Nx H3)
variable {X : Cx}
theorem pe_scG2 (F : Fam X.prog X.w X.K τ κ) {elt tg iter tg1 iter1 : Expr} {ifs ifs1 : List Expr} {scope : Scope} {own : List (Str × Nat)} {vs1 : List Nat} {pos : Pos} {wi wi1 : TI} {g g1 : TG} {tt tt1 : TT} {te : TE} (hu : X.A.units + 64 < cLine) (hc : X.calm = true) (hN : X.N.Nodup) (hi : PI X tg iter wi) (ok : BlkOk X.N X.env.scope scope own) (hv : ∀ i ∈ vs1, i ∈ own.map (·.2))
    (hg : ∀ (s : Shared) (H : Hp) (C : Addr) (cl : List (Str × Addr)) (fp : List Addr), PG (X.blk s H scope (compEnvC scope cl C X.env) fp) tg g) (ht : ∀ (s : Shared) (H : Hp) (C : Addr) (cl : List (Str × Addr)) (fp : List Addr), PTs (X.blk s H scope (compEnvC scope cl C X.env) fp) ifs tt)
    (hi1 : ∀ (s : Shared) (H : Hp) (C : Addr) (cl : List (Str × Addr)) (fp : List Addr), PI (X.blk s H scope (compEnvC scope cl C X.env) fp) tg1 iter1 wi1)
    (hg1 : ∀ (s : Shared) (H : Hp) (C : Addr) (cl : List (Str × Addr)) (fp : List Addr), PG (X.blk s H scope (compEnvC scope cl C X.env) fp) tg1 g1) (ht1 : ∀ (s : Shared) (H : Hp) (C : Addr) (cl : List (Str × Addr)) (fp : List Addr), PTs (X.blk s H scope (compEnvC scope cl C X.env) fp) ifs1 tt1)
    (he : ∀ (s : Shared) (H : Hp) (C : Addr) (cl : List (Str × Addr)) (fp : List Addr), PE (X.blk s H scope (compEnvC scope cl C X.env) fp) elt te) (hs : ∀ x, foldedSetIterable iter X.env x = pure x := by intro _; rfl) (hs1 : ∀ env x, foldedSetIterable iter1 env x = pure x := by intro _ _; rfl) :
    PE X (SC2 elt tg iter tg1 iter1 ifs ifs1 scope pos) (tScG2 F wi g tt wi1 g1 tt1 te (own.map (·.2)) vs1) := by
  constructor
  intro pins s σ H Q I rd
  rw [PpSet.eval_SetComp]
  have cells : ∀ y ∈ scope.names, y.2 = .free → ∃ c, X.env.cells.lookup y.1 = some c := fun y hy e => (ok.free y hy e).elim (fun k => I.ok.has _ (.inl k)) fun k => I.ok.has _ (.inr k)
  refine wpAny_comprehension_free (use := none) rfl hs (closure_ok cells) ok.kind (fun y hy e => by rw [ok.uniq y hy, e]) (thn (hi.run pins s σ H _ I rd) fun xv s1 hx => thn hx fun itv s2 h2 => ?_)
  obtain ⟨it, fp, tn, J, H2, rfl, I2, T, st2, f2, q⟩ := h2
  refine PpSet.newSet_ok (newEnv_comp ?_)
  have hfr : H2 s2.heap.objs.size = none := I2.hok.fresh (Nat.le_refl _)
  generalize hA : s2.heap.objs.size = A0 at hfr
  obtain ⟨W, ⟨m0, w0⟩, turn⟩ := q A0 hfr
  obtain ⟨s3, hs3⟩ : ∃ s3 : Shared, s3 = { s2 with heap := s2.heap.push (freshSet X.w) } := ⟨_, rfl⟩
  obtain ⟨H3, hH3⟩ : ∃ H3 : Hp, H3 = upd H2 A0 (F.ob F.t0 A0) := ⟨_, rfl⟩
  have old : ∀ b o, s2.heap.get? b = some o → s3.heap.get? b = some o := fun b o e => by rw [hs3]; exact Heap.get?_push_of_some _ e
  have I3 : Inv X pins σ H3 s3 := by
    rw [hs3, hH3]
    exact I2.laid (t' := s2.toks) (fun b o e => Heap.get?_push_of_some _ e) (Nat.le_of_eq hA) (F.new _ _ _ (by rw [← hA]; exact Heap.get?_push_size _ rfl))
  have there : ∀ b ∈ fp, b < s2.heap.objs.size := fun b hb => by
    obtain ⟨o, e, _⟩ := T.obj _ _ st2 b hb
    exact Heap.lt_size e
  have f3 : ∀ b ∈ fp, FpOk X pins H3 b ∧ b < s3.heap.objs.size := fun b hb => by
    have lt := there b hb
    refine ⟨⟨?_, (f2 b hb).2⟩, by rw [hs3]; exact (Heap.size_push ..).symm ▸ Nat.lt_succ_of_lt lt⟩
    rw [hH3, upd_ne (by rw [← hA]; exact Nat.ne_of_lt lt)]
    exact (f2 b hb).1
  have st3 : tn 0 s3.heap := T.keep _ _ _ st2 fun b _ o e => old b o e
  have I4 := block_start I3 ok hN f3
  have pg := hg s3 H3 s3.heap.objs.size (cellsFrom (s3.heap.objs.size + 1) scope.names (cloFrom X.env.cells scope.names [])) fp
  have pt := ht s3 H3 s3.heap.objs.size (cellsFrom (s3.heap.objs.size + 1) scope.names (cloFrom X.env.cells scope.names [])) fp
  have pi1 := hi1 s3 H3 s3.heap.objs.size (cellsFrom (s3.heap.objs.size + 1) scope.names (cloFrom X.env.cells scope.names [])) fp
  have pg1 := hg1 s3 H3 s3.heap.objs.size (cellsFrom (s3.heap.objs.size + 1) scope.names (cloFrom X.env.cells scope.names [])) fp
  have pt1 := ht1 s3 H3 s3.heap.objs.size (cellsFrom (s3.heap.objs.size + 1) scope.names (cloFrom X.env.cells scope.names [])) fp
  have pe := he s3 H3 s3.heap.objs.size (cellsFrom (s3.heap.objs.size + 1) scope.names (cloFrom X.env.cells scope.names [])) fp
  have goal : codeAny (model X.prog X.w) X.A (.compStart (SC2 elt tg iter tg1 iter1 ifs ifs1 scope pos) 0 (.ref it) (.ref A0) (compEnvC scope (cellsFrom (s3.heap.objs.size + 1) scope.names (cloFrom X.env.cells scope.names [])) s3.heap.objs.size X.env))
      (compPost (model X.prog X.w) X.A X.xe none (EP X pins σ Q) (.ref A0) s3.heap.objs.size) { s3 with heap := pushCells (s3.heap.push { cls := .type "dict", data := .dict #[] }) scope.names } := by
    generalize hce : compEnvC scope (cellsFrom (s3.heap.objs.size + 1) scope.names (cloFrom X.env.cells scope.names [])) s3.heap.objs.size X.env = ce at I4 pg pt pi1 pg1 pt1 pe ⊢
    have cL : ce.locals = s3.heap.objs.size := by subst hce; rfl
    generalize hs4 : ({ s3 with heap := pushCells (s3.heap.push { cls := .type "dict", data := .dict #[] }) scope.names } : Shared) = s4 at I4 ⊢
    have st4 : tn 0 s4.heap := T.keep _ _ _ st3 fun b _ o e => by rw [← hs4]; exact pushCells_keeps _ _ _ _ (Heap.get?_push_of_some _ e)
    have fpo : ∀ {σ' : L2.St} {H' : Hp} {s' : Shared}, Inv (X.blk s3 H3 scope ce fp) [] σ' H' s' → (∀ b ∈ fp, H' b = none) → ∀ b ∈ fp, FpOk (X.blk s3 H3 scope ce fp) [] H' b := fun {σ' H' s'} J' hn b hb =>
      ⟨hn b hb, (J'.ok.exf b hb).1, J'.ok.exfs b hb, .inl hb, (J'.ok.exf b hb).2, fun p hp => by cases (show p ∈ ([] : List (Addr × Obj)) from hp)⟩
    have loop : codeAny (model X.prog X.w) X.A (.compLoop (SC2 elt tg iter tg1 iter1 ifs ifs1 scope pos) 0 (.ref it) (.ref A0) ce) (compPost (model X.prog X.w) X.A X.xe none (EP X pins σ Q) (.ref A0) s3.heap.objs.size) s4 := by
      refine sc2_out (hs1 ce) (fun n s' => ∃ i H', Inv (X.blk s3 H3 scope ce fp) [] (L2.wipe σ (own.map (·.2))) H' s' ∧ tn i s'.heap ∧ (∀ b ∈ fp, H' b = none) ∧ W i n H') ?_ m0 ⟨0, H3, I4, st4, fun b hb => (f3 b hb).1.1, by rw [hH3]; exact w0⟩
      rintro n s5 ⟨i, H5, I5, st5, n5, w5⟩
      rcases turn i n H5 w5 with ⟨stop, qq⟩ | ⟨go, Nx, hNx, step⟩
      · refine thnF (T.done (X.blk s3 H3 scope ce fp) rfl rfl rfl hc i [] s5 _ H5 (fun _ _ => False) I5 (fpo I5 n5) st5 stop) fun r s6 ⟨hr, I6⟩ => ?_
        subst hr
        have I7 : Inv X pins σ H5 s6 := I3.call' (ch := fp) I6.os I6.base I6.hok I6.bare fun b hb => ⟨(f3 b hb).1.2.2.2.1, (f3 b hb).1.2.1, (f3 b hb).1.2.2.2.2.1, (f3 b hb).1.2.2.2.2.2⟩
        have nC : H5 s3.heap.objs.size = none := by rw [← cL]; exact I6.free
        obtain ⟨m, hn, _⟩ := I6.loc
        have hn : s6.heap.Ns ce.locals m := hn
        rw [cL] at hn
        have fC := I3.fpOk (Nat.le_refl _) nC
        exact ⟨m, hn, fun h'' sb => ⟨.ref A0, H5, I7.turned (t' := s6.toks) (fun b o hb e => (sb.2 b hb).trans e) fC.1 fC.2.1 fC.2.2.2.1 fC.2.2.2.2.1 fC.2.2.2.2.2, rfl, qq⟩⟩
      · refine thnF (T.item (X.blk s3 H3 scope ce fp) rfl rfl rfl hc i [] s5 _ H5 (fun _ _ => False) I5 (fpo I5 n5) st5 go) fun r s6 ⟨u, hr, h6⟩ => ?_
        subst hr
        refine thnF h6 fun _ s7 ⟨x, H7, I7, r7, y7, st7, n7⟩ => ?_
        have I7' := I7.pinned (fpo I7 n7) (T.obj _ _ st7)
        refine thnF (pg.run _ s7 _ H7 x u _ I7' r7 (step x H7 y7)) fun _ s8 ⟨σ8, H8, I8, hw8, q8⟩ => ?_
        refine thnF (pt.run _ s8 σ8 H8 _ I8 q8) fun b s9 ⟨H9, I9, q9⟩ => ?_
        have fin : ∀ {σ' : L2.St} {s' : Shared} {H' : Hp}, Inv (X.blk s3 H3 scope ce fp) ([] ++ pinsAt fp s7.heap) σ' H' s' → (L2.wipe σ (own.map (·.2))).length = σ'.length → (∀ (j : Nat) v, (L2.wipe σ (own.map (·.2)))[j]? = some (some v) → σ'[j]? = some (some v)) → Nx H' → ∃ m, m < n ∧ ∃ i H', Inv (X.blk s3 H3 scope ce fp) [] (L2.wipe σ (own.map (·.2))) H' s' ∧ tn i s'.heap ∧ (∀ b ∈ fp, H' b = none) ∧ W i m H' := fun {σ' s' H'} I' hl hk nx => by
          obtain ⟨m', hm, w'⟩ := hNx H' nx
          have pinned : ∀ b ∈ fp, ∀ o, s7.heap.get? b = some o → s'.heap.get? b = some o ∧ H' b = none := fun b hb o e =>
            let z := I'.pin (b, o) (List.mem_append_right _ (List.mem_append_right _ (mem_pinsAt hb e)))
            ⟨z.1, z.2.1⟩
          refine ⟨m', hm, i + 1, H', (I'.unpinned (pins := [])).weak hl hk, T.keep _ _ _ st7 fun b hb o e => (pinned b hb o e).1, fun b hb => ?_, w'⟩
          obtain ⟨o, e, _⟩ := T.obj _ _ st7 b hb
          exact (pinned b hb o e).2
        have hl8 : (L2.wipe σ (own.map (·.2))).length = σ8.length := by rw [← hw8, wipe_length]
        have hk8 : ∀ (j : Nat) v, (L2.wipe σ (own.map (·.2)))[j]? = some (some v) → σ8[j]? = some (some v) ∧ j ∉ own.map (·.2) := fun j v e => by
          rw [← hw8] at e
          exact wipe_some e
        match b, q9 with
        | false, q9 => exact fin I9 hl8 (fun j v e => (hk8 j v e).1) q9
        | true, q9 =>
          refine thnF (pi1.run _ s9 σ8 H9 _ I9 q9) fun xv s10 hx => thnF hx fun itv s11 h11 => ?_
          obtain ⟨it1, fp1, tn1, J1, H11, e1, I11, T1, st11, f11, W1, ⟨m1, w1⟩, turn1⟩ := h11
          subst e1
          have fpo1 : ∀ {H' : Hp}, (∀ b ∈ fp1, H' b = none) → ∀ b ∈ fp1, FpOk (X.blk s3 H3 scope ce fp) ([] ++ pinsAt fp s7.heap) H' b := fun hn b hb => ⟨hn b hb, (f11 b hb).2⟩
          have loop1 : codeAny (model X.prog X.w) X.A (.compLoop (SC2 elt tg iter tg1 iter1 ifs ifs1 scope pos) 1 (.ref it1) (.ref A0) ce)
              (fun r s' => match r with
                | .ok _ => ∃ m, m < n ∧ ∃ i H', Inv (X.blk s3 H3 scope ce fp) [] (L2.wipe σ (own.map (·.2))) H' s' ∧ tn i s'.heap ∧ (∀ b ∈ fp, H' b = none) ∧ W i m H'
                | .error _ => False) s11 := by
            refine sc2_in (fun k s' => ∃ j H', Inv (X.blk s3 H3 scope ce fp) ([] ++ pinsAt fp s7.heap) (L2.wipe σ8 vs1) H' s' ∧ tn1 j s'.heap ∧ (∀ b ∈ fp1, H' b = none) ∧ W1 j k H') ?_ m1 ⟨0, H11, I11.weak (wipe_length _ _) (fun j v e => (wipe_some e).1), st11, fun b hb => (f11 b hb).1, w1⟩
            rintro k s12 ⟨j, H12, I12, st12, n12, w12⟩
            rcases turn1 j k H12 w12 with ⟨stop1, nx1⟩ | ⟨go1, Nx1, hNx1, step1⟩
            · refine thnF (T1.done (X.blk s3 H3 scope ce fp) rfl rfl rfl hc j _ s12 (L2.wipe σ8 vs1) H12 (fun _ _ => False) I12 (fpo1 n12) st12 stop1) fun r s13 ⟨hr, I13⟩ => ?_
              subst hr
              refine fin I13 (hl8.trans (wipe_length σ8 vs1).symm) (fun j' v e => ?_) nx1
              obtain ⟨e1, e2⟩ := hk8 j' v e
              rw [L2.wipe_out fun z => e2 (hv j' z)]
              exact e1
            · refine thnF (T1.item (X.blk s3 H3 scope ce fp) rfl rfl rfl hc j _ s12 (L2.wipe σ8 vs1) H12 (fun _ _ => False) I12 (fpo1 n12) st12 go1) fun r s13 ⟨u1, hr, h13⟩ => ?_
              subst hr
              refine thnF h13 fun _ s14 ⟨x1, H14, I14, r14, y14, st14, n14⟩ => ?_
              have I14' := I14.pinned (fpo1 n14) (T1.obj _ _ st14)
              refine thnF (pg1.run _ s14 (L2.wipe σ8 vs1) H14 x1 u1 _ I14' r14 (step1 x1 H14 y14)) fun _ s15 ⟨σ15, H15, I15, hw15, q15⟩ => ?_
              refine thnF (pt1.run _ s15 σ15 H15 _ I15 q15) fun b1 s16 ⟨H16, I16, q16⟩ => ?_
              have fin1 : ∀ {s' : Shared} {H' : Hp}, Inv (X.blk s3 H3 scope ce fp) (([] ++ pinsAt fp s7.heap) ++ pinsAt fp1 s14.heap) σ15 H' s' → Nx1 H' → ∃ m, m < k ∧ ∃ j H', Inv (X.blk s3 H3 scope ce fp) ([] ++ pinsAt fp s7.heap) (L2.wipe σ8 vs1) H' s' ∧ tn1 j s'.heap ∧ (∀ b ∈ fp1, H' b = none) ∧ W1 j m H' := fun {s' H'} I' nx => by
                obtain ⟨m', hm, w'⟩ := hNx1 H' nx
                have pinned : ∀ b ∈ fp1, ∀ o, s14.heap.get? b = some o → s'.heap.get? b = some o ∧ H' b = none := fun b hb o e =>
                  let z := I'.pin (b, o) (List.mem_append_right _ (List.mem_append_right _ (mem_pinsAt hb e)))
                  ⟨z.1, z.2.1⟩
                refine ⟨m', hm, j + 1, H', I'.unpinned.weak (by rw [← hw15, wipe_length]) (fun j v e => by rw [← hw15] at e; exact (wipe_some e).1), T1.keep _ _ _ st14 fun b hb o e => (pinned b hb o e).1, fun b hb => ?_, w'⟩
                obtain ⟨o, e, _⟩ := T1.obj _ _ st14 b hb
                exact (pinned b hb o e).2
              match b1, q16 with
              | false, q16 => exact fin1 I16 q16
              | true, q16 =>
                refine thnF (pe.run _ s16 σ15 H16 _ I16 q16) fun z s17 ⟨yv, H17, I17, r17, t, kk, ht17, hp17, nx⟩ => ?_
                exact F.add (X.blk s3 H3 scope ce fp) rfl rfl rfl hu _ s17 σ15 H17 A0 t yv kk z _ _ I17 ht17 r17 hp17 fun t' s18 hpost I18 => fin1 I18 (nx t' hpost)
          exact sc2_start loop1 (T1.self X.A 0 _ _ _ st11 loop1)
    exact PpSet.codeAny_compStart_set loop (T.self X.A 0 _ _ _ st4 loop)
  rw [hs3] at goal
  exact goal
end
end M
set_option Elab.async false
set_option linter.all false
set_option maxRecDepth 100000
set_option maxHeartbeats 4000000
namespace M
open PySem L2
def nubI1 (acc : List Int) (k : Int) : List Int := if k ∈ acc then acc else acc ++ [k]
def nubI (ks : List Int) : List Int := ks.foldl nubI1 []
theorem nubI_snoc (ks : List Int) (k : Int) : nubI (ks ++ [k]) = nubI1 (nubI ks) k := by unfold nubI; rw [List.foldl_append]; rfl
theorem rev_ind {α : Type} {P : List α → Prop} (h0 : P []) (h1 : ∀ xs x, P xs → P (xs ++ [x])) (xs : List α) : P xs := by
  rw [← List.reverse_reverse xs]
  induction xs.reverse with
  | nil => exact h0
  | cons x xs ih => rw [List.reverse_cons]; exact h1 _ _ ih
theorem nubI_mem {k : Int} : ∀ ks : List Int, k ∈ nubI ks ↔ k ∈ ks := rev_ind (by simp [nubI]) fun xs x ih => by
  rw [nubI_snoc, nubI1]
  split
  · rename_i h
    rw [ih, List.mem_append, List.mem_singleton]
    exact ⟨.inl, fun z => z.elim id fun e => ih.mp (e ▸ h)⟩
  · rw [List.mem_append, ih, List.mem_append]
theorem nubI_nodup : ∀ ks : List Int, (nubI ks).Nodup := rev_ind (by simp [nubI]) fun xs x ih => by
  rw [nubI_snoc, nubI1]
  split
  · exact ih
  · rename_i h
    rw [List.nodup_append]
    refine ⟨ih, by simp, fun a ha b hb => ?_⟩
    rw [List.mem_singleton] at hb; subst hb
    exact fun e => h (e ▸ ha)
theorem nubI_le : ∀ ks : List Int, (nubI ks).length ≤ ks.length := rev_ind (by simp [nubI]) fun xs x ih => by
  rw [nubI_snoc, nubI1]
  split <;> simp <;> omega
def srtN (ks : List Int) : List Int := (nubI ks).mergeSort (fun a b => decide (a ≤ b))
theorem srtN_mem {k : Int} (ks : List Int) : k ∈ srtN ks ↔ k ∈ ks := by unfold srtN; rw [List.mem_mergeSort, nubI_mem]
theorem srtN_strict (ks : List Int) : (srtN ks).Pairwise (· < ·) := by
  have h1 : (srtN ks).Pairwise (fun a b => decide (a ≤ b) = true) := List.pairwise_mergeSort (fun a b c h1 h2 => by simp at *; omega) (fun a b => by simp; omega) _
  have h2 : (srtN ks).Nodup := (List.mergeSort_perm _ _).nodup_iff.mpr (nubI_nodup ks)
  refine (h1.and h2).imp fun {a b} h => ?_
  have := h.1
  have := h.2
  simp at *
  omega
theorem strict_unique {xs ys : List Int} (h1 : xs.Pairwise (· < ·)) (h2 : ys.Pairwise (· < ·)) (h : ∀ k, k ∈ xs ↔ k ∈ ys) : xs = ys := by
  have n1 : xs.Nodup := h1.imp fun h e => by omega
  have n2 : ys.Nodup := h2.imp fun h e => by omega
  have p : xs.Perm ys := (List.perm_ext_iff_of_nodup n1 n2).mpr h
  exact p.eq_of_pairwise (fun a b _ _ h1 h2 => by omega) h1 h2
def intsD : List D → Option (List Int)
  | [] => some []
  | .int i :: ds => (intsD ds).map (i :: ·)
  | _ :: _ => none
theorem intsD_map : ∀ ns : List Int, intsD (ns.map D.int) = some ns
  | [] => rfl
  | n :: ns => by simp [intsD, intsD_map ns]
theorem intsD_app : ∀ (ns : List Int) (ds : List D), intsD (ns.map D.int ++ ds) = (intsD ds).map (ns ++ ·)
  | [], ds => by simp
  | n :: ns, ds => by
    rw [List.map_cons, List.cons_append, intsD, intsD_app ns ds, Option.map_map]
    rfl
def srtEnd (ys : List D) : R D := match intsD ys with
  | some ns => if ns.length ≤ 900 ∧ (nubI ns).length < 64 then .ok (.lst ((srtN ns).map D.int)) else .fail
  | none => .fail
theorem int_of {c : Cf} {G H : Hp} {S : Env} {σ : L2.St} {Q : VK} {av : List Int} {y : D} {r : List D} (p : PostE c .fr G S σ H Q (srtEnd (av.map D.int ++ y :: r))) : ∃ k, y = .int k ∧ av.length < 901 := by
  unfold srtEnd at p
  rw [intsD_app] at p
  cases e : intsD (y :: r) with
  | none => rw [e] at p; exact p.elim
  | some zs =>
    rw [e] at p
    dsimp only [Option.map] at p
    cases y <;> simp only [intsD] at e <;> first | (cases e; done) | skip
    rename_i k
    refine ⟨k, rfl, ?_⟩
    by_cases hz : (av ++ zs).length ≤ 900 ∧ (nubI (av ++ zs)).length < 64
    · have := hz.1
      simp at this; omega
    · rw [if_neg hz] at p; exact p.elim
def iset (w : World) (L : List Int) (a : Addr) : HO := SetO w a (fun q => decide (q ∈ L)) (nubI L).length
def famI (P : Program) (w : World) (K : PySem.W.Frag) : Fam P w K (List Int) Int where
  ob := fun t a => iset w t a
  t0 := []
  pre := fun t y k H => y = .int k ∧ (nubI t).length + 1 < scanBound
  post := fun t y k t' => t' = t ++ [k]
  new := fun H h a e => by
    refine setO_new (w := w) ?_
    exact ⟨freshSet w, #[], 0, _, e, ⟨rfl, rfl, rfl⟩, rfl, (fun e he => by simp at he), (by simp), (fun k => by simp), (by decide), (by rfl), rfl, List.Pairwise.nil, by
      show _ ∨ (!w.params.followText "set-order") = true
      cases w.params.followText "set-order"
      · exact .inr rfl
      · exact .inl rfl⟩
  add := by
    intro X hP hw hK hu pins s σ H S t y k u Q E I hS ry hp hq
    subst hP hw hK
    obtain ⟨rfl, h2⟩ := hp
    obtain ⟨tk, rfl⟩ := ry
    have R := setO_get I hS
    refine setR_add R h2 fun h' sb new => ?_
    have he : ∃ u, h'.get? S = some u := by
      have ⟨o, _, _, _, ho, _⟩ := new
      exact ⟨o, ho⟩
    have e : (fun j => decide (j ∈ t) || decide (j = k)) = fun q => decide (q ∈ t ++ [k]) := by
      funext j; simp
    have e2 : (if decide (k ∈ t) = true then (nubI t).length else (nubI t).length + 1) = (nubI (t ++ [k])).length := by
      rw [nubI_snoc, nubI1]
      by_cases h : k ∈ t
      · rw [if_pos (by simpa using h), if_pos ((nubI_mem t).mpr h)]
      · rw [if_neg (by simpa using h), if_neg (fun z => h ((nubI_mem t).mp z))]; simp
    refine hq _ _ rfl (I.write (e := S) (by rw [hS]; trivial) (.inl rfl) (fun b u hb hu => (sb.2 b hb).trans hu) he (setO_new ?_))
    have new := new
    simp only [e] at new
    rw [e2] at new
    exact new
variable {c : Cf} {kd : Kd} {a : Expr} {t t1 : FT} {fr : Bool} {pos : Pos} {tg tg1 : Expr}
def srtSc2E (fi : FI) (ga : FG) (t : FT) (fi1 : FI) (ga1 : FG) (t1 : FT) (fe : FE) (vs vs1 : List Nat) : FE := fun S => fi S >>= fun ds => lc2F ga t fi1 ga1 t1 fe vs vs1 (wipeS S vs) ds >>= fun ys => srtEnd ys
theorem srtSc2_go {X : Cx} {ki ki1 gs gs1 vs vs1 : List Nat} {fi fi1 : FI} {ga ga1 : FG} {fe : FE} {σ : L2.St} {H : Hp} {Q : VK} {gi gi1 : TG} {tt tt1 : TT} {te : TE} {wi1 : TI} (hg : ∀ v σ H Q, RdG c.nx gs ga v σ H Q → gi v σ H Q) (ht : ∀ σ H Q, RdT c.nx t σ H Q → tt σ H Q)
    (hi1 : ∀ σ H Q, RdI c.nx ki1 fi1 σ H Q → wi1 σ H Q) (hg1 : ∀ v σ H Q, RdG c.nx gs1 ga1 v σ H Q → gi1 v σ H Q) (ht1 : ∀ σ H Q, RdT c.nx t1 σ H Q → tt1 σ H Q) (he : ∀ σ H Q, RdE c.nx .st fe σ H Q → te σ H Q)
    (h1000 : ∀ i ∈ vs, i < 1000) (hgs : ∀ i, i ∈ gs → i ∈ vs) (hgs1 : ∀ i, i ∈ gs1 → i ∈ vs1) (q : RdE c .fr (srtSc2E fi ga t fi1 ga1 t1 fe vs vs1) σ H Q) : tScG2 (famI X.prog X.w X.K) (RdI c ki fi) gi tt wi1 gi1 tt1 te vs vs1 σ H fun v H1 => rSortedSet X.w [v] H1 Q := by
  obtain ⟨G, S, rel, p⟩ := q
  refine ⟨G, S, rel, ?_⟩
  have p : PostE c .fr G S σ H Q (fi S >>= fun ds => lc2F ga t fi1 ga1 t1 fe vs vs1 (wipeS S vs) ds >>= fun ys => srtEnd ys) := p
  cases e0 : fi S with
  | exc x => rw [e0] at p; exact p
  | fail => rw [e0] at p; exact p
  | ok ds =>
    rw [e0, R.ok_bind] at p
    intro J G1 H1 sp it Dl hD
    have relb := ((rel.grow sp).wipe vs).cw (W := liftX E0)
    have hD0 : H Dl = none := sp.h.free hD
    have keep : ∀ {G2 H2 G6 H6 : Hp} {av : List Int}, G2 Dl = none → H2 Dl = some (iset X.w av Dl) → Step G2 H2 G6 H6 → G6 Dl = none ∧ H6 Dl = some (iset X.w av Dl) := fun {G2 H2 G6 H6 av} hGD hHD z => by
      refine ⟨?_, z.h _ _ hHD⟩
      cases q : G6 Dl with
      | none => rfl
      | some o =>
        rcases z.gr _ _ q with w | w
        · rw [hGD] at w; cases w
        · rw [hHD] at w; cases w
    refine ⟨fun i m H2 => m = ds.length - i ∧ i ≤ ds.length ∧ ∃ G2 av, Step G1 H1 G2 H2 ∧ G2 Dl = none ∧ H2 Dl = some (iset X.w av Dl) ∧
        PostE c .fr G S σ H Q (lc2F ga t fi1 ga1 t1 fe vs vs1 (wipeS S vs) (ds.drop i) >>= fun ys => srtEnd (av.map D.int ++ ys)),
      ⟨_, rfl, Nat.zero_le _, G1, [], Step.new' sp.gh hD, sp.gh.free hD, upd_same, by simpa using p⟩, ?_⟩
    rintro i m H2 ⟨rfl, hle, G2, av, sp2, hGD, hHD, p2⟩
    have rel2 : Rel c.nx G2 (wipeS S vs) (L2.wipe σ vs) H2 := relb.grow sp2
    have itm := it G2 H2 sp2.g sp2.gh fun j hj x ow => by
      obtain ⟨_, _, o, _, ho, _⟩ := (rel.grow sp).own ow
      rw [ho, sp2.h _ _ ho]
    by_cases hlt : i < ds.length
    · obtain ⟨d, hd⟩ : ∃ d, ds[i]? = some d := ⟨ds[i], List.getElem?_eq_getElem hlt⟩
      have hdrop : ds.drop i = d :: ds.drop (i + 1) := by
        rw [List.drop_eq_getElem_cons hlt]; congr 1; rw [List.getElem?_eq_getElem hlt] at hd; exact Option.some.inj hd
      rw [hdrop] at p2
      obtain ⟨hgo, hy⟩ := itm.2 i d hd
      refine .inr ⟨hgo, fun H' => ∃ G3 av, Step G1 H1 G3 H' ∧ G3 Dl = none ∧ H' Dl = some (iset X.w av Dl) ∧
        PostE c .fr G S σ H Q (lc2F ga t fi1 ga1 t1 fe vs vs1 (wipeS S vs) (ds.drop (i + 1)) >>= fun ys => srtEnd (av.map D.int ++ ys)), fun H' ⟨G3, r3⟩ => ⟨_, by omega, rfl, hlt, G3, r3⟩, fun x H3 hx => ?_⟩
      obtain ⟨G3, sp3, hd3⟩ := hy x H3 hx
      refine hg x _ H3 _ ⟨G3, wipeS S vs, d, rel2.grow sp3, hd3, ?_⟩
      unfold lc2F at p2
      cases e1 : ga d (wipeS S vs) with
      | exc x => rw [e1] at p2; exact p2.elim
      | fail => rw [e1] at p2; exact p2.elim
      | ok S1 =>
        rw [e1, R.nox_ok, R.ok_bind] at p2
        split at p2
        case isFalse => exact p2.elim
        rename_i hun
        intro G4 σ4 H4 sp4 rel4 f4
        refine ⟨wipe_eq (by rw [f4.len, wipe_length]) fun j hj => f4.sg j fun z => hj (hgs j z), ht σ4 H4 _ ⟨G4, S1, rel4, ?_⟩⟩
        cases e2 : t S1 with
        | exc x => rw [e2] at p2; exact p2.elim
        | fail => rw [e2] at p2; exact p2.elim
        | ok b =>
          rw [e2, R.nox_ok, R.ok_bind] at p2
          intro G5 H5 sp5
          have spA : Step G2 H2 G5 H5 := (sp3.trans sp4).trans sp5
          have nA := keep hGD hHD spA
          cases b with
          | false =>
            rw [if_neg Bool.false_ne_true] at p2 ⊢
            exact ⟨G5, av, sp2.trans spA, nA.1, nA.2, p2⟩
          | true =>
            rw [if_pos rfl] at p2 ⊢
            have rel5 := rel4.grow sp5
            refine hi1 σ4 H5 _ ⟨G5, S1, rel5, ?_⟩
            cases e3 : fi1 S1 with
            | exc x => rw [e3] at p2; exact p2.elim
            | fail => rw [e3] at p2; exact p2.elim
            | ok es =>
              rw [e3, R.nox_ok, R.ok_bind] at p2
              intro J1 G6 H6 sp6 it1
              have spB := spA.trans sp6
              have nB := keep hGD hHD spB
              have rel6 := rel5.grow sp6
              have relc := rel6.wipe vs1
              have noD1 : ∀ (i' : Nat) (a : Addr), OwnAt S1 σ4 i' a → a ≠ Dl := fun i' a ⟨⟨d', z1⟩, z2⟩ e => by
                have hi' : i' ∉ gs := fun hm => by
                  have := List.all_eq_true.mp hun i' (hgs i' hm)
                  rw [z1] at this; cases this
                have hk : i' + 1000 ∉ gs := fun hm => by have := h1000 _ (hgs _ hm); omega
                rw [f4.sl i' hi' hk] at z1
                rw [f4.sg i' hi'] at z2
                obtain ⟨_, _, o, _, ho, _⟩ := relb.own (i := i') (a := a) ⟨⟨d', z1⟩, z2⟩
                rw [e, hD] at ho; cases ho
              have noD : ∀ (i' : Nat) (a : Addr), OwnAt (wipeS S1 vs1) (L2.wipe σ4 vs1) i' a → a ≠ Dl := fun i' a ow => noD1 i' a (own_wipe vs1 ow)
              refine ⟨fun j m H7 => m = es.length - j ∧ j ≤ es.length ∧ ∃ G7 av1, Step G1 H1 G7 H7 ∧ Ex G6 G7 ∧ (∀ a o, a ≠ Dl → H6 a = some o → H7 a = some o) ∧ (∀ b o, G7 b = some o → G6 b = some o ∨ H6 b = none) ∧ G7 Dl = none ∧ H7 Dl = some (iset X.w av1 Dl) ∧
                  PostE c .fr G S σ H Q (lcF ga1 t1 fe (wipeS S1 vs1) (es.drop j) >>= fun ys => lc2F ga t fi1 ga1 t1 fe vs vs1 (wipeS S vs) (ds.drop (i + 1)) >>= fun zs => srtEnd (av1.map D.int ++ (ys ++ zs))),
                ⟨_, rfl, Nat.zero_le _, G6, av, sp2.trans spB, Ex.refl _, fun _ _ _ z => z, fun _ _ z => .inl z, nB.1, nB.2, ?_⟩, ?_⟩
              · rw [List.drop_zero]
                cases e4 : lcF ga1 t1 fe (wipeS S1 vs1) es with
                | exc x => exact absurd e4 (lcF_exc _)
                | fail => rw [e4] at p2; exact p2.elim
                | ok ys =>
                  rw [e4, R.ok_bind] at p2
                  rw [R.ok_bind]
                  cases e5 : lc2F ga t fi1 ga1 t1 fe vs vs1 (wipeS S vs) (ds.drop (i + 1)) with
                  | exc x => exact absurd e5 (lc2F_exc _)
                  | fail => rw [e5] at p2; exact p2.elim
                  | ok zs => rw [e5] at p2; exact p2
              rintro j m H7 ⟨rfl, hlj, G7, av1, sp7, xg, xh, xr, nG7, nH7, p7⟩
              have rel7 : Rel c.nx G7 (wipeS S1 vs1) (L2.wipe σ4 vs1) H7 := by
                refine ⟨relb.st.trans sp7, relc.len, fun i' d' z => ?_, fun i' d' z => ?_, relc.nd⟩
                · obtain ⟨v, z1, z2⟩ := relc.fz i' d' z
                  exact ⟨v, z1, z2.mono xg⟩
                · obtain ⟨a, o, z1, z2, z3, z4, z5⟩ := relc.ow i' d' z
                  refine ⟨a, o, z1, ?_, z3, xh a o (noD i' a ⟨⟨_, z⟩, z1⟩) z4, z5.mono xg⟩
                  cases q : G7 a with
                  | none => rfl
                  | some u =>
                    rcases xr a u q with w | w
                    · rw [z2] at w; cases w
                    · rw [z4] at w; cases w
              have itm1 := it1 G7 H7 xg sp7.gh fun j' hj' x ow => by
                obtain ⟨_, _, o, _, ho, _⟩ := rel6.own ow
                rw [ho, xh x o (noD1 j' x ow) ho]
              by_cases hlt1 : j < es.length
              · obtain ⟨d1, hd1⟩ : ∃ d, es[j]? = some d := ⟨es[j], List.getElem?_eq_getElem hlt1⟩
                have hdrop1 : es.drop j = d1 :: es.drop (j + 1) := by
                  rw [List.drop_eq_getElem_cons hlt1]; congr 1; rw [List.getElem?_eq_getElem hlt1] at hd1; exact Option.some.inj hd1
                rw [hdrop1] at p7
                obtain ⟨hgo1, hy1⟩ := itm1.2 j d1 hd1
                have nxt : ∀ {G9 H9 H10 : Hp}, Step G7 H7 G9 H9 → H10 Dl ≠ none → (∀ a, a ≠ Dl → H10 a = H9 a) → Step G1 H1 G9 H10 ∧ Ex G6 G9 ∧ (∀ a o, a ≠ Dl → H6 a = some o → H10 a = some o) ∧ (∀ b o, G9 b = some o → G6 b = some o ∨ H6 b = none) := fun {G9 H9 H10} s9 hn h10 => by
                  have sA := sp7.trans s9
                  have nD := keep nG7 nH7 s9
                  refine ⟨⟨sA.g, fun b o z => ?_, fun b o z => ?_, sA.gr⟩, xg.trans s9.g, fun a o ha z => by rw [h10 a ha]; exact s9.h a o (xh a o ha z), fun b o z => ?_⟩
                  · rw [h10 b (ne_of_none z hD)]; exact sA.h b o z
                  · rw [h10 b (ne_of_none z nD.1)]; exact sA.gh b o z
                  · rcases s9.gr b o z with w | w
                    · exact xr b o w
                    · right
                      cases q : H6 b with
                      | none => rfl
                      | some u =>
                        by_cases hb : b = Dl
                        · subst hb; rw [nH7] at w; cases w
                        · rw [xh b u hb q] at w; cases w
                refine .inr ⟨hgo1, fun H' => ∃ G8 av1, Step G1 H1 G8 H' ∧ Ex G6 G8 ∧ (∀ a o, a ≠ Dl → H6 a = some o → H' a = some o) ∧ (∀ b o, G8 b = some o → G6 b = some o ∨ H6 b = none) ∧ G8 Dl = none ∧ H' Dl = some (iset X.w av1 Dl) ∧
                  PostE c .fr G S σ H Q (lcF ga1 t1 fe (wipeS S1 vs1) (es.drop (j + 1)) >>= fun ys => lc2F ga t fi1 ga1 t1 fe vs vs1 (wipeS S vs) (ds.drop (i + 1)) >>= fun zs => srtEnd (av1.map D.int ++ (ys ++ zs))),
                  fun H' ⟨G8, r8⟩ => ⟨_, by omega, rfl, hlt1, G8, r8⟩, fun x H8 hx => ?_⟩
                obtain ⟨G8, sp8, hd8⟩ := hy1 x H8 hx
                refine hg1 x _ H8 _ ⟨G8, wipeS S1 vs1, d1, rel7.grow sp8, hd8, ?_⟩
                unfold lcF at p7
                cases f1 : ga1 d1 (wipeS S1 vs1) with
                | exc x => rw [f1] at p7; exact p7.elim
                | fail => rw [f1] at p7; exact p7.elim
                | ok S3 =>
                  rw [f1, R.nox_ok, R.ok_bind] at p7
                  intro G9 σ9 H9 sp9 rel9 fr9
                  refine ⟨wipe_eq (by rw [fr9.len, wipe_length]) fun j hj => fr9.sg j fun z => hj (hgs1 j z), ht1 σ9 H9 _ ⟨G9, S3, rel9, ?_⟩⟩
                  cases f2 : t1 S3 with
                  | exc x => rw [f2] at p7; exact p7.elim
                  | fail => rw [f2] at p7; exact p7.elim
                  | ok b1 =>
                    rw [f2, R.nox_ok, R.ok_bind] at p7
                    intro Ga Ha spa
                    have sC : Step G7 H7 Ga Ha := (sp8.trans sp9).trans spa
                    have nC := keep nG7 nH7 sC
                    cases b1 with
                    | false =>
                      rw [if_neg Bool.false_ne_true] at p7 ⊢
                      obtain ⟨k1, k2, k3, k4⟩ := nxt (H10 := Ha) sC (by rw [nC.2]; exact fun z => nomatch z) fun _ _ => rfl
                      exact ⟨Ga, av1, k1, k2, k3, k4, nC.1, nC.2, p7⟩
                    | true =>
                      rw [if_pos rfl] at p7 ⊢
                      refine he σ9 Ha _ ⟨Ga, S3, rel9.grow spa, ?_⟩
                      cases f3 : fe S3 with
                      | exc x => rw [f3] at p7; exact p7.elim
                      | fail => rw [f3] at p7; exact p7.elim
                      | ok y =>
                        rw [f3, R.nox_ok, R.ok_bind] at p7
                        intro v Gb Hb spb hv
                        have sD := sC.trans spb
                        have nD := keep nG7 nH7 sD
                        have p8 : PostE c .fr G S σ H Q (lcF ga1 t1 fe (wipeS S1 vs1) (es.drop (j + 1)) >>= fun ys => lc2F ga t fi1 ga1 t1 fe vs vs1 (wipeS S vs) (ds.drop (i + 1)) >>= fun zs => srtEnd (av1.map D.int ++ y :: (ys ++ zs))) := by
                          cases e4 : lcF ga1 t1 fe (wipeS S1 vs1) (es.drop (j + 1)) with
                          | exc x => exact absurd e4 (lcF_exc _)
                          | fail => rw [e4] at p7; exact p7.elim
                          | ok ys => rw [e4] at p7; simpa using p7
                        have hsh : ∃ k, y = .int k ∧ av1.length < 901 := by
                          cases e4 : lcF ga1 t1 fe (wipeS S1 vs1) (es.drop (j + 1)) with
                          | exc x => exact absurd e4 (lcF_exc _)
                          | fail => rw [e4] at p8; exact p8.elim
                          | ok ys =>
                            rw [e4, R.ok_bind] at p8
                            cases e5 : lc2F ga t fi1 ga1 t1 fe vs vs1 (wipeS S vs) (ds.drop (i + 1)) with
                            | exc x => exact absurd e5 (lc2F_exc _)
                            | fail => rw [e5] at p8; exact p8.elim
                            | ok zs => rw [e5] at p8; exact int_of p8
                        obtain ⟨k, rfl, hsh⟩ := hsh
                        have hv : RD c.k Gb (.int k) v := hv
                        cases hv
                        refine ⟨av1, k, nD.2, ⟨rfl, scan_ok (by have := nubI_le av1; omega)⟩, ?_⟩
                        rintro t' rfl
                        obtain ⟨k1, k2, k3, k4⟩ := nxt (H10 := upd Hb Dl (iset X.w (av1 ++ [k]) Dl)) sD (by rw [upd_same]; exact fun z => nomatch z) fun _ ha => upd_ne ha
                        refine ⟨Gb, av1 ++ [k], k1, k2, k3, k4, nD.1, upd_same, ?_⟩
                        have e : ∀ zs : List D, (av1 ++ [k]).map D.int ++ zs = av1.map D.int ++ D.int k :: zs := fun zs => by simp
                        simp only [e]
                        exact p8
              · have hj : j = es.length := by omega
                subst hj
                rw [List.drop_length] at p7
                exact .inl ⟨itm1.1 _ (Nat.le_refl _), G7, av1, sp7, nG7, nH7, p7⟩
    · have hi : i = ds.length := by omega
      subst hi
      rw [List.drop_length] at p2
      refine .inl ⟨itm.1 _ (Nat.le_refl _), ?_⟩
      have p2 : PostE c .fr G S σ H Q (srtEnd (av.map D.int ++ [])) := p2
      rw [List.append_nil] at p2
      unfold srtEnd at p2
      rw [intsD_map] at p2
      dsimp only at p2
      by_cases hz : av.length ≤ 900 ∧ (nubI av).length < 64
      · rw [if_pos hz] at p2
        refine ⟨Dl, _, _, rfl, hHD, hz.2, fun ns pp h1 h2 h3 hp => ?_⟩
        obtain rfl : ns = srtN av := strict_unique h1 (srtN_strict av) fun k => by rw [h2, decide_eq_true_iff, srtN_mem]
        have sE := sp.trans sp2
        exact p2 _ G2 _ ⟨sE.g, sE.h.upd (sE.h.free hp), sE.gh.upd (sE.gh.free hp) , sE.gr⟩ ⟨pp, _, rfl, sE.gh.free hp, sE.h.free hp, upd_same, .lst (RDs.ints _)⟩
      · rw [if_neg hz] at p2; exact p2.elim
theorem d_srtSc2 {X : Cx} {elt iter iter1 : Expr} {ifs ifs1 : List Expr} {scope : Scope} {p1 p2 : Pos} {x : Str} (own : List (Str × Nat)) (vs1 : List Nat) {ki gs ki1 gs1 : List Nat} {fi fi1 : FI} {ga ga1 : FG} {fe : FE} (hu : X.A.units + 64 < cLine) (hm : X.mg x = none) (hc : X.calm = true) (hN : X.N.Nodup) (hi : PI' X c ki tg iter fi) (ok : BlkOk X.N X.env.scope scope own)
    (hg : ∀ (s : Shared) (H : Hp) (C : Addr) (cl : List (Str × Addr)) (fp : List Addr), PG' (X.blk s H scope (compEnvC scope cl C X.env) fp) c.nx gs tg ga) (ht : ∀ (s : Shared) (H : Hp) (C : Addr) (cl : List (Str × Addr)) (fp : List Addr), PTs' (X.blk s H scope (compEnvC scope cl C X.env) fp) c.nx ifs t)
    (hi1 : ∀ (s : Shared) (H : Hp) (C : Addr) (cl : List (Str × Addr)) (fp : List Addr), PI' (X.blk s H scope (compEnvC scope cl C X.env) fp) c.nx ki1 tg1 iter1 fi1)
    (hg1 : ∀ (s : Shared) (H : Hp) (C : Addr) (cl : List (Str × Addr)) (fp : List Addr), PG' (X.blk s H scope (compEnvC scope cl C X.env) fp) c.nx gs1 tg1 ga1) (ht1 : ∀ (s : Shared) (H : Hp) (C : Addr) (cl : List (Str × Addr)) (fp : List Addr), PTs' (X.blk s H scope (compEnvC scope cl C X.env) fp) c.nx ifs1 t1)
    (he : ∀ (s : Shared) (H : Hp) (C : Addr) (cl : List (Str × Addr)) (fp : List Addr), PE' (X.blk s H scope (compEnvC scope cl C X.env) fp) c.nx .st elt fe) (hv : ∀ i ∈ vs1, i ∈ own.map (·.2) := by decide) (h1000 : ∀ i ∈ own.map (·.2), i < 1000 := by decide) (hgs : ∀ i, i ∈ gs → i ∈ own.map (·.2) := by decide) (hgs1 : ∀ i, i ∈ gs1 → i ∈ vs1 := by decide) (hs : ∀ x, foldedSetIterable iter X.env x = pure x := by intro _; rfl) (hs1 : ∀ env x, foldedSetIterable iter1 env x = pure x := by intro _ _; rfl)
    (hbt : bootBuiltins x = some (.builtin "sorted") := by decide +kernel) (hgl : Gl X x := by rfl) (hn : x ≠ "__name__" := by decide) (hdb : (x == ("__debug__" : Str)) = false := by decide) :
    PE' X c .fr (.Call (.Name x p1) [.SetComp elt [⟨tg, iter, ifs, 0⟩, ⟨tg1, iter1, ifs1, 0⟩] scope p2] [] pos) (srtSc2E fi ga t fi1 ga1 t1 fe (own.map (·.2)) vs1) :=
  peI (pe_callB (cr_sortedSet hc) hgl hm hbt (pa_cons (pe_scG2 (famI X.prog X.w X.K) hu hc hN hi ok hv hg ht hi1 hg1 ht1 he hs hs1) pa_nil rfl) hn hdb rfl rfl) fun σ H Q q => srtSc2_go (fun _ _ _ _ z => z) (fun _ _ _ z => z) (fun _ _ _ z => z) (fun _ _ _ _ z => z) (fun _ _ _ z => z) (fun _ _ _ z => z) h1000 hgs hgs1 q
end M
set_option Elab.async false
set_option linter.all false
set_option maxRecDepth 100000
set_option maxHeartbeats 4000000
namespace M
open PySem L2 PySem.Spec PyProof.Rows
section
variable {X : Cx} {pins : List (Addr × Obj)} {σ : L2.St} {H H' : Hp} {s : Shared} {a : Addr} {y v : V} {u r : Value} {A : Around} {E : Value → Shared → Prop}
theorem dct_put {Q : Unit → Shared → Prop} (hu : A.units + 1 < cLine) (I : Inv X pins σ H s) (g : DPut H a y v H') (ry : RelV y u) (rv : RelV v r) (h : ∀ s', Inv X pins σ H' s' → Q () s') :
    wpAny (model X.prog X.w) A (dictSet a u r) Q E s := by
  rcases g with ⟨kvs, k, e, rfl, l, rfl⟩ | ⟨kvs, k, b, e, rfl, eb, l, rfl⟩
  · obtain ⟨z, hd, vs, rel, dd⟩ := dk_of I.hok e
    have hl : (putK kvs k v).length ≤ sizeLine := by have := length_putK kvs k v; omega
    refine wpAny_dictSet_pairs (hsz := by rw [← rel.length]; exact z) (kV_is ry) dd fun h' dd' hs => h _ ?_
    exact d_write I (by rw [e]; exact True.intro) hs (let ⟨q, _, _, hq, _⟩ := dd'; ⟨q, hq⟩) (dk_new hl hd (rel.put k rv) dd')
  · cases (show u = Value.ref b from ry)
    obtain ⟨z, hd, xs, rel, dd⟩ := dt_of I.hok e
    have hl : (putK kvs k v).length ≤ sizeLine := by have := length_putK kvs k v; omega
    refine wpAny_dictSet_heap (hsz := by rw [← Paired.length rel]; exact z) (show A.units < cLine by omega) (key_of I.hok eb) dd fun h' dd' hs => h _ ?_
    obtain ⟨q, es, ep, hq, h2, h3, h4, _, h5⟩ := dd'
    refine d_write I (by rw [e]; exact True.intro) hs ⟨q, hq⟩ ⟨hl, hd, _, (rel.put k eb rv).keeps fun c ys ec => ?_, q, es, ep, hq, h2, h3, h4, h5⟩
    rw [upd_ne (ne_of ec e (fun z => nomatch z))]
    exact ec
end
structure DK (κ : Type) [DecidableEq κ] where
  key : D → Option κ
  mkd : List κ → List D → D
  ho : List (κ × V) → HO
  put : ∀ {k : Kn} {G H : Hp} {a : Addr} {d : D} {y v : V} {q : κ} {kvs : List (κ × V)}, Ex G H → key d = some q → RD k G d y → H a = some (ho kvs) → kvs.length < sizeLine → DPut H a y v (upd H a (ho (putK kvs q v)))
  cont : ∀ {k : Kn} {G : Hp} {ks : List κ} {ds : List D} {vs : List V}, ks.length = ds.length → RDs k G ds vs → Cont k G (mkd ks ds) (ho (ks.zip vs))
  new : ∀ {P : Program} {w : World} {H : Hp} (h : Heap), sysModules < h.objs.size → ObjOk P w H (h.push { cls := .type "dict", data := .dict #[] }) h.objs.size (ho [])
def dkT : DK (List Key) where
  key := keyT
  mkd := .dit
  ho := .dT
  put := fun e hq r ha hl => by
    obtain ⟨b, rfl, hb⟩ := keyT_now e hq (.inl r)
    exact DPut.t ha hb hl
  cont := fun l r => .dit l r
  new := fun h hb => dt_empty h hb
section
variable {κ : Type} [DecidableEq κ] {X : Cx}
def tDcG (F : DK κ) (wi : TI) (g : TG) (tt : TT) (tk tv : TE) (vs : List Nat) : TE := fun σ H Q => wi σ H fun J H1 => ∀ S, H1 S = none → ∃ W : Nat → Nat → Hp → Prop, (∃ m, W 0 m (upd H1 S (F.ho []))) ∧ ∀ i m H, W i m H →
  (J.stop i H ∧ Q (.ref S) H) ∨ (J.go i H ∧ ∃ Nx : Hp → Prop, (∀ H', Nx H' → ∃ m', m' < m ∧ W (i + 1) m' H') ∧ ∀ x H', J.yld i H x H' → g x (L2.wipe σ vs) H' fun σ2 H2 => L2.wipe σ2 vs = L2.wipe σ vs ∧ tt σ2 H2 fun b H3 =>
    if b = true then tk σ2 H3 fun y H4 => tv σ2 H4 fun z H5 => ∃ H6, DPut H5 S y z H6 ∧ Nx H6 else Nx H3)
theorem dcG_core {pins : List (Addr × Obj)} {s : Shared} {σ : L2.St} {H : Hp} {Q : VK} {pos' : Pos} {use : Option (Value → Sem Unit)} {Qf : Value → Shared → Prop} (I : Inv X pins σ H s) (F : DK κ) {kx vx tg iter : Expr} {ifs : List Expr} {scope : Scope} {own : List (Str × Nat)} {pos : Pos} {wi : TI} {g : TG} {tt : TT} {tk tv : TE} (hu : X.A.units + 64 < cLine) (hc : X.calm = true) (hN : X.N.Nodup) (hi : PI X tg iter wi) (ok : BlkOk X.N X.env.scope scope own)
    (hg : ∀ (s : Shared) (H : Hp) (C : Addr) (cl : List (Str × Addr)) (fp : List Addr), PG (X.blk s H scope (compEnvC scope cl C X.env) fp) tg g) (ht : ∀ (s : Shared) (H : Hp) (C : Addr) (cl : List (Str × Addr)) (fp : List Addr), PTs (X.blk s H scope (compEnvC scope cl C X.env) fp) ifs tt)
    (hk : ∀ (s : Shared) (H : Hp) (C : Addr) (cl : List (Str × Addr)) (fp : List Addr), PE (X.blk s H scope (compEnvC scope cl C X.env) fp) kx tk)
    (he : ∀ (s : Shared) (H : Hp) (C : Addr) (cl : List (Str × Addr)) (fp : List Addr), PE (X.blk s H scope (compEnvC scope cl C X.env) fp) vx tv) (hs : ∀ x, foldedSetIterable iter X.env x = pure x) (rd : tDcG F wi g tt tk tv (own.map (·.2)) σ H Q)
    (hRR : ∀ D C s' m H', Inv X pins σ H' s' → Q (.ref D) H' → s'.heap.Ns C m → FpOk X pins H' C → compPost (model X.prog X.w) X.A X.xe use Qf (.ref D) C (.ok .next) s') :
    wpAny (model X.prog X.w) X.A (comprehension (.DictComp kx vx [⟨tg, iter, ifs, 0⟩] scope pos) scope X.env pos' newDict false (eval iter X.env) use) Qf X.xe s := by
  have cells : ∀ y ∈ scope.names, y.2 = .free → ∃ c, X.env.cells.lookup y.1 = some c := fun y hy e => (ok.free y hy e).elim (fun k => I.ok.has _ (.inl k)) fun k => I.ok.has _ (.inr k)
  refine wpAny_comprehension_free (use := use) rfl hs (closure_ok cells) ok.kind (fun y hy e => by rw [ok.uniq y hy, e]) (thn (hi.run pins s σ H _ I rd) fun xv s1 hx => thn hx fun itv s2 h2 => ?_)
  obtain ⟨it, fp, tn, J, H2, rfl, I2, T, st2, f2, q⟩ := h2
  refine wpAny_newObj_type (newEnv_comp ?_)
  have hfr : H2 s2.heap.objs.size = none := I2.hok.fresh (Nat.le_refl _)
  generalize hA : s2.heap.objs.size = A0 at hfr
  obtain ⟨W, ⟨m0, w0⟩, turn⟩ := q A0 hfr
  obtain ⟨s3, hs3⟩ : ∃ s3 : Shared, s3 = { s2 with heap := s2.heap.push { cls := .type "dict", data := .dict #[] } } := ⟨_, rfl⟩
  obtain ⟨H3, hH3⟩ : ∃ H3 : Hp, H3 = upd H2 A0 (F.ho []) := ⟨_, rfl⟩
  have old : ∀ b o, s2.heap.get? b = some o → s3.heap.get? b = some o := fun b o e => by rw [hs3]; exact Heap.get?_push_of_some _ e
  have I3 : Inv X pins σ H3 s3 := by
    rw [hs3, hH3]
    exact I2.laid (t' := s2.toks) (fun b o e => Heap.get?_push_of_some _ e) (Nat.le_of_eq hA) (by rw [← hA]; exact F.new s2.heap I2.big)
  have there : ∀ b ∈ fp, b < s2.heap.objs.size := fun b hb => by
    obtain ⟨o, e, _⟩ := T.obj _ _ st2 b hb
    exact Heap.lt_size e
  have f3 : ∀ b ∈ fp, FpOk X pins H3 b ∧ b < s3.heap.objs.size := fun b hb => by
    have lt := there b hb
    refine ⟨⟨?_, (f2 b hb).2⟩, by rw [hs3]; exact (Heap.size_push ..).symm ▸ Nat.lt_succ_of_lt lt⟩
    rw [hH3, upd_ne (by rw [← hA]; exact Nat.ne_of_lt lt)]
    exact (f2 b hb).1
  have st3 : tn 0 s3.heap := T.keep _ _ _ st2 fun b _ o e => old b o e
  have I4 := block_start I3 ok hN f3
  have pg := hg s3 H3 s3.heap.objs.size (cellsFrom (s3.heap.objs.size + 1) scope.names (cloFrom X.env.cells scope.names [])) fp
  have pt := ht s3 H3 s3.heap.objs.size (cellsFrom (s3.heap.objs.size + 1) scope.names (cloFrom X.env.cells scope.names [])) fp
  have pk := hk s3 H3 s3.heap.objs.size (cellsFrom (s3.heap.objs.size + 1) scope.names (cloFrom X.env.cells scope.names [])) fp
  have pe := he s3 H3 s3.heap.objs.size (cellsFrom (s3.heap.objs.size + 1) scope.names (cloFrom X.env.cells scope.names [])) fp
  have goal : codeAny (model X.prog X.w) X.A (.compStart (.DictComp kx vx [⟨tg, iter, ifs, 0⟩] scope pos) 0 (.ref it) (.ref A0) (compEnvC scope (cellsFrom (s3.heap.objs.size + 1) scope.names (cloFrom X.env.cells scope.names [])) s3.heap.objs.size X.env))
      (compPost (model X.prog X.w) X.A X.xe use Qf (.ref A0) s3.heap.objs.size) { s3 with heap := pushCells (s3.heap.push { cls := .type "dict", data := .dict #[] }) scope.names } := by
    generalize hce : compEnvC scope (cellsFrom (s3.heap.objs.size + 1) scope.names (cloFrom X.env.cells scope.names [])) s3.heap.objs.size X.env = ce at I4 pg pt pk pe ⊢
    have cL : ce.locals = s3.heap.objs.size := by subst hce; rfl
    generalize hs4 : ({ s3 with heap := pushCells (s3.heap.push { cls := .type "dict", data := .dict #[] }) scope.names } : Shared) = s4 at I4 ⊢
    have st4 : tn 0 s4.heap := T.keep _ _ _ st3 fun b _ o e => by rw [← hs4]; exact pushCells_keeps _ _ _ _ (Heap.get?_push_of_some _ e)
    have fpo : ∀ {σ' : L2.St} {H' : Hp} {s' : Shared}, Inv (X.blk s3 H3 scope ce fp) [] σ' H' s' → (∀ b ∈ fp, H' b = none) → ∀ b ∈ fp, FpOk (X.blk s3 H3 scope ce fp) [] H' b := fun {σ' H' s'} J' hn b hb =>
      ⟨hn b hb, (J'.ok.exf b hb).1, J'.ok.exfs b hb, .inl hb, (J'.ok.exf b hb).2, fun p hp => by cases (show p ∈ ([] : List (Addr × Obj)) from hp)⟩
    have loop : codeAny (model X.prog X.w) X.A (.compLoop (.DictComp kx vx [⟨tg, iter, ifs, 0⟩] scope pos) 0 (.ref it) (.ref A0) ce) (compPost (model X.prog X.w) X.A X.xe use Qf (.ref A0) s3.heap.objs.size) s4 := by
      refine compLoop_anyD (fun n s' => ∃ i H', Inv (X.blk s3 H3 scope ce fp) [] (L2.wipe σ (own.map (·.2))) H' s' ∧ tn i s'.heap ∧ (∀ b ∈ fp, H' b = none) ∧ W i n H') ?_ m0 ⟨0, H3, I4, st4, fun b hb => (f3 b hb).1.1, by rw [hH3]; exact w0⟩
      rintro n s5 ⟨i, H5, I5, st5, n5, w5⟩
      rcases turn i n H5 w5 with ⟨stop, qq⟩ | ⟨go, Nx, hNx, step⟩
      · refine thnF (T.done (X.blk s3 H3 scope ce fp) rfl rfl rfl hc i [] s5 _ H5 (fun _ _ => False) I5 (fpo I5 n5) st5 stop) fun r s6 ⟨hr, I6⟩ => ?_
        subst hr
        have I7 : Inv X pins σ H5 s6 := I3.call' (ch := fp) I6.os I6.base I6.hok I6.bare fun b hb => ⟨(f3 b hb).1.2.2.2.1, (f3 b hb).1.2.1, (f3 b hb).1.2.2.2.2.1, (f3 b hb).1.2.2.2.2.2⟩
        have nC : H5 s3.heap.objs.size = none := by rw [← cL]; exact I6.free
        obtain ⟨m, hn, _⟩ := I6.loc
        have hn : s6.heap.Ns ce.locals m := hn
        rw [cL] at hn
        exact hRR A0 s3.heap.objs.size s6 m H5 I7 qq hn (I3.fpOk (Nat.le_refl _) nC)
      · refine thnF (T.item (X.blk s3 H3 scope ce fp) rfl rfl rfl hc i [] s5 _ H5 (fun _ _ => False) I5 (fpo I5 n5) st5 go) fun r s6 ⟨u, hr, h6⟩ => ?_
        subst hr
        refine thnF h6 fun _ s7 ⟨x, H7, I7, r7, y7, st7, n7⟩ => ?_
        have I7' := I7.pinned (fpo I7 n7) (T.obj _ _ st7)
        refine thnF (pg.run _ s7 _ H7 x u _ I7' r7 (step x H7 y7)) fun _ s8 ⟨σ8, H8, I8, hw8, q8⟩ => ?_
        refine thnF (pt.run _ s8 σ8 H8 _ I8 q8) fun b s9 ⟨H9, I9, q9⟩ => ?_
        have fin : ∀ {s' : Shared} {H' : Hp}, Inv (X.blk s3 H3 scope ce fp) ([] ++ pinsAt fp s7.heap) σ8 H' s' → Nx H' → ∃ m, m < n ∧ ∃ i H', Inv (X.blk s3 H3 scope ce fp) [] (L2.wipe σ (own.map (·.2))) H' s' ∧ tn i s'.heap ∧ (∀ b ∈ fp, H' b = none) ∧ W i m H' := fun {s' H'} I' nx => by
          obtain ⟨m', hm, w'⟩ := hNx H' nx
          have pinned : ∀ b ∈ fp, ∀ o, s7.heap.get? b = some o → s'.heap.get? b = some o ∧ H' b = none := fun b hb o e =>
            let z := I'.pin (b, o) (List.mem_append_right _ (List.mem_append_right _ (mem_pinsAt hb e)))
            ⟨z.1, z.2.1⟩
          refine ⟨m', hm, i + 1, H', (I'.unpinned (pins := [])).weak (by rw [← hw8, wipe_length]) (fun j v e => ?_), T.keep _ _ _ st7 fun b hb o e => (pinned b hb o e).1, fun b hb => ?_, w'⟩
          · rw [← hw8] at e
            exact (wipe_some e).1
          · obtain ⟨o, e, _⟩ := T.obj _ _ st7 b hb
            exact (pinned b hb o e).2
        match b, q9 with
        | false, q9 => exact fin I9 q9
        | true, q9 =>
          refine thnF (pk.run _ s9 σ8 H9 _ I9 q9) fun z s10 ⟨yk, H10, I10, r10, q10⟩ => ?_
          refine thnF (pe.run _ s10 σ8 H10 _ I10 q10) fun z2 s11 ⟨yv, H11, I11, r11, H12, dp, nx⟩ => ?_
          exact dct_put (X := X.blk s3 H3 scope ce fp) (by show X.A.units + 1 < cLine; omega) I11 dp r10 r11 fun s12 I12 => fin I12 nx
    exact codeAny_compStart_dict loop (T.self X.A 0 _ _ _ st4 loop)
  rw [hs3] at goal
  exact goal
theorem ps_setDcG (F : DK κ) {i : Nat} {y : Str} {py : Pos} {kx vx tg iter : Expr} {ifs : List Expr} {scope : Scope} {own : List (Str × Nat)} {pos spos : Pos} {wi : TI} {g : TG} {tt : TT} {tk tv : TE} (hu : X.A.units + 64 < cLine) (hc : X.calm = true) (hN : X.N.Nodup) (hy : X.N[i]? = some y) (hyl : X.env.scope.names.lookup y = some .local)
    (hsw : swapsWith (.DictComp kx vx [⟨tg, iter, ifs, 0⟩] scope pos) (some (.Name y py)) spos.line X.env = pure true) (hi : PI X tg iter wi) (ok : BlkOk X.N X.env.scope scope own)
    (hg : ∀ (s : Shared) (H : Hp) (C : Addr) (cl : List (Str × Addr)) (fp : List Addr), PG (X.blk s H scope (compEnvC scope cl C X.env) fp) tg g) (ht : ∀ (s : Shared) (H : Hp) (C : Addr) (cl : List (Str × Addr)) (fp : List Addr), PTs (X.blk s H scope (compEnvC scope cl C X.env) fp) ifs tt)
    (hk : ∀ (s : Shared) (H : Hp) (C : Addr) (cl : List (Str × Addr)) (fp : List Addr), PE (X.blk s H scope (compEnvC scope cl C X.env) fp) kx tk)
    (he : ∀ (s : Shared) (H : Hp) (C : Addr) (cl : List (Str × Addr)) (fp : List Addr), PE (X.blk s H scope (compEnvC scope cl C X.env) fp) vx tv) (hs : ∀ x, foldedSetIterable iter X.env x = pure x := by intro _; rfl) :
    PS X (.Assign [.Name y py] (.DictComp kx vx [⟨tg, iter, ifs, 0⟩] scope pos) spos) (tAsg (tDcG F wi g tt tk tv (own.map (·.2))) (gName i)) := by
  constructor
  intro pins s σ H D I h
  rw [exec_Assign_Name_used _ _ _ _ hsw]
  refine wpAny_bind (wpAny_standAt (wpAny_bind ?_))
  show wpAny _ X.A (do let _ ← comprehension (.DictComp kx vx [⟨tg, iter, ifs, 0⟩] scope pos) scope X.env (firstIterPos [⟨tg, iter, ifs, 0⟩] pos) newDict false (eval iter X.env) (some (assign (.Name y py) X.env))) _ _ s
  have h : tDcG F wi g tt tk tv (own.map (·.2)) σ H (fun x H1 => gName i x σ H1 D.nx) := h
  refine wpAny_bind (thn (dcG_core (Qf := fun _ s' => SP X pins D .next s') I F hu hc hN hi ok hg ht hk he hs h fun L C s' m H' I' q hn f => ?_) fun _ s' hq => wpAny_pure (wpAny_pure hq))
  show wpAny _ _ (assign (.Name y py) X.env (.ref L)) _ _ _
  refine wpAny_assign_Name (store_ok2 (v := V.ref L) I' hN hy (.inl hyl) rfl (fun s2 I2 ⟨a, sb, ha⟩ => ?_) (.inr hyl))
  have haC : C ≠ a := by
    rcases ha with z | z
    · rw [z]; exact f.2.1
    · exact fun e => f.2.2.2.2.1 y a z e.symm
  refine ⟨m, hn.sameBut sb haC, fun h3 sb3 => ?_⟩
  exact ⟨_, H', I2.turned (t' := s2.toks) (fun b o hb e => (sb3.2 b hb).trans e) f.1 f.2.1 f.2.2.2.1 f.2.2.2.2.1 f.2.2.2.2.2, q⟩
end
end M
set_option Elab.async false
set_option linter.all false
set_option maxRecDepth 100000
set_option maxHeartbeats 4000000
namespace M
open PySem L2
section
variable {κ : Type} [DecidableEq κ]
theorem putL_nodup {ks : List κ} {ds : List D} {q : κ} {d : D} (h : ks.Nodup) : (putL ks ds q d).1.Nodup := by
  unfold putL
  cases e : ks.idxOf? q with
  | some i => exact h
  | none =>
    rw [List.idxOf?_eq_none_iff] at e
    rw [List.nodup_append]
    exact ⟨h, by simp, fun a ha b hb z => by rw [List.mem_singleton] at hb; subst hb; exact e (z ▸ ha)⟩
theorem putL_len {ks : List κ} {ds : List D} {q : κ} {d : D} (h : ks.length = ds.length) : (putL ks ds q d).1.length = (putL ks ds q d).2.length := by
  unfold putL
  cases e : ks.idxOf? q <;> simp [h]
theorem putL_le {ks : List κ} {ds : List D} {q : κ} {d : D} : (putL ks ds q d).1.length ≤ ks.length + 1 := by
  unfold putL
  cases e : ks.idxOf? q <;> simp
def putAll (ps : List (κ × D)) : List κ × List D := ps.foldl (fun z p => putL z.1 z.2 p.1 p.2) ([], [])
theorem putAll_snoc (ps : List (κ × D)) (p : κ × D) : putAll (ps ++ [p]) = putL (putAll ps).1 (putAll ps).2 p.1 p.2 := by unfold putAll; rw [List.foldl_append]; rfl
theorem rev_ind' {α : Type} {P : List α → Prop} (h0 : P []) (h1 : ∀ xs x, P xs → P (xs ++ [x])) (xs : List α) : P xs := by
  rw [← List.reverse_reverse xs]
  induction xs.reverse with
  | nil => exact h0
  | cons x xs ih => rw [List.reverse_cons]; exact h1 _ _ ih
theorem putAll_nodup : ∀ ps : List (κ × D), (putAll ps).1.Nodup := rev_ind' (by simp [putAll]) fun xs x ih => by rw [putAll_snoc]; exact putL_nodup ih
theorem putAll_len : ∀ ps : List (κ × D), (putAll ps).1.length = (putAll ps).2.length := rev_ind' (by simp [putAll]) fun xs x ih => by rw [putAll_snoc]; exact putL_len ih
theorem putAll_le : ∀ ps : List (κ × D), (putAll ps).1.length ≤ ps.length := rev_ind' (by simp [putAll]) fun xs x ih => by
  rw [putAll_snoc]
  have := putL_le (ks := (putAll xs).1) (ds := (putAll xs).2) (q := x.1) (d := x.2)
  rw [List.length_append]; simp; omega
end
theorem swT_dc {kx vx : Expr} {gens : List Comprehension} {scope : Scope} {pos py : Pos} {l : Nat} {y : Str} {env : PySem.Env} (hk : env.scope.kind = .function) (hy : env.scope.names.lookup y = some .local) (hl : (py.line == pos.line) = true)
    (ha : (scope.names.any fun (n, k) => n == y && (k == .local || k == .cell)) = false) : swapsWith (.DictComp kx vx gens scope pos) (some (.Name y py)) l env = pure true := by
  have ky : env.kindOf y = some .local := hy
  have hb : env.blockKind = .function := by unfold Env.blockKind; rw [hk]; rfl
  unfold swapsWith
  simp only [hb, ky, ha, Expr.pos, hl]
  rfl
def dcF (ga : FG) (t : FT) (fk fv : FE) (S : Env) : List D → R (List (D × D))
  | [] => .ok []
  | d :: ds => (ga d S).nox >>= fun S1 => (t S1).nox >>= fun b => if b then (fk S1).nox >>= fun y => (fv S1).nox >>= fun z => dcF ga t fk fv S ds >>= fun ys => .ok ((y, z) :: ys) else dcF ga t fk fv S ds
theorem dcF_exc {ga : FG} {t : FT} {fk fv : FE} {S : Env} {x : Exc} : ∀ ds, dcF ga t fk fv S ds ≠ .exc x
  | [] => by intro h; cases h
  | d :: ds => by
    intro h
    unfold dcF at h
    obtain ⟨S1, _, h⟩ := nox_exc h
    obtain ⟨b, _, h⟩ := nox_exc h
    cases b with
    | false => exact dcF_exc ds h
    | true =>
      rw [if_pos rfl] at h
      obtain ⟨y, _, h⟩ := nox_exc h
      obtain ⟨z, _, h⟩ := nox_exc h
      cases e4 : dcF ga t fk fv S ds with
      | ok ys => rw [e4] at h; cases h
      | exc y => exact dcF_exc ds e4
      | fail => rw [e4] at h; cases h
section
variable {κ : Type} [DecidableEq κ]
def keysOf (F : DK κ) : List (D × D) → Option (List (κ × D))
  | [] => some []
  | p :: ps => match F.key p.1, keysOf F ps with
    | some q, some qs => some ((q, p.2) :: qs)
    | _, _ => none
def dcEnd (F : DK κ) (qs : List (κ × D)) (ps : List (D × D)) : R D := match keysOf F ps with
  | some rs => if (qs ++ rs).length ≤ 900 then .ok (F.mkd (putAll (qs ++ rs)).1 (putAll (qs ++ rs)).2) else .fail
  | none => .fail
def dcE (F : DK κ) (fi : FI) (ga : FG) (t : FT) (fk fv : FE) (vs : List Nat) : FE := fun S => fi S >>= fun ds => dcF ga t fk fv (wipeS S vs) ds >>= fun ps => dcEnd F [] ps
theorem dc_key {F : DK κ} {c : Cf} {G H : Hp} {S : Env} {σ : L2.St} {Q : VK} {qs : List (κ × D)} {y z : D} {ps : List (D × D)} (p : PostE c .fr G S σ H Q (dcEnd F qs ((y, z) :: ps))) :
    ∃ q, F.key y = some q ∧ qs.length < 901 ∧ PostE c .fr G S σ H Q (dcEnd F (qs ++ [(q, z)]) ps) := by
  unfold dcEnd at p
  simp only [keysOf] at p
  cases e1 : F.key y with
  | none => rw [e1] at p; exact p.elim
  | some q =>
    cases e2 : keysOf F ps with
    | none => rw [e1, e2] at p; exact p.elim
    | some rs =>
      rw [e1, e2] at p
      dsimp only at p
      by_cases hl : (qs ++ (q, z) :: rs).length ≤ 900
      · rw [if_pos hl] at p
        refine ⟨q, rfl, by simp at hl; omega, ?_⟩
        unfold dcEnd
        rw [e2]
        dsimp only
        have e : qs ++ [(q, z)] ++ rs = qs ++ (q, z) :: rs := by simp
        rw [e, if_pos hl]
        exact p
      · rw [if_neg hl] at p; exact p.elim
theorem dc_go {F : DK κ} {c : Cf} {t : FT} {ki gs vs : List Nat} {fi : FI} {ga : FG} {fk fv : FE} {σ : L2.St} {H : Hp} {Q : VK} {gi : TG} {tt : TT} {tk tv : TE} (hg : ∀ v σ H Q, RdG c.nx gs ga v σ H Q → gi v σ H Q) (ht : ∀ σ H Q, RdT c.nx t σ H Q → tt σ H Q)
    (hk : ∀ σ H Q, RdE c.nx .st fk σ H Q → tk σ H Q) (hv : ∀ σ H Q, RdE c.nx .st fv σ H Q → tv σ H Q) (hgs : ∀ i, i ∈ gs → i ∈ vs) (q : RdE c .fr (dcE F fi ga t fk fv vs) σ H Q) : tDcG F (RdI c ki fi) gi tt tk tv vs σ H Q := by
  obtain ⟨G, S, rel, p⟩ := q
  refine ⟨G, S, rel, ?_⟩
  have p : PostE c .fr G S σ H Q (fi S >>= fun ds => dcF ga t fk fv (wipeS S vs) ds >>= fun ps => dcEnd F [] ps) := p
  cases e0 : fi S with
  | exc x => rw [e0] at p; exact p
  | fail => rw [e0] at p; exact p
  | ok ds =>
    rw [e0, R.ok_bind] at p
    intro J G1 H1 sp it Dl hD
    have relb := ((rel.grow sp).wipe vs).cw (W := liftX E0)
    have hD0 : H Dl = none := sp.h.free hD
    refine ⟨fun i m H2 => m = ds.length - i ∧ i ≤ ds.length ∧ ∃ G2 qs av, Step G1 H1 G2 H2 ∧ G2 Dl = none ∧ H2 Dl = some (F.ho ((putAll qs).1.zip av)) ∧ RDs c.k G2 (putAll qs).2 av ∧
        PostE c .fr G S σ H Q (dcF ga t fk fv (wipeS S vs) (ds.drop i) >>= fun ps => dcEnd F qs ps),
      ⟨_, rfl, Nat.zero_le _, G1, [], [], Step.new' sp.gh hD, sp.gh.free hD, upd_same, .nil, by simpa using p⟩, ?_⟩
    rintro i m H2 ⟨rfl, hle, G2, qs, av, sp2, hGD, hHD, hr, p2⟩
    have rel2 : Rel c.nx G2 (wipeS S vs) (L2.wipe σ vs) H2 := relb.grow sp2
    have itm := it G2 H2 sp2.g sp2.gh fun j hj x ow => by
      obtain ⟨_, _, o, _, ho, _⟩ := (rel.grow sp).own ow
      rw [ho, sp2.h _ _ ho]
    have nD : ∀ {G6 H6 : Hp}, Step G2 H2 G6 H6 → G6 Dl = none ∧ H6 Dl = some (F.ho ((putAll qs).1.zip av)) := fun {G6 H6} z => by
      refine ⟨?_, z.h _ _ hHD⟩
      cases q : G6 Dl with
      | none => rfl
      | some o =>
        rcases z.gr _ _ q with w | w
        · rw [hGD] at w; cases w
        · rw [hHD] at w; cases w
    by_cases hlt : i < ds.length
    · obtain ⟨d, hd⟩ : ∃ d, ds[i]? = some d := ⟨ds[i], List.getElem?_eq_getElem hlt⟩
      have hdrop : ds.drop i = d :: ds.drop (i + 1) := by
        rw [List.drop_eq_getElem_cons hlt]; congr 1; rw [List.getElem?_eq_getElem hlt] at hd; exact Option.some.inj hd
      rw [hdrop] at p2
      obtain ⟨hgo, hy⟩ := itm.2 i d hd
      refine .inr ⟨hgo, fun H' => ∃ G3 qs av, Step G1 H1 G3 H' ∧ G3 Dl = none ∧ H' Dl = some (F.ho ((putAll qs).1.zip av)) ∧ RDs c.k G3 (putAll qs).2 av ∧
        PostE c .fr G S σ H Q (dcF ga t fk fv (wipeS S vs) (ds.drop (i + 1)) >>= fun ps => dcEnd F qs ps), fun H' ⟨G3, r3⟩ => ⟨_, by omega, rfl, hlt, G3, r3⟩, fun x H3 hx => ?_⟩
      obtain ⟨G3, sp3, hd3⟩ := hy x H3 hx
      refine hg x _ H3 _ ⟨G3, wipeS S vs, d, rel2.grow sp3, hd3, ?_⟩
      unfold dcF at p2
      cases e1 : ga d (wipeS S vs) with
      | exc x => rw [e1] at p2; exact p2.elim
      | fail => rw [e1] at p2; exact p2.elim
      | ok S1 =>
        rw [e1, R.nox_ok, R.ok_bind] at p2
        intro G4 σ4 H4 sp4 rel4 f4
        refine ⟨wipe_eq (by rw [f4.len, wipe_length]) fun j hj => f4.sg j fun z => hj (hgs j z), ht σ4 H4 _ ⟨G4, S1, rel4, ?_⟩⟩
        cases e2 : t S1 with
        | exc x => rw [e2] at p2; exact p2.elim
        | fail => rw [e2] at p2; exact p2.elim
        | ok b =>
          rw [e2, R.nox_ok, R.ok_bind] at p2
          intro G5 H5 sp5
          have spA : Step G2 H2 G5 H5 := (sp3.trans sp4).trans sp5
          cases b with
          | false =>
            rw [if_neg Bool.false_ne_true] at p2 ⊢
            exact ⟨G5, qs, av, sp2.trans spA, (nD spA).1, (nD spA).2, hr.mono spA.g, p2⟩
          | true =>
            rw [if_pos rfl] at p2 ⊢
            refine hk σ4 H5 _ ⟨G5, S1, rel4.grow sp5, ?_⟩
            cases e3 : fk S1 with
            | exc x => rw [e3] at p2; exact p2.elim
            | fail => rw [e3] at p2; exact p2.elim
            | ok y =>
              rw [e3, R.nox_ok, R.ok_bind] at p2
              intro v G6 H6 sp6 ry
              have ry : RD c.k G6 y v := ry
              refine hv σ4 H6 _ ⟨G6, S1, rel4.grow (sp5.trans sp6), ?_⟩
              cases e5 : fv S1 with
              | exc x => rw [e5] at p2; exact p2.elim
              | fail => rw [e5] at p2; exact p2.elim
              | ok z =>
                rw [e5, R.nox_ok, R.ok_bind] at p2
                intro u G7 H7 sp7 rz
                have rz : RD c.k G7 z u := rz
                have spB := (spA.trans sp6).trans sp7
                have nB := nD spB
                cases e4 : dcF ga t fk fv (wipeS S vs) (ds.drop (i + 1)) with
                | exc x => exact absurd e4 (dcF_exc _)
                | fail => rw [e4] at p2; exact p2.elim
                | ok ps =>
                  rw [e4] at p2
                  obtain ⟨qk, hqk, hql, p3⟩ := dc_key (ps := ps) p2
                  have hz : ((putAll qs).1.zip av).length < sizeLine := by
                    have h1 := putAll_le qs
                    have h2 : (901 : Nat) < sizeLine := by rw [sizeLine_eq]; decide
                    rw [List.length_zip]; exact Nat.lt_of_le_of_lt (Nat.min_le_left _ _) (by omega)
                  obtain ⟨av', e6, r', l'⟩ := putL_zip (q := qk) (putAll_nodup qs) (putAll_len qs) (hr.mono spB.g) rz
                  refine ⟨_, F.put sp7.gh hqk (ry.mono sp7.g) nB.2 hz, ?_⟩
                  have spC : Step G1 H1 G7 (upd H7 Dl (F.ho (putK ((putAll qs).1.zip av) qk u))) := by
                    have w := sp2.trans spB
                    exact ⟨w.g, w.h.upd hD, w.gh.upd nB.1, w.gr⟩
                  refine ⟨G7, qs ++ [(qk, z)], av', spC, nB.1, ?_, ?_, ?_⟩
                  · rw [upd_same, e6, putAll_snoc]
                  · rw [putAll_snoc]; exact r'
                  · rw [R.ok_bind]; exact p3
    · have hi : i = ds.length := by omega
      subst hi
      rw [List.drop_length] at p2
      refine .inl ⟨itm.1 _ (Nat.le_refl _), ?_⟩
      have p2 : PostE c .fr G S σ H Q (dcEnd F qs []) := p2
      unfold dcEnd at p2
      simp only [keysOf, List.append_nil] at p2
      by_cases hl : qs.length ≤ 900
      · rw [if_pos hl] at p2
        exact p2 _ G2 H2 (sp.trans sp2) ⟨Dl, _, rfl, hGD, hD0, hHD, F.cont (putAll_len qs) hr⟩
      · rw [if_neg hl] at p2; exact p2.elim
theorem s_dcZ (i : Nat) {X : Cx} {c : Cf} {tg : Expr} {t : FT} {fr : Bool} {pos py spos : Pos} {y : Str} (F : DK κ) {kx vx iter : Expr} {ifs : List Expr} {scope : Scope} (own : List (Str × Nat)) {ki gs : List Nat} {fi : FI} {ga : FG} {fk fv : FE} (hu : X.A.units + 64 < cLine) (hc : X.calm = true) (hN : X.N.Nodup) (hi : PI' X c ki tg iter fi) (ok : BlkOk X.N X.env.scope scope own)
    (hg : ∀ (s : Shared) (H : Hp) (C : Addr) (cl : List (Str × Addr)) (fp : List Addr), PG' (X.blk s H scope (compEnvC scope cl C X.env) fp) c.nx gs tg ga) (ht : ∀ (s : Shared) (H : Hp) (C : Addr) (cl : List (Str × Addr)) (fp : List Addr), PTs' (X.blk s H scope (compEnvC scope cl C X.env) fp) c.nx ifs t)
    (hk : ∀ (s : Shared) (H : Hp) (C : Addr) (cl : List (Str × Addr)) (fp : List Addr), PE' (X.blk s H scope (compEnvC scope cl C X.env) fp) c.nx .st kx fk) (hv : ∀ (s : Shared) (H : Hp) (C : Addr) (cl : List (Str × Addr)) (fp : List Addr), PE' (X.blk s H scope (compEnvC scope cl C X.env) fp) c.nx .st vx fv)
    (hy : X.N[i]? = some y := by rfl) (hyl : X.env.scope.names.lookup y = some .local := by rfl) (hsw : swapsWith (.DictComp kx vx [⟨tg, iter, ifs, 0⟩] scope pos) (some (.Name y py)) spos.line X.env = pure true := by exact swT_dc rfl rfl rfl (by decide +kernel))
    (hgs : ∀ i, i ∈ gs → i ∈ own.map (·.2) := by decide) (hs : ∀ x, foldedSetIterable iter X.env x = pure x := by intro _; rfl) :
    PS' X c fr [i] (.Assign [.Name y py] (.DictComp kx vx [⟨tg, iter, ifs, 0⟩] scope pos) spos) (sSet i (dcE F fi ga t fk fv (own.map (·.2)))) :=
  psI (ps_setDcG F hu hc hN hy hyl hsw hi ok hg ht hk hv hs) fun Dn σ H q => dc_go (fun _ _ _ _ z => z) (fun _ _ _ z => z) (fun _ _ _ z => z) (fun _ _ _ z => z) hgs (setF_go q)
end
end M
set_option Elab.async false
set_option linter.all false
set_option maxRecDepth 100000
set_option maxHeartbeats 4000000
namespace M
open PySem L2
variable {X : Cx} {c : Cf} {kd k1 k2 k3 : Kd} {e o : Expr} {f g h : FE} {pos apos cpos : Pos} {k : Kn}
def idxD (x y : D) : R D := match x with
  | .lst ds => if dok 60 y && doks 59 ds then (match ds.findIdx? fun z => deq z y with | some j => .ok (.int j) | none => .fail) else .fail
  | _ => .fail
def isLst : D → Bool
  | .lst _ => true
  | _ => false
def eIdx (f g : FE) : FE := fun S => f S >>= fun x => if isLst x then g S >>= fun y => (idxD x y).nox else .fail
theorem toPs_get : ∀ {ds : List D} {j : Nat} {d : D}, ds[j]? = some d → (D.toPs ds)[j]? = some d.toP
  | [], _, _, h => by simp at h
  | d :: ds, 0, _, h => by simp at h; subst h; simp [D.toPs]
  | d :: ds, j + 1, _, h => by simp only [D.toPs]; simpa using toPs_get (ds := ds) (by simpa using h)
theorem toPs_back : ∀ {ds : List D} {j : Nat} {z : PyData}, (D.toPs ds)[j]? = some z → ∃ d, ds[j]? = some d ∧ z = d.toP
  | [], _, _, h => by simp [D.toPs] at h
  | d :: ds, 0, _, h => by simp [D.toPs] at h; exact ⟨d, by simp, h.symm⟩
  | d :: ds, j + 1, _, h => by simp only [D.toPs] at h; simpa using toPs_back (ds := ds) (by simpa using h)
theorem idx_go (hk : k.K = X.K) {G H : Hp} {x y : D} {u v : V} {d : D} {Q : VK} (ex : Ex G H) (nx : Now k G H x u) (ny : Now k G H y v) (hg : idxD x y = .ok d) (q : ∀ j : Int, d = .int j → Q (.int j) H) : rIndexD X.K u [v] H Q := by
  cases x with
  | lst ds =>
    simp only [idxD] at hg
    split at hg
    · rename_i hf
      simp only [Bool.and_eq_true] at hf
      split at hg
      · rename_i j hj
        cases hg
        obtain ⟨a, vs, rfl, ha, r⟩ := nx.lst ex
        have hl : dok 60 (.lst ds) = true := by simp only [dok]; exact hf.2
        have ds' : SeqAt.shaped (.list (D.toPs ds)) = true := by
          have := dok_shaped hl
          simpa only [D.toP] using this
        rw [List.findIdx?_eq_some_iff_getElem] at hj
        obtain ⟨h1, h2, h3⟩ := hj
        refine ⟨a, v, y.toP, D.toPs ds, j, (ds[j]).toP, rfl, rfl, hk ▸ .lst (SqL.of ha) ((r.mono ex).dp 59 hf.2), hk ▸ (ny.rd ex).dp 60 hf.1, ds', dok_shaped hf.1, toPs_get (by simp [h1]), ?_, fun m z' hm hz => ?_, q _ rfl⟩
        · rw [deq_eqv 59 60 _ _ (doks_mem hf.2 (List.getElem_mem h1)) hf.1]; exact h2
        · obtain ⟨d', hd', rfl⟩ := toPs_back hz
          have hm2 : d' ∈ ds := List.mem_of_getElem? hd'
          rw [deq_eqv 59 60 _ _ (doks_mem hf.2 hm2) hf.1]
          have := h3 m hm
          obtain ⟨hlt, e⟩ := List.getElem?_eq_some_iff.mp hd'
          subst e
          simpa using this
      · cases hg
    · cases hg
  | _ => simp [idxD] at hg
theorem d_idx (hk : c.k.K = X.K) (hu : X.A.units + 65 < cLine) (ho : PE' X c k1 o f) (he : PE' X c k2 e g)
    (h3 : starEach [e] X.env = [(false, eval e X.env)] := by rfl) (hb : attributeBase o "index" X.env (eval o X.env) = eval o X.env := by rfl) (h2 : (apos.endLine == cpos.line) = true := by rfl) :
    PE' X c .st (.Call (.Attribute o "index" apos) [e] [] cpos) (eIdx f g) :=
  peI (pe_bm PySem.F.plainAttrs_list PySem.F.slot_list_index PySem.F.type_list_index (mt_indexD hu) ho (pa_cons he pa_nil h3) hb (by rw [h3]; rfl) h2 h3 rfl) fun σ H Q ⟨G, S, rel, p⟩ => by
    refine rdE_go (g := fun x => if isLst x then g S >>= fun y => (idxD x y).nox else .fail) (Post := PostE c .st G S σ H Q) rel p (fun _ z => z) (fun z => z) fun d1 v1 G1 H1 s1 q1 p1 => ?_
    by_cases hl : isLst d1 = true
    · rw [if_pos hl] at p1
      have ty : tyV X.K "list" v1 H1 := by
        cases d1 <;> simp only [isLst] at hl <;> first | (cases hl; done) | skip
        obtain ⟨a, vs, rfl, ha, r⟩ := q1.now.lst s1.gh
        exact .inl ⟨rfl, vs, SqL.of ha⟩
      refine ⟨ty, ?_⟩
      refine rdE_go (g := fun y => (idxD d1 y).nox) (Post := PostE c .st G S σ H Q) (rel.grow s1) p1 (fun _ z => z) (fun z => z) fun d2 v2 G2 H2 s2 q2 p2 => ?_
      cases e : idxD d1 d2 with
      | exc x => rw [e] at p2; exact p2.elim
      | fail => rw [e] at p2; exact p2.elim
      | ok d =>
        rw [e] at p2
        refine idx_go hk s2.gh (q1.now.grow s2) q2.now e fun j hj => ?_
        subst hj
        exact p2 _ G2 H2 (s1.trans s2) (.int _)
    · rw [if_neg hl] at p1; exact p1.elim
end M
set_option Elab.async false
set_option linter.all false
set_option maxRecDepth 100000
set_option maxHeartbeats 4000000
namespace M
open PySem L2 PySem.W
section
variable {prog : Program} {w : World} {A : Around} {E : Value → Shared → Prop} {s : Shared} {K : PySem.W.Frag} {a C f : Addr} {ox : Obj} {od : Option Obj} {x : Value}
end
section
variable {X : Cx} {k : Kn} {lv m' ci : Nat} {den : List D → R D}
end
section
variable {X : Cx} {c : Cf} {a b : Expr} {f g : FE} {pos : Pos} {den : List D → R D}
def hasB (neg : Bool) : D → R D
  | .bl b => .ok (.bl (b != neg))
  | _ => .fail
def eHas (ci : Nat) (den : List D → R D) (neg : Bool) (f g : FE) : FE := fun S => f S >>= fun x => g S >>= fun o => if o.isObj ci then (den [o, x]).nox >>= hasB neg else .fail
end
end M
set_option Elab.async false
set_option linter.all false
set_option maxRecDepth 100000
set_option maxHeartbeats 4000000
namespace M
open PySem L2 PyProof.Rows
open PySem.Sem (wp)
def boolD : D → R D
  | .lst ds => .ok (.bl (!ds.isEmpty))
  | .tup ds => .ok (.bl (!ds.isEmpty))
  | .bl b => .ok (.bl b)
  | .int i => .ok (.bl (i != 0))
  | _ => .fail
section
variable {X : Cx} {k : Kn}
end
end M
set_option Elab.async false
set_option linter.all false
set_option maxRecDepth 100000
set_option maxHeartbeats 4000000
namespace M
open PySem L2 RZ
end M
set_option Elab.async false
set_option linter.all false
set_option maxRecDepth 100000
set_option maxHeartbeats 4000000
namespace M
open PySem L2
section
variable {X : Cx} {c : Cf} {kd k1 k2 k3 : Kd} {a b e o : Expr} {f g h : FE} {pos apos : Pos} {fr : Bool} {x : Str} {den : List D → R D} {ci : Nat}
theorem d_cmethXF {lv m' : Nat} (ci : Nat) {m : Str} {n : Nat} {es : List Expr} {fa : FA} {pl : Sem Bool} (F : CmethX X.prog X.w X.K X.mg X.base c.k lv ci m (n + 1) true den) (hr : Room m' X.A) (hle : lv ≤ m') (tk : L2N.Takes X c.W) (ho : PE' X c .st o f) (ha : PA' X c false (e :: es) fa) (hl : Len n fa)
    (hst : starEach (e :: es) X.env = (false, eval e X.env) :: starEach es X.env := by rfl) (hpl : (backTo pos (starEach es X.env)).any (·.1) = false := by rfl)
    (ht : eval (.Call (.Attribute o m apos) (e :: es) [] pos) X.env = (do
      let ov ← eval o X.env
      standAt apos.atName
      let (f, first) ← holding [ov] (getMethod ov m pl)
      callWith pos f first (backTo pos (starEach (e :: es) X.env)) (backToKw pos (keywordEach [] X.env))) := by rfl) :
    PE' X c .fr (.Call (.Attribute o m apos) (e :: es) [] pos) (eCMX ci den f fa) := d_cmethX ci F hr hle tk ho ha hl hst hpl ht
theorem s_lc2Z (i : Nat) {y : Str} {py spos : Pos} {tg tg1 : Expr} {t t1 : FT} {elt iter iter1 : Expr} {ifs ifs1 : List Expr} {scope : Scope} (own : List (Str × Nat)) (vs1 : List Nat) {ki gs ki1 gs1 : List Nat} {fi fi1 : FI} {ga ga1 : FG} {fe : FE} (hc : X.calm = true) (hN : X.N.Nodup) (hi : PI' X c ki tg iter fi) (ok : BlkOk X.N X.env.scope scope own)
    (hg : ∀ (s : Shared) (H : Hp) (C : Addr) (cl : List (Str × Addr)) (fp : List Addr), PG' (X.blk s H scope (compEnvC scope cl C X.env) fp) c.nx gs tg ga) (ht : ∀ (s : Shared) (H : Hp) (C : Addr) (cl : List (Str × Addr)) (fp : List Addr), PTs' (X.blk s H scope (compEnvC scope cl C X.env) fp) c.nx ifs t)
    (hi1 : ∀ (s : Shared) (H : Hp) (C : Addr) (cl : List (Str × Addr)) (fp : List Addr), PI' (X.blk s H scope (compEnvC scope cl C X.env) fp) c.nx ki1 tg1 iter1 fi1)
    (hg1 : ∀ (s : Shared) (H : Hp) (C : Addr) (cl : List (Str × Addr)) (fp : List Addr), PG' (X.blk s H scope (compEnvC scope cl C X.env) fp) c.nx gs1 tg1 ga1) (ht1 : ∀ (s : Shared) (H : Hp) (C : Addr) (cl : List (Str × Addr)) (fp : List Addr), PTs' (X.blk s H scope (compEnvC scope cl C X.env) fp) c.nx ifs1 t1)
    (he : ∀ (s : Shared) (H : Hp) (C : Addr) (cl : List (Str × Addr)) (fp : List Addr), PE' (X.blk s H scope (compEnvC scope cl C X.env) fp) c.nx .st elt fe) (hy : X.N[i]? = some y := by rfl) (hyl : X.env.scope.names.lookup y = some .local := by rfl)
    (hsw : swapsWith (.ListComp elt [⟨tg, iter, ifs, 0⟩, ⟨tg1, iter1, ifs1, 0⟩] scope pos) (some (.Name y py)) spos.line X.env = pure true := by exact sw_true rfl rfl rfl (by decide +kernel)) (hv : ∀ i ∈ vs1, i ∈ own.map (·.2) := by decide) (h1000 : ∀ i ∈ own.map (·.2), i < 1000 := by decide) (hgs : ∀ i, i ∈ gs → i ∈ own.map (·.2) := by decide) (hgs1 : ∀ i, i ∈ gs1 → i ∈ vs1 := by decide) (hs : ∀ x, foldedSetIterable iter X.env x = pure x := by intro _; rfl) (hs1 : ∀ env x, foldedSetIterable iter1 env x = pure x := by intro _ _; rfl) :
    PS' X c fr [i] (.Assign [.Name y py] (.ListComp elt [⟨tg, iter, ifs, 0⟩, ⟨tg1, iter1, ifs1, 0⟩] scope pos) spos) (sSet i (lc2E fi ga t fi1 ga1 t1 fe (own.map (·.2)) vs1)) :=
  psI (ps_setLc2 hc hN hy hyl hsw hi ok hv hg ht hi1 hg1 ht1 he hs hs1) fun Dn σ H q => lc2_go (fun _ _ _ _ z => z) (fun _ _ _ z => z) (fun _ _ _ z => z) (fun _ _ _ _ z => z) (fun _ _ _ z => z) (fun _ _ _ z => z) h1000 hgs hgs1 (setF_go q)
end
end M
set_option Elab.async false
set_option linter.all false
set_option maxRecDepth 100000
set_option maxHeartbeats 4000000
namespace M
open PySem L2
section
variable {X : Cx} {c : Cf} {k : Kn} {kd k1 k2 k3 : Kd} {a b e o : Expr} {f g h : FE} {pos apos cpos p' : Pos} {fr : Bool} {x y : Str} {den : List D → R D}
end
end M
set_option Elab.async false
set_option linter.all false
set_option maxRecDepth 100000
set_option maxHeartbeats 4000000
namespace M
open PySem L2
structure MakerXK (P : Program) (w : World) (K : PySem.W.Frag) (mg : Str → Option Value) (base : Heap) (k : Kn) (lv : Nat) (x : Str) (ci n : Nat) (ks : List Str) (den : List D → R D) : Prop where
  ex : ∃ (C f : Addr) (fd : FuncData) (ps nm : List Str) (g : List Value → List Value → List Value), k.cl ci = some (C, nm) ∧ Mk K C f ∧ FnOk P w K mg base (L2N.CX P w) lv f fd ps (SpN k ci (n + ks.length + 1) den) ∧ mg x = some (.ref C) ∧ KBn K fd ps (n + 1) ks g (fun vs zs => vs ++ zs)
section
variable {X : Cx} {c : Cf} {kd k1 k2 k3 : Kd} {a b e o : Expr} {f g h : FE} {pos apos : Pos} {fr : Bool} {x : Str} {den : List D → R D} {ci : Nat}
theorem run_makeKS {CX : CXT} {k n : Nat} {C f : Addr} {fd : FuncData} {ps ks : List Str} {sp : Sp} {E : XK} {g : List Value → List Value → List Value} {gV : List V → List V → List V} {pins : List (Addr × Obj)} {σ : L2.St} {H : Hp} {s : Shared} {Q : VK} {us ws : List Value} {vs zs : List V} (Mm : Mk X.K C f) (F : FnOk X.prog X.w X.K X.mg X.base CX k f fd ps sp) (hr : Room (k + 1) X.A) (hb : KBn X.K fd ps (n + 1) ks g gV)
    (hx : ∀ (H : Hp) (s : Shared) (e : Value) (s' : Shared), L2.Inv X pins σ H s → CX X.stack H s E e s' → X.xe e s') (I : L2.Inv X pins σ H s) (r : Vals vs us) (rz : Vals zs ws) (l1 : vs.length = n) (l2 : zs.length = ks.length)
    (h : ∀ x dx, H x = none → H dx = none → dx ≠ x → sp (gV (.ref x :: vs) zs) (upd (upd H dx (.own x)) x (.ins C dx [])) (fun v H2 => v = .non ∧ Q (.ref x) H2) E) :
    wpAny (model X.prog X.w) X.A (call (.ref C) us (ks.zip ws)) (EP X pins σ Q) X.xe s := by
  have hq := h (s.heap.objs.size + 1) s.heap.objs.size (I.hok.fresh (Nat.le_succ _)) (I.hok.fresh (Nat.le_refl _)) (Nat.ne_of_lt (Nat.lt_succ_self _))
  have I2 := L2.Inv.made (C := C) I
  have r1 : Vals (V.ref (s.heap.objs.size + 1) :: vs) (Value.ref (s.heap.objs.size + 1) :: us) := .cons rfl r
  have r2 := hb.rel r1 rz
  have n1 : (Value.ref (s.heap.objs.size + 1) :: us).length = n + 1 := by
    rw [List.length_cons, ← r.length, l1]
  refine wpAny_call (make_map (f := f) I.kIn Mm.makes Mm.init (beq_iff_eq.mp Mm.fn) (codeAny_mono (F.run _ X.stack _ _ ⟨Value.ref (s.heap.objs.size + 1) :: us, ks.zip ws⟩ (g (Value.ref (s.heap.objs.size + 1) :: us) ws) _ _ E (hr.make C us (ks.zip ws))
    (I2.env0.make C us (ks.zip ws)) (hb.to _ (Value.ref (s.heap.objs.size + 1) :: us) ws I2.kIn n1 (rz.length.symm.trans l2)) r2 hq) fun r s' hq' => ?_))
  cases r with
  | error e => exact hx _ _ e s' I2 hq'
  | ok fl =>
    cases fl with
    | ret u =>
      obtain ⟨v, H', I3, rv, ev, q3⟩ := I2.after hq'
      subst ev
      exact ⟨rv, ⟨V.ref (s.heap.objs.size + 1), H', I3, rfl, q3⟩⟩
    | next => exact False.elim hq'
    | brk => exact False.elim hq'
    | cont => exact False.elim hq'
def tMakeKS (C : Addr) (n m : Nat) (sp : Sp) (E : L2.St → XK) (t tk : TA) : TE := fun σ H Q => t σ H fun vs H1 => tk σ H1 fun zs H2 => vs.length = n ∧ zs.length = m ∧ ∀ x dx, H2 x = none → H2 dx = none → dx ≠ x →
  sp (.ref x :: vs ++ zs) (upd (upd H2 dx (.own x)) x (.ins C dx [])) (fun v H3 => v = .non ∧ Q (.ref x) H3) (E σ)
theorem pe_makeKS {CX : CXT} {E : L2.St → XK} {k n : Nat} {C f : Addr} {fd : FuncData} {ps ks : List Str} {sp : Sp} {p : Pos} {es : List Expr} {kws : List Keyword} {t tk : TA} {g : List Value → List Value → List Value} (Mm : Mk X.K C f) (F : FnOk X.prog X.w X.K X.mg X.base CX k f fd ps sp) (hr : Room (k + 1) X.A) (hg : Gl X x) (hm : X.mg x = some (.ref C)) (hb : KBn X.K fd ps (n + 1) ks g (fun vs zs => vs ++ zs)) (hx : ∀ σ, PassesAt CX X σ (E σ))
    (ha : PA X (e :: es) t) (hkw : PK X kws tk)
    (hall : (backToKw pos (keywordEach kws X.env)).all (·.1.isSome) = true := by rfl) (hks : (backToKw pos (keywordEach kws X.env)).filterMap (·.1) = ks := by rfl) (hdb : (x == ("__debug__" : Str)) = false := by decide)
    (he : starEach (e :: es) X.env = (false, eval e X.env) :: starEach es X.env := by rfl) (hpl : ((backTo pos (starEach (e :: es) X.env)).any (·.1) || (backToKw pos (keywordEach kws X.env)).any (·.1.isNone)) = false := by rfl) :
    PE X (.Call (.Name x p) (e :: es) kws pos) (tMakeKS C n ks.length sp E t tk) := by
  refine ⟨fun pins s σ H Q I h => ?_⟩
  refine wpAny_Call_Name_kw (ld_glob I hg hm ?_ hdb)
  refine PySem.W.callWith_KW (h₀ := X.base) I.ok.mod.kin Mm.kp hall (thn (ha.run pos pins s σ H _ I h) fun us s1 ⟨vs, H1, I1, r, q⟩ => ?_) hpl he
  refine thn (hkw.run pos pins s1 σ H1 _ I1 q) fun ws s2 ⟨zs, H2, I2, rz, l1, l2, q2⟩ => ⟨I2.kIn, ?_⟩
  rw [hks]
  exact run_makeKS Mm F hr hb (fun H s e s' => hx σ pins H s e s') I2 r rz l1 l2 q2
def eCXK (o : List D → R D) (fa fk : FA) : FE := fun S => fa S >>= fun as => fk S >>= fun bs => o (as ++ bs)
theorem d_makerXK {lv m' : Nat} {n : Nat} {ks : List Str} {p : Pos} {es : List Expr} {kws : List Keyword} {fa fk : FA} (F : MakerXK X.prog X.w X.K X.mg X.base c.k lv x ci n ks den) (hr : Room m' X.A) (hle : lv + 1 ≤ m') (tk : L2N.Takes X c.W) (ha : PA' X c false (e :: es) fa) (hl : Len n fa) (hk : PK' X c kws fk) (hkl : Len ks.length fk) (hg : Gl X x := by rfl)
    (hall : (backToKw pos (keywordEach kws X.env)).all (·.1.isSome) = true := by rfl) (hks : (backToKw pos (keywordEach kws X.env)).filterMap (·.1) = ks := by rfl) (hdb : (x == ("__debug__" : Str)) = false := by decide)
    (he : starEach (e :: es) X.env = (false, eval e X.env) :: starEach es X.env := by rfl) (hpl : ((backTo pos (starEach (e :: es) X.env)).any (·.1) || (backToKw pos (keywordEach kws X.env)).any (·.1.isNone)) = false := by rfl) :
    PE' X c .fr (.Call (.Name x p) (e :: es) kws pos) (eCXK den fa fk) := by
  obtain ⟨C, f, fd, ps, nm, g, hcl, mk, ok, hm, hb⟩ := F.ex
  refine peI (pe_makeKS mk ok (hr.mono hle) hg hm hb (fun σ => L2N.passAt tk σ) ha hk hall hks hdb he hpl) fun σ H Q ⟨G, S, rel, p⟩ => ?_
  have p : PostE c .fr G S σ H Q (fa S >>= fun as => fk S >>= fun bs => den (as ++ bs)) := p
  refine ⟨G, S, rel, ?_⟩
  cases e1 : fa S with
  | exc x => rw [e1] at p; exact p
  | fail => rw [e1] at p; exact p
  | ok as =>
    rw [e1] at p
    intro vs G1 H1 s1 q1
    refine ⟨G1, S, rel.grow s1, ?_⟩
    have p : PostE c .fr G S σ H Q (fk S >>= fun bs => den (as ++ bs)) := p
    cases e2 : fk S with
    | exc x => rw [e2] at p; exact p
    | fail => rw [e2] at p; exact p
    | ok bs =>
      rw [e2] at p
      have p : PostE c .fr G S σ H Q (den (as ++ bs)) := p
      intro zs G2 H2 s2 q2
      have q1 : RDs c.k G1 as vs := q1
      have q2 : RDs c.k G2 bs zs := q2
      have l1 := hl S as e1
      have l2 := hkl S bs e2
      refine ⟨by rw [← q1.length]; exact l1, by rw [← q2.length]; exact l2, fun x dx hx hdx hne => ?_⟩
      have sp := s1.trans s2
      have q3 : RDs c.k G2 (as ++ bs) (vs ++ zs) := (q1.mono s2.g).append q2
      have hgx : G2 x = none := s2.gh.free hx
      have ex1 : Ex H2 (upd (upd H2 dx (.own x)) x (.ins C dx [])) := (Ex.new hdx).upd hx
      refine ⟨by simp [← q1.length, ← q2.length, l1, l2], x, vs ++ zs, G2, as ++ bs, C, dx, nm, rfl, hcl, upd_same, hgx, s2.gh.trans ex1, q3, ?_⟩
      cases e3 : den (as ++ bs) with
      | ok d =>
        rw [e3] at p
        intro G' H' o ex hk gh hgx' gr ho ct
        refine ⟨rfl, p _ G' H' (sp.trans ⟨ex, fun b u q => hk b u (ne_of_none q hx) (ex1 b u q), gh, fun b u q => ?_⟩) ⟨x, o, rfl, hgx', sp.h.free hx, ho, ct⟩⟩
        rcases gr b u q with z | z
        · exact .inl z
        · exact .inr (ex1.free z)
      | exc y =>
        rw [e3] at p
        have p : PX c σ y := p
        intro _ cls da G' H' s3 xr
        have exl : Ex H2 (less (upd (upd H2 dx (.own x)) x (.ins C dx [])) x) := fun b u q => by
          rw [less_ne (ne_of_none q hx)]; exact ex1 b u q
        refine p cls da G' H' ((rel.grow sp).st.trans ⟨s3.g, fun b u q => s3.h b u (exl b u q), s3.gh, fun b u q => ?_⟩) xr
        rcases s3.gr b u q with z | z
        · exact .inl z
        · exact .inr (exl.free z)
      | fail => rw [e3] at p; exact p.elim
end
end M
set_option Elab.async false
set_option linter.all false
set_option maxRecDepth 100000
set_option maxHeartbeats 4000000
namespace M
open PySem L2
section
variable {X : Cx} {c : Cf} {a b : Expr} {f g : FE} {pos : Pos} {fr : Bool} {x y : Str}
def sParO (i j : Nat) (f g : FE) : FS := fun S => f S >>= fun d => g S >>= fun e => .ok (.nx, (S.set i (some ⟨true, d⟩)).set j (some ⟨true, e⟩))
end
end M
set_option Elab.async false
set_option linter.all false
set_option maxRecDepth 100000
set_option maxHeartbeats 4000000
namespace M
open PySem L2
mutual
def noL : D → Bool
  | .lst _ => false
  | .scr _ => false
  | .tup xs => noLs xs
  | .dic _ _ => false
  | .dit _ xs => noLs xs
  | .dkf _ xs => noLs xs
  | .dig _ _ => false
  | .obj _ xs => noLs xs
  | _ => true
def noLs : List D → Bool
  | [] => true
  | x :: xs => noL x && noLs xs
end
def noC : D → Bool
  | .lst xs => noLs xs
  | .dic _ xs => noLs xs
  | .dit _ xs => noLs xs
  | .obj _ xs => noLs xs
  | .dig _ _ => false
  | _ => false
def noK : Kd → D → Bool
  | .st => noL
  | .fr => noC
  | .bo => fun _ => false
def Lnt : HO → Bool
  | .lst _ => true
  | .dK _ => true
  | _ => false
def Lnd (G Gp : Hp) : Prop := ∀ b, Gp b = G b ∨ (G b = none ∧ ∃ o, Gp b = some o ∧ Lnt o = true)
def unL (G G' : Hp) : Hp := fun b => match G b with
  | some o => some o
  | none => match G' b with
    | some o => if Lnt o then none else some o
    | none => none
theorem unL_old {G G' : Hp} {b : Addr} {o : HO} (h : G b = some o) : unL G G' b = some o := by unfold unL; rw [h]
theorem unL_keep {G G' : Hp} (e : Ex G G') {b : Addr} {o : HO} (h : G' b = some o) (hn : Lnt o = false) : unL G G' b = some o := by
  unfold unL
  cases g : G b with
  | some u => have := e b u g; rw [h] at this; cases this; rfl
  | none =>
    rw [h]
    dsimp only
    rw [if_neg (by rw [hn]; decide)]
theorem unL_sub {G G' : Hp} (e : Ex G G') {b : Addr} {o : HO} (h : unL G G' b = some o) : G' b = some o ∧ (G b = some o ∨ (G b = none ∧ Lnt o = false)) := by
  unfold unL at h
  cases g : G b with
  | some u => rw [g] at h; cases h; exact ⟨e b _ g, .inl rfl⟩
  | none =>
    rw [g] at h
    cases g' : G' b with
    | none => rw [g'] at h; cases h
    | some u =>
      rw [g'] at h
      dsimp only at h
      by_cases hl : Lnt u = true
      · rw [if_pos hl] at h; cases h
      · rw [if_neg hl] at h; cases h
        exact ⟨rfl, .inr ⟨rfl, by simpa using hl⟩⟩
theorem unL_none {G G' : Hp} (e : Ex G G') {b : Addr} (h : G' b = none) : unL G G' b = none := by
  cases q : unL G G' b with
  | none => rfl
  | some o => have := (unL_sub e q).1; rw [h] at this; cases this
mutual
theorem RD.unL {k : Kn} {G G' : Hp} (e : Ex G G') : ∀ {d : D} {v : V}, noL d = true → RD k G' d v → RD k (M.unL G G') d v
  | _, _, _, .non => .non
  | _, _, _, .bl b => .bl b
  | _, _, _, .int i => .int i
  | _, _, _, .str x => .str x
  | _, _, _, .ty n => .ty n
  | _, _, h, .tup s r => .tup (by
      rcases s with s | s
      · exact .inl (unL_keep e s rfl)
      · exact .inr s) (RDs.unL e (by simpa only [noL] using h) r)
  | _, _, h, .lst _ _ => by simp [noL] at h
  | _, _, h, .scr _ => by simp [noL] at h
  | _, _, _, .cls h => .cls h
  | _, _, h, .dic _ _ _ => by simp [noL] at h
  | _, _, h, .dig _ _ _ _ => by simp [noL] at h
  | _, _, h, .dit s l r => .dit (unL_keep e s rfl) l (RDs.unL e (by simpa only [noL] using h) r)
  | _, _, h, .dkf s l r => .dkf (unL_keep e s rfl) l (RDs.unL e (by simpa only [noL] using h) r)
  | _, _, h, .obj c s r => .obj c (unL_keep e s rfl) (RDs.unL e (by simpa only [noL] using h) r)
theorem RDs.unL {k : Kn} {G G' : Hp} (e : Ex G G') : ∀ {ds : List D} {vs : List V}, noLs ds = true → RDs k G' ds vs → RDs k (M.unL G G') ds vs
  | _, _, _, .nil => .nil
  | _, _, h, .cons a b => by
    simp only [noLs, Bool.and_eq_true] at h
    exact .cons (RD.unL e h.1 a) (RDs.unL e h.2 b)
end
theorem Cont.unL {k : Kn} {G G' : Hp} (e : Ex G G') {d : D} {o : HO} (h : noC d = true) (c : Cont k G' d o) : Cont k (M.unL G G') d o := by
  cases c with
  | lst r => exact .lst (r.unL e (by simpa only [noC] using h))
  | dic l r => exact .dic l (r.unL e (by simpa only [noC] using h))
  | dit l r => exact .dit l (r.unL e (by simpa only [noC] using h))
  | dig l kk r => simp [noC] at h
  | obj q r => exact .obj q (r.unL e (by simpa only [noC] using h))
theorem Step.unL {G H Gp G' H' : Hp} (e : Ex G Gp) (l : Lnd G Gp) (s : Step Gp H G' H') : Step G H (M.unL G G') H' where
  g := fun b o h => unL_old h
  h := s.h
  gh := fun b o h => s.gh b o (unL_sub (e.trans s.g) h).1
  gr := fun b o h => by
    obtain ⟨h1, h2⟩ := unL_sub (e.trans s.g) h
    rcases h2 with h2 | ⟨h2, h3⟩
    · exact .inl h2
    · rcases s.gr b o h1 with q | q
      · rcases l b with z | ⟨z, u, z2, z3⟩
        · rw [q, h2] at z; cases z
        · rw [q] at z2; cases z2; rw [h3] at z3; cases z3
      · exact .inr q
def fzL1 (S : Env) (i : Nat) : Option Env := match S[i]? with
  | some (some ⟨true, .lst ds⟩) => some (S.set i (some ⟨false, .lst ds⟩))
  | some (some ⟨true, .dic ks ds⟩) => some (S.set i (some ⟨false, .dic ks ds⟩))
  | some (some ⟨false, _⟩) => some S
  | _ => none
def fzL : Env → List Nat → Option Env
  | S, [] => some S
  | S, i :: is => match fzL1 S i with
    | some S' => fzL S' is
    | none => none
section
variable {c : Cf} {G H : Hp} {S S' : Env} {σ : St}
theorem Rel.frzLd (r : Rel c G S σ H) {i : Nat} {d : D} (hd : S[i]? = some (some ⟨true, d⟩)) (hl : ∀ o, Cont c.k G d o → Lnt o = true) : ∃ G', Ex G G' ∧ Lnd G G' ∧ Rel c G' (S.set i (some ⟨false, d⟩)) σ H := by
  obtain ⟨a, o, e, g, h0, ho, ct⟩ := r.ow i _ hd
  have ow : OwnAt S σ i a := ⟨⟨_, hd⟩, e⟩
  have ex : Ex G (upd G a o) := Ex.new g
  have hi : i < S.length := (List.getElem?_eq_some_iff.mp hd).1
  refine ⟨upd G a _, ex, fun b => ?_, ⟨r.st.frz ho h0 g, by rw [List.length_set]; exact r.len, fun j d' q => ?_, fun j d' q => ?_, fun j l b q1 q2 => ?_⟩⟩
  · by_cases hb : b = a
    · subst hb; exact .inr ⟨g, o, upd_same, hl o ct⟩
    · exact .inl (upd_ne hb)
  · by_cases hj : i = j
    · subst hj
      rw [List.getElem?_set_self hi] at q; cases q
      exact ⟨_, e, (ct.mono ex).rd upd_same⟩
    · rw [List.getElem?_set_ne hj] at q
      obtain ⟨v, e', q'⟩ := r.fz j d' q
      exact ⟨v, e', q'.mono ex⟩
  · by_cases hj : i = j
    · subst hj
      rw [List.getElem?_set_self hi] at q; cases q
    · rw [List.getElem?_set_ne hj] at q
      obtain ⟨b, u, e', g', h0', ho', ct'⟩ := r.ow j d' q
      have hb : b ≠ a := fun z => hj (r.nd i j a ow ⟨⟨d', q⟩, by rw [← z]; exact e'⟩)
      exact ⟨b, u, e', by rw [upd_ne hb]; exact g', h0', ho', ct'.mono ex⟩
  · have back : ∀ {m : Nat}, OwnAt (S.set i (some ⟨false, d⟩)) σ m b → OwnAt S σ m b := fun {m} hm => by
      obtain ⟨⟨d', q⟩, z⟩ := hm
      by_cases hj : i = m
      · subst hj; rw [List.getElem?_set_self hi] at q; cases q
      · rw [List.getElem?_set_ne hj] at q; exact ⟨⟨d', q⟩, z⟩
    exact r.nd j l b (back q1) (back q2)
theorem Rel.frzL1 (r : Rel c G S σ H) {i : Nat} (h : fzL1 S i = some S') : ∃ G', Ex G G' ∧ Lnd G G' ∧ Rel c G' S' σ H := by
  unfold fzL1 at h
  split at h
  · rename_i ds hd
    cases h
    exact r.frzLd hd fun o ct => by cases ct; rfl
  · rename_i ks ds hd
    cases h
    exact r.frzLd hd fun o ct => by cases ct; rfl
  · cases h; exact ⟨G, Ex.refl _, fun b => .inl rfl, r⟩
  · cases h
theorem Rel.frzL : ∀ {is : List Nat} {G : Hp} {S : Env}, Rel c G S σ H → fzL S is = some S' → ∃ G', Ex G G' ∧ Lnd G G' ∧ Rel c G' S' σ H
  | [], G, S, r, h => by simp only [fzL] at h; cases h; exact ⟨G, Ex.refl _, fun b => .inl rfl, r⟩
  | i :: is, G, S, r, h => by
    simp only [fzL] at h
    split at h
    · rename_i S1 e1
      obtain ⟨G1, x1, l1, r1⟩ := r.frzL1 e1
      obtain ⟨G2, x2, l2, r2⟩ := Rel.frzL r1 h
      refine ⟨G2, x1.trans x2, fun b => ?_, r2⟩
      rcases l2 b with z | ⟨z, vs, z2⟩
      · rw [z]; exact l1 b
      · rcases l1 b with y | ⟨y, ws, y2⟩
        · exact .inr ⟨by rw [← y]; exact z, vs, z2⟩
        · exact .inr ⟨y, vs, z2⟩
    · cases h
end
def eBw (kd : Kd) (is : List Nat) (f : FE) : FE := fun S => match fzL S is with
  | some S' => f S' >>= fun d => if noK kd d then .ok d else .fail
  | none => .fail
theorem d_bw {X : Cx} {c : Cf} {kd : Kd} {e : Expr} {f : FE} (is : List Nat) (h : PE' X c kd e f) : PE' X c kd e (eBw kd is f) :=
  peI h fun σ H Q ⟨G, S, rel, p⟩ => by
    unfold eBw at p
    split at p
    · rename_i S' hS
      obtain ⟨Gp, ex, ld, rel'⟩ := rel.frzL hS
      refine ⟨Gp, S', rel', ?_⟩
      cases e1 : f S' with
      | exc x => rw [e1] at p; exact p
      | fail => rw [e1] at p; exact p
      | ok d =>
        rw [e1, R.ok_bind] at p
        intro v G' H' s q
        by_cases hk : noK kd d = true
        · rw [if_pos hk] at p
          refine p v (unL G G') H' (s.unL ex ld) ?_
          have e2 : Ex G G' := ex.trans s.g
          cases kd with
          | st => exact RD.unL e2 hk q
          | bo => cases hk
          | fr => obtain ⟨a, o, rfl, hg, hn, ha, ct⟩ := q; exact ⟨a, o, rfl, unL_none e2 hg, hn, ha, ct.unL e2 hk⟩
        · rw [if_neg hk] at p; exact p.elim
    · exact p.elim
end M
set_option Elab.async false
set_option linter.all false
set_option maxRecDepth 100000
set_option maxHeartbeats 4000000
namespace M
open PySem L2
inductive NK where
  | dic (ks : List Key) | lst
structure Nd where
  k : NK
  es : List (Bool × D)
def Nd.d (n : Nd) : D := match n.k with
  | .dic ks => .dic ks (n.es.map (·.2))
  | .lst => .lst (n.es.map (·.2))
def NK.ho (k : NK) (vs : List V) : HO := match k with
  | .dic ks => .dK (ks.zip vs)
  | .lst => .lst vs
def NK.wf (k : NK) (n : Nat) : Prop := match k with
  | .dic ks => ks.length = n
  | .lst => True
inductive EnR (k : Kn) (G H : Hp) : List (Bool × D) → List V → List Addr → Prop
  | nil : EnR k G H [] [] []
  | st {d : D} {v : V} {es : List (Bool × D)} {vs : List V} {bs : List Addr} : RD k G d v → EnR k G H es vs bs → EnR k G H ((false, d) :: es) (v :: vs) bs
  | ow {d : D} {b : Addr} {o : HO} {es : List (Bool × D)} {vs : List V} {bs : List Addr} : H b = some o → Cont k G d o → EnR k G H es vs bs → EnR k G H ((true, d) :: es) (.ref b :: vs) (b :: bs)
section
variable {k : Kn} {G G' H H' : Hp}
theorem EnR.keep (e : Ex G G') : ∀ {es : List (Bool × D)} {vs : List V} {bs : List Addr}, (∀ b, b ∈ bs → H' b = H b) → EnR k G H es vs bs → EnR k G' H' es vs bs
  | _, _, _, _, .nil => .nil
  | _, _, _, h, .st r t => .st (r.mono e) (EnR.keep e h t)
  | _, _, _, h, .ow q r t => .ow (by rw [h _ (List.mem_cons_self ..)]; exact q) (r.mono e) (EnR.keep e (fun b hb => h b (List.mem_cons_of_mem _ hb)) t)
theorem EnR.len : ∀ {es : List (Bool × D)} {vs : List V} {bs : List Addr}, EnR k G H es vs bs → es.length = vs.length
  | _, _, _, .nil => rfl
  | _, _, _, .st r t => by rw [List.length_cons, List.length_cons, EnR.len t]
  | _, _, _, .ow _ r t => by rw [List.length_cons, List.length_cons, EnR.len t]
theorem EnR.live : ∀ {es : List (Bool × D)} {vs : List V} {bs : List Addr}, EnR k G H es vs bs → ∀ b, b ∈ bs → ∃ o, H b = some o
  | _, _, _, .nil, b, h => by cases h
  | _, _, _, .st r t, b, h => EnR.live t b h
  | _, _, _, .ow q r t, b, h => by
    rcases List.mem_cons.mp h with rfl | h
    · exact ⟨_, q⟩
    · exact EnR.live t b h
theorem EnR.get : ∀ {es : List (Bool × D)} {vs : List V} {bs : List Addr} {m : Nat} {d : D}, EnR k G H es vs bs → es[m]? = some (true, d) → ∃ b o, vs[m]? = some (.ref b) ∧ b ∈ bs ∧ H b = some o ∧ Cont k G d o
  | _, _, _, m, d, .nil, h => by simp at h
  | _, _, _, 0, d, .st r t, h => by simp at h
  | _, _, _, 0, d, .ow q r t, h => by
    simp at h; subst h
    exact ⟨_, _, rfl, by simp, q, r⟩
  | _, _, _, m + 1, d, .st r t, h => by
    obtain ⟨b, o, h1, h2, h3, h4⟩ := EnR.get (m := m) t (by simpa using h)
    exact ⟨b, o, by simpa using h1, h2, h3, h4⟩
  | _, _, _, m + 1, d, .ow q r t, h => by
    obtain ⟨b, o, h1, h2, h3, h4⟩ := EnR.get (m := m) t (by simpa using h)
    exact ⟨b, o, by simpa using h1, List.mem_cons_of_mem _ h2, h3, h4⟩
theorem EnR.put : ∀ {es : List (Bool × D)} {vs : List V} {bs : List Addr} {m : Nat} {d d' : D} {b : Addr} {o' : HO}, EnR k G H es vs bs → es[m]? = some (true, d) → vs[m]? = some (.ref b) → bs.Nodup → Cont k G d' o' → EnR k G (upd H b o') (es.set m (true, d')) vs bs
  | _, _, _, m, d, d', b, o', .nil, h, _, _, _ => by simp at h
  | _, _, _, 0, d, d', b, o', .st r t, h, _, _, _ => by simp at h
  | _, _, _, 0, d, d', b, o', .ow q r t, h, hv, nd, ct => by
    simp at hv; subst hv
    exact .ow upd_same ct (t.keep (Ex.refl _) fun x hx => upd_ne (fun z => (List.nodup_cons.mp nd).1 (by rw [← z]; exact hx)))
  | _, _, _, m + 1, d, d', b, o', .st r t, h, hv, nd, ct => .st r (EnR.put t (by simpa using h) (by simpa using hv) nd ct)
  | _, _, _, m + 1, d, d', b, o', @EnR.ow _ _ _ d0 b0 o0 es0 vs0 bs0 q r t, h, hv, nd, ct => by
    have h' := (show _ from h)
    rw [List.getElem?_cons_succ] at h'
    have hv' := (show _ from hv)
    rw [List.getElem?_cons_succ] at hv'
    obtain ⟨b2, o2, e1, e2, _, _⟩ := EnR.get t h'
    rw [hv'] at e1; cases e1
    exact .ow (by rw [upd_ne (show b0 ≠ b from fun z => (List.nodup_cons.mp nd).1 (by rw [z]; exact e2))]; exact q) r (EnR.put t h' hv' (List.nodup_cons.mp nd).2 ct)
end
structure NAt (c : Cf) (G : Hp) (S : Env) (σ : St) (H : Hp) (i : Nat) (n : Nd) : Prop where
  ex : ∃ a vs bs, σ[i]? = some (some (.ref a)) ∧ H a = some (n.k.ho vs) ∧ n.k.wf n.es.length ∧ EnR c.k G H n.es vs bs ∧ (a :: bs).Nodup ∧ ∀ x, x ∈ a :: bs → G x = none ∧ c.H0 x = none ∧ ∀ j, ¬ OwnAt S σ j x
section
variable {c : Cf} {G G' H H' : Hp} {S S' : Env} {σ σ' : St} {i : Nat} {n : Nd}
theorem NAt.all (a : NAt c G S σ H i n) : ∃ t vs bs, σ[i]? = some (some (.ref t)) ∧ H t = some (n.k.ho vs) ∧ n.k.wf n.es.length ∧ EnR c.k G H n.es vs bs ∧ (t :: bs).Nodup ∧ (∀ x, x ∈ t :: bs → G x = none ∧ c.H0 x = none ∧ ∀ j, ¬ OwnAt S σ j x) ∧ ∀ x, x ∈ t :: bs → ∃ o, H x = some o := by
  obtain ⟨t, vs, bs, h1, h2, h3, h4, h5, h6⟩ := a.ex
  refine ⟨t, vs, bs, h1, h2, h3, h4, h5, h6, fun x hx => ?_⟩
  rcases List.mem_cons.mp hx with rfl | hx
  · exact ⟨_, h2⟩
  · exact h4.live x hx
theorem NAt.grow (a : NAt c G S σ H i n) (s : Step G H G' H') : NAt c G' S σ H' i n := by
  obtain ⟨t, vs, bs, h1, h2, h3, h4, h5, h6, h7⟩ := a.all
  refine ⟨t, vs, bs, h1, s.h _ _ h2, h3, h4.keep s.g fun b hb => ?_, h5, fun x hx => ⟨?_, (h6 x hx).2⟩⟩
  · obtain ⟨o, e⟩ := h7 b (List.mem_cons_of_mem _ hb)
    rw [e, s.h _ _ e]
  · obtain ⟨o, e⟩ := h7 x hx
    cases q : G' x with
    | none => rfl
    | some u =>
      rcases s.gr x u q with z | z
      · rw [(h6 x hx).1] at z; cases z
      · rw [e] at z; cases z
noncomputable def Cf.at (c : Cf) (S : Env) (σ : St) (G H : Hp) : Cf := ⟨c.k, cut S σ H, G, c.W⟩
theorem Rel.frzB (r : Rel c G S σ H) {b : Addr} {o : HO} (h : H b = some o) (hg : G b = none) (h0 : c.H0 b = none) (hn : ∀ j, ¬ OwnAt S σ j b) : Rel c (upd G b o) S σ H where
  st := r.st.frz h h0 hg
  len := r.len
  fz := fun j d q => let ⟨v, e, z⟩ := r.fz j d q; ⟨v, e, z.mono (Ex.new hg)⟩
  ow := fun j d q => by
    obtain ⟨a, u, e, g, h0', ho, ct⟩ := r.ow j d q
    exact ⟨a, u, e, by rw [upd_ne (show a ≠ b from fun z => hn j (by rw [← z]; exact ⟨⟨d, q⟩, e⟩))]; exact g, h0', ho, ct.mono (Ex.new hg)⟩
  nd := r.nd
theorem EnR.frz : ∀ {es : List (Bool × D)} {vs : List V} {bs : List Addr} {G : Hp}, Rel c G S σ H → EnR c.k G H es vs bs → bs.Nodup → (∀ x, x ∈ bs → G x = none ∧ c.H0 x = none ∧ ∀ j, ¬ OwnAt S σ j x) →
    ∃ G', Ex G G' ∧ Rel c G' S σ H ∧ RDs c.k G' (es.map (·.2)) vs ∧ ∀ x, x ∉ bs → G' x = G x
  | _, _, _, G, rel, .nil, _, _ => ⟨G, Ex.refl _, rel, .nil, fun _ _ => rfl⟩
  | _, _, _, G, rel, .st r t, nd, h => by
    obtain ⟨G', e, rel', rr, k⟩ := EnR.frz rel t nd h
    exact ⟨G', e, rel', .cons (r.mono e) rr, k⟩
  | _, _, _, G, rel, @EnR.ow _ _ _ d b o es vs bs q r t, nd, h => by
    obtain ⟨hg, h0, hn⟩ := h b (by simp)
    have nd2 := List.nodup_cons.mp nd
    have rel1 := rel.frzB q hg h0 hn
    have ex1 : Ex G (upd G b o) := Ex.new hg
    have t1 : EnR c.k (upd G b o) H es vs bs := t.keep ex1 fun _ _ => rfl
    obtain ⟨G', e, rel', rr, k⟩ := EnR.frz rel1 t1 nd2.2 fun x hx => by
      obtain ⟨z1, z2, z3⟩ := h x (List.mem_cons_of_mem _ hx)
      exact ⟨by rw [upd_ne (show x ≠ b from fun z => nd2.1 (by rw [← z]; exact hx))]; exact z1, z2, z3⟩
    refine ⟨G', ex1.trans e, rel', .cons ((r.mono (ex1.trans e)).rd (e _ _ upd_same)) rr, fun x hx => ?_⟩
    rw [k x (fun z => hx (List.mem_cons_of_mem _ z)), upd_ne fun z => hx (by rw [z]; exact List.mem_cons_self ..)]
end
abbrev FN := Env → Nd → R (Env × Nd)
def PostNs (c : Cf) (as : List Nat) (i : Nat) (G : Hp) (S : Env) (σ : St) (H : Hp) (Dn : Ends) : R (Env × Nd) → Prop
  | .ok z => ∀ G' σ' H', Ex G G' → Rel c G' z.1 σ' H' → z.1[i]? = some none → NAt c G' z.1 σ' H' i z.2 → Frm as S σ H z.1 σ' H' → Dn.nx σ' H'
  | _ => False
abbrev FNR := Env → Nd → R (Fl × Env)
section
variable {X : Cx} {c : Cf} {kd k1 k2 k3 : Kd} {a b e kx : Expr} {f g h : FE} {t u : FT} {pos apos cpos spos p' : Pos} {fr : Bool} {as bs : List Nat} {s r : FS} {F F1 F2 : FN} {Z : FNR} {st : Stmt} {sts : List Stmt} {x : Str} {i : Nat}
theorem PostNs.mv {G G' H H' : Hp} {S S' : Env} {σ σ' : St} {Dn : Ends} {q : R (Env × Nd)} (hg : Ex G G') (fm : Frm as S σ H S' σ' H') (p : PostNs c (as ++ bs) i G S σ H Dn q) : PostNs c bs i G' S' σ' H' Dn q := by
  cases q with
  | ok z => exact fun G2 σ2 H2 e r2 h2 n2 f2 => p G2 σ2 H2 (hg.trans e) r2 h2 n2 (fm.trans f2)
  | exc x => exact p
  | fail => exact p
theorem PostNs.sub {as' : List Nat} {G H : Hp} {S : Env} {σ : St} {Dn : Ends} {q : R (Env × Nd)} (hs : ∀ i, i ∈ as' → i ∈ as) (p : PostNs c as i G S σ H Dn q) : PostNs c as' i G S σ H Dn q := by
  cases q with
  | ok z => exact fun G2 σ2 H2 e r2 h2 n2 f2 => p G2 σ2 H2 e r2 h2 n2 (f2.mono hs)
  | exc x => exact p
  | fail => exact p
theorem PostNs.gr {G H G' H' : Hp} {S : Env} {σ : St} {Dn : Ends} {q : R (Env × Nd)} (rel : Rel c G S σ H) (sp : Step G H G' H') (p : PostNs c as i G S σ H Dn q) : PostNs c as i G' S σ H' Dn q :=
  PostNs.mv (as := []) (bs := as) sp.g (Frm.step rel sp) p
end
end M
set_option Elab.async false
set_option linter.all false
set_option maxRecDepth 100000
set_option maxHeartbeats 4000000
namespace M
open PySem L2
section
variable {X : Cx} {c : Cf} {kd k1 k2 k3 : Kd} {a b e kx : Expr} {f g h : FE} {t u : FT} {pos apos cpos spos p' : Pos} {fr : Bool} {as bs : List Nat} {s r : FS} {F F1 F2 : FN} {Z : FNR} {st : Stmt} {sts : List Stmt} {x : Str} {i : Nat}
abbrev FTN := Env → Nd → R Bool
def posK {κ : Type} [DecidableEq κ] : List κ → κ → Option Nat
  | [], _ => none
  | k :: ks, q => if k = q then some 0 else (posK ks q).map (· + 1)
def NK.at (k : NK) (y : D) : Option Nat := match k with
  | .dic ks => (keyD y).bind fun q => posK ks q
  | .lst => none
end
end M
set_option Elab.async false
set_option linter.all false
set_option maxRecDepth 100000
set_option maxHeartbeats 4000000
namespace M
open PySem L2 PySem.Spec PyProof.Rows
section
variable {k : Kn} {G H : Hp}
theorem EnR.snoc {d : D} {b : Addr} {o : HO} (q : H b = some o) (r : Cont k G d o) : ∀ {es : List (Bool × D)} {vs : List V} {bs : List Addr}, EnR k G H es vs bs → EnR k G H (es ++ [(true, d)]) (vs ++ [.ref b]) (bs ++ [b])
  | _, _, _, .nil => .ow q r .nil
  | _, _, _, .st a t => .st a (EnR.snoc q r t)
  | _, _, _, .ow a b t => .ow a b (EnR.snoc q r t)
end
section
variable {X : Cx} {c : Cf} {kd k1 k2 k3 : Kd} {a b e kx : Expr} {f g h : FE} {t u : FT} {pos apos cpos spos p' : Pos} {fr : Bool} {as bs : List Nat} {s r : FS} {F F1 F2 : FN} {Z : FNR} {st : Stmt} {sts : List Stmt} {x : Str} {i : Nat}
abbrev FAN := Env → R (List (Bool × D))
variable {keys : List (Option Expr)} {values : List Expr} {ks : List Str} {fa : FAN}
end
end M
set_option Elab.async false
set_option linter.all false
set_option maxRecDepth 100000
set_option maxHeartbeats 4000000
namespace M
open PySem L2
section
variable {X : Cx} {c : Cf} {kd k1 k2 k3 : Kd} {a b e kx : Expr} {f g h : FE} {t u : FT} {pos apos cpos spos p' : Pos} {fr : Bool} {as bs : List Nat} {s r : FS} {F F1 F2 : FN} {Z : FNR} {st : Stmt} {sts : List Stmt} {x : Str} {i : Nat}
end
end M
set_option Elab.async false
set_option linter.all false
set_option maxRecDepth 100000
set_option maxHeartbeats 4000000
namespace M
open PySem L2
end M
set_option Elab.async false
set_option linter.all false
set_option maxRecDepth 100000
set_option maxHeartbeats 4000000
namespace M
open PySem L2
section
variable {X : Cx} {c : Cf} {kd k1 k2 k3 : Kd} {a b e tg : Expr} {f g h : FE} {t u : FT} {pos : Pos} {fr : Bool} {as bs : List Nat} {s r : FS} {st : Stmt}
end
end M
set_option Elab.async false
set_option linter.all false
set_option maxRecDepth 100000
set_option maxHeartbeats 4000000
namespace M
open PySem
section
variable {prog : Program} {w : World} {A : Around} {R : GenEnd} {Y : Protocol} {n : Nat} {s₀ : Shared} {c : Code} {fs : List Frame} {s : Shared} {env : PySem.Env} {K : Flow → Sem Fin} {J : Value → Sem Fin} {gd : Bool → Bool} {lv : List Value → List Value}
end
end M
set_option Elab.async false
set_option linter.all false
set_option maxRecDepth 100000
set_option maxHeartbeats 4000000
namespace M
open PySem L2 PySem.Spec PyProof.Rows
section
variable {X : Cx}
end
end M
set_option Elab.async false
set_option linter.all false
set_option maxRecDepth 100000
set_option maxHeartbeats 4000000
namespace M
open PySem L2
abbrev FY := Env → R (Fl × Env × List D)
section
variable {X : Cx} {c : Cf} {k1 : Kd} {e : Expr} {f : FE} {pos : Pos} {as bs : List Nat} {s : FS} {y z : FY} {st : Stmt} {sts : List Stmt}
def aft (out1 : List D) (r : R (Fl × Env × List D)) : R (Fl × Env × List D) := r.nox >>= fun u => .ok (u.1, u.2.1, out1 ++ u.2.2)
end
end M
set_option Elab.async false
set_option linter.all false
set_option maxRecDepth 100000
set_option maxHeartbeats 4000000
namespace M
open PySem L2
def PostGn (k : Kn) (G0 H : Hp) (Q : List V → Hp → Prop) (E : XK) : R (List D) → Prop
  | .ok ds => ds.length ≤ sizeLine ∧ ∀ vs G' H', Step G0 H G' H' → RDs k G' ds vs → Q vs H'
  | .exc x => PXs ⟨k, H, G0, liftX E⟩ x
  | .fail => False
def SpGn (k : Kn) (n : Nat) (den : List D → R (List D)) : SpG := fun vs H Q E => vs.length = n ∧ ∃ G0 ds, Ex G0 H ∧ RDs k G0 ds vs ∧ PostGn k G0 H Q E (den ds)
section
variable {P : Program} {w : World} {K : PySem.W.Frag} {mg : Str → Option Value} {base : Heap}
end
end M
set_option Elab.async false
set_option linter.all false
set_option maxRecDepth 100000
set_option maxHeartbeats 4000000
namespace M
open PySem L2
structure GMethod (P : Program) (w : World) (K : PySem.W.Frag) (mg : Str → Option Value) (base : Heap) (k : Kn) (lv : Nat) (ci : Nat) (m : Str) (n : Nat) (den : List D → R (List D)) : Prop where
  ex : ∃ (C f : Addr) (fd : FuncData) (ps nm : List Str), ps.length = n ∧ k.cl ci = some (C, nm) ∧ m ∉ nm ∧ Cls K C ∧ Meth K C m f ∧ GFn P w K mg base lv f fd ps (SpGn k n den) ∧ Binds K fd ps []
section
variable {X : Cx} {c : Cf} {e o : Expr} {f : FE} {pos apos pos' : Pos} {den : List D → R (List D)}
def lstE (out : List D) : R D := if out.length ≤ sizeLine then .ok (.lst out) else .fail
def eLM (ci : Nat) (den : List D → R (List D)) (f : FE) (fa : FA) : FE := fun S => f S >>= fun o => if o.isObj ci then fa S >>= fun ds => (den (o :: ds)).nox >>= fun out => lstE out else .fail
end
end M
set_option Elab.async false
set_option linter.all false
set_option maxRecDepth 100000
set_option maxHeartbeats 4000000
namespace M
open PySem L2 PyProof.Rows
def KwT {α : Type} (D : Addr) : List (Str × Value) → Sem α → Sem α → Prop
  | [], t, r => t = r
  | q :: l, t, r => ∃ (β γ : Type) (k1 : Option Value → Sem β) (k2 : β → Sem γ) (k3 : γ → Sem α) (a : β), t = ((nsGet D q.1 >>= k1) >>= k2) >>= k3 ∧ k1 (some q.2) = pure a ∧ KwT D l (k2 a >>= k3) r
theorem KwT.run {α : Type} {K : PySem.W.Frag} {M : Model} {A : Around} {D : Addr} {Q : α → Shared → Prop} {E : Value → Shared → Prop} {s : Shared} (X : K.In s.heap) {r : Sem α} (h : wpAny M A r Q E s) : ∀ {l : List (Str × Value)} {t : Sem α}, (∀ q ∈ l, PySem.W.nsIn K D q.1 = some (some q.2)) → KwT D l t r → wpAny M A t Q E s
  | [], t, _, e => by cases (show t = r from e); exact h
  | q :: l, t, hl, ⟨β, γ, k1, k2, k3, a, e1, e2, e3⟩ => by
    have ih := KwT.run X h (fun p hp => hl p (List.mem_cons_of_mem _ hp)) e3
    have l1 : PySem.W.Looks M s.heap (nsGet D q.1 >>= k1) a := (PySem.W.looks_nsIn X (hl q (List.mem_cons_self ..))).andThen (PySem.W.Looks.of_pure e2)
    rw [e1, bind_assoc]
    exact wpAny_bind (l1.here ih)
section
variable {K : PySem.W.Frag} {x qual : Str} {params : Arguments} {body : List Stmt} {scope : Scope} {dvs : List V} {kws : List (Str × V)} {f : Addr} {fd : FuncData} {ps : List Str} {pv : Str}
end
def FnStar (P : Program) (w : World) (K : PySem.W.Frag) (mg : Str → Option Value) (base : Heap) (CX : CXT) (lv : Nat) (f : Addr) (m : Nat) (ks : List Str) (gV : List V → List V → List V) (sp : Sp) : Prop :=
  ∀ (A : Around) (outer : List PySem.Env) (s : Shared) (H : Hp) (us rs ws : List Value) (vs xs zs : List V) (Q : VK) (E : XK), Room lv A → Env0 P w K mg base A outer s H → Vals vs us → Vals xs rs → Vals zs ws → us.length = m → ws.length = ks.length → xs.length ≤ sizeLine →
    (∀ p, H p = none → sp (gV vs zs ++ [.ref p]) (upd H p (.tup xs)) Q E) → codeAny (model P w) A (.call (.ref f) ⟨us ++ rs, ks.zip ws⟩) (CR CX outer P w H s Q E) s
section
variable {CX : CXT} {P : Program} {w : World} {K : PySem.W.Frag} {mg : Str → Option Value} {base : Heap} {k : Nat} {x qual : Str} {params : Arguments} {body : List Stmt} {scope : Scope} {dvs : List V} {kws : List (Str × V)} {f : Addr} {fd : FuncData} {N ps : List Str} {pv : Str} {sp : Sp}
end
def mergeK {α : Type} : List Bool → List α → List α → List α
  | true :: bs, _ :: ds, g :: gs => g :: mergeK bs ds gs
  | false :: bs, d :: ds, gs => d :: mergeK bs ds gs
  | _, _, _ => []
structure MakerXS (P : Program) (w : World) (K : PySem.W.Frag) (mg : Str → Option Value) (base : Heap) (k : Kn) (lv : Nat) (x : Str) (ci n : Nat) (mask : List Bool) (ks : List Str) (dd : List D) (den : List D → R D) : Prop where
  ex : ∃ (C f : Addr) (nm : List Str) (dvs : List V), k.cl ci = some (C, nm) ∧ Mk K C f ∧ mg x = some (.ref C) ∧ (∀ G, RDs k G dd dvs) ∧ dd.length = mask.length ∧ (mask.filter id).length = ks.length ∧
    FnStar P w K mg base (L2N.CX P w) lv f (n + 1) ks (fun vs zs => vs ++ mergeK mask dvs zs) (SpN k ci (n + 1 + mask.length + 1) den)
section
variable {X : Cx} {c : Cf} {kd k1 k2 k3 : Kd} {a b e o : Expr} {f g h : FE} {pos apos : Pos} {fr : Bool} {x : Str} {den : List D → R D} {ci : Nat}
end
end M
namespace M
open PySem L2
end M
set_option Elab.async false
set_option linter.all false
set_option maxRecDepth 100000
set_option maxHeartbeats 4000000
namespace M
open PySem L2
section
variable {X : Cx} {c : Cf} {kd k1 k2 k3 : Kd} {e : Expr} {f g h : FE} {pos : Pos} {fr : Bool} {as bs : List Nat} {s r : FS} {x : Str}
end
end M
set_option Elab.async false
set_option linter.all false
set_option maxRecDepth 100000
set_option maxHeartbeats 4000000
namespace M
open PySem PySem.Spec PyProof.Rows L2
section
variable {X : Cx} {o : Expr} {p pos apos mpos : Pos} {td : TE}
end
end M
set_option Elab.async false
set_option linter.all false
set_option maxRecDepth 100000
set_option maxHeartbeats 4000000
namespace M
open PySem L2 PySem.W PySem.Calls PyProof.Rows
section
variable {prog : Program} {w : World} {A : Around} {E : Value → Shared → Prop} {s : Shared} {l : Addr}
end
section
variable {X : Cx} {k : Kn}
end
end M
set_option Elab.async false
set_option linter.all false
set_option maxRecDepth 100000
set_option maxHeartbeats 4000000
namespace M
open PySem L2
theorem type_list_clear' : typeOf (.builtin "list.clear") = pure (.type "method_descriptor") := by show builtinType _ = _; rw [builtinType_eq_fast]; kernel_rfl
section
variable {X : Cx} {c : Cf} {kd k1 k2 k3 : Kd} {a b e o : Expr} {f g h : FE} {pos apos cpos p' : Pos} {fr : Bool} {x : Str}
def sClr (i : Nat) : FS := fun S => ownL i S >>= fun _ => .ok (.nx, S.set i (some ⟨true, .lst []⟩))
theorem s_clr (i : Nat) (hN : X.N[i]? = some x := by rfl) (hv : Vis X.env.scope x := by first | exact Or.inl rfl | exact Or.inr (Or.inl rfl) | exact Or.inr (Or.inr rfl)) (hd : (x == ("__debug__" : Str)) = false := by decide)
    (hcd : (x == ("__classdict__" : Str)) = false := by decide) (h2 : (apos.endLine == cpos.line) = true := by rfl) (hs : swapsWith (.Call (.Attribute (.Name x p') "clear" apos) [] [] cpos) none pos.line X.env = pure false := by rfl) :
    PS' X c fr [i + 1000] (.Expr (.Call (.Attribute (.Name x p') "clear" apos) [] [] cpos) pos) (sClr i) :=
  psI (ps_expr (pe_bm0 PySem.F.plainAttrs_list PySem.F.slot_list_clear type_list_clear' mt_clear (pe_var hN hv hd hcd) rfl h2) hs) fun Dn σ H ⟨G, S, rel, p⟩ => by
    have p : PostS c fr [i + 1000] G S σ H Dn (ownL i S >>= fun _ => .ok (.nx, S.set i (some ⟨true, .lst []⟩))) := p
    cases e0 : ownL i S with
    | exc x => exact absurd e0 ownL_exc
    | fail => rw [e0] at p; exact p.elim
    | ok ds =>
      rw [e0, R.ok_bind] at p
      have hS := ownL_of e0
      obtain ⟨l, o, es, hg, h0, ho, ct⟩ := rel.ow i _ hS
      cases ct with
      | @lst ds' vs r =>
        refine ⟨_, es, .inl ⟨rfl, vs, SqL.of ho⟩, ?_⟩
        have ow : OwnAt S σ i l := ⟨⟨_, hS⟩, es⟩
        exact ⟨l, vs, rfl, rfl, ho, p G σ _ (Ex.refl _) (rel.mut ow (.lst .nil)) (Frm.mut rel ow)⟩
theorem RDs.scr {k : Kn} {G : Hp} : ∀ ns : List Int, RDs k G (ns.map D.int) (ns.map V.int)
  | [] => .nil
  | n :: ns => .cons (.int n) (RDs.scr ns)
end
end M
set_option Elab.async false
set_option linter.all false
set_option maxRecDepth 100000
set_option maxHeartbeats 4000000
namespace M
open PySem L2
mutual
def nkD : D → Option NestedKey
  | .non => some .none
  | .int i => some (.num i)
  | .tup xs => (nkDs xs).map .tup
  | _ => none
def nkDs : List D → Option (List NestedKey)
  | [] => some []
  | x :: xs => match nkD x, nkDs xs with
    | some k, some ks => some (k :: ks)
    | _, _ => none
end
def keyN (y : D) : Option NestedKey := match nkD y with
  | some (.tup ks) => if (NestedKey.tup ks).depth ≤ 8 then some (.tup ks) else none
  | _ => none
section
variable {k : Kn} {G H : Hp}
mutual
theorem nk_rd : ∀ {d : D} {v : V} {n : NestedKey}, RD k G d v → nkD d = some n → NkH k.K G n v ∧ nkp n = true
  | _, _, _, .non, h => by simp only [nkD] at h; cases h; exact ⟨.none, rfl⟩
  | _, _, _, .int i, h => by simp only [nkD] at h; cases h; exact ⟨.num i, rfl⟩
  | _, _, _, .tup s r, h => by
    simp only [nkD] at h
    obtain ⟨ks, hk, rfl⟩ := Option.map_eq_some_iff.mp h
    obtain ⟨a, b⟩ := nks_rd r hk
    exact ⟨.tup s.t a, b⟩
  | _, _, _, .bl _, h => by simp [nkD] at h
  | _, _, _, .str _, h => by simp [nkD] at h
  | _, _, _, .ty _, h => by simp [nkD] at h
  | _, _, _, .lst _ _, h => by simp [nkD] at h
  | _, _, _, .cls _, h => by simp [nkD] at h
  | _, _, _, .scr _, h => by simp [nkD] at h
  | _, _, _, .dic _ _ _, h => by simp [nkD] at h
  | _, _, _, .dit _ _ _, h => by simp [nkD] at h
  | _, _, _, .dig _ _ _ _, h => by simp [nkD] at h
  | _, _, _, .dkf _ _ _, h => by simp [nkD] at h
  | _, _, _, .obj _ _ _, h => by simp [nkD] at h
theorem nks_rd : ∀ {ds : List D} {vs : List V} {ns : List NestedKey}, RDs k G ds vs → nkDs ds = some ns → NkHs k.K G ns vs ∧ nkps ns = true
  | _, _, _, .nil, h => by simp only [nkDs] at h; cases h; exact ⟨.nil, rfl⟩
  | _, _, _, .cons a b, h => by
    simp only [nkDs] at h
    split at h
    · rename_i n ns h1 h2
      cases h
      obtain ⟨p1, p2⟩ := nk_rd a h1
      obtain ⟨q1, q2⟩ := nks_rd b h2
      exact ⟨.cons p1 q1, by show (nkp n && nkps ns) = true; rw [p2, q2]; rfl⟩
    · cases h
end
theorem keyN_rd {y : D} {v : V} {q : NestedKey} (h : keyN y = some q) (n : Now k G H y v) : KeyAt k.K G q v := by
  unfold keyN at h
  split at h
  · rename_i ks hk
    split at h
    · rename_i hd
      cases h
      rcases n with n | ⟨a, o, rfl, h, ct⟩
      · obtain ⟨p1, p2⟩ := nk_rd n hk
        cases p1 with
        | tup s r => exact ⟨_, rfl, .tup s r, p2, hd⟩
      · cases ct <;> simp [nkD] at hk
    · cases h
  · cases h
theorem keyN_now (e : Ex G H) {y : D} {v : V} {q : NestedKey} (h : keyN y = some q) (n : Now k G H y v) : KeyAt k.K H q v := by
  obtain ⟨b, e1, e2, e3⟩ := keyN_rd h n
  exact ⟨b, e1, e2.mono e, e3⟩
theorem Now.dig {ks : List NestedKey} {ds : List D} {v : V} (e : Ex G H) (n : Now k G H (.dig ks ds) v) : ∃ l a xs, v = .ref l ∧ H l = some (dnO a xs) ∧ xs.map (fun x => x.1) = ks ∧ XKey k.K H xs ∧ RDs k G ds (xs.map fun x => x.2.2) := by
  rcases n with n | ⟨l, o, rfl, h, ct⟩
  · cases n with | dig h l kk r => exact ⟨_, _, _, rfl, e _ _ h, l, kk.mono e, r⟩
  · cases ct with | dig l kk r => exact ⟨_, _, _, rfl, h, l, kk.mono e, r⟩
theorem isK_mem {xs : XV} {ks : List NestedKey} (h : xs.map (fun x => x.1) = ks) (q : NestedKey) : isK xs q = decide (q ∈ ks) := by
  subst h
  unfold isK
  rw [Bool.eq_iff_iff, List.any_eq_true, decide_eq_true_eq, List.mem_map]
  constructor
  · rintro ⟨x, hx, e⟩; exact ⟨x, hx, of_decide_eq_true e⟩
  · rintro ⟨x, hx, e⟩; exact ⟨x, hx, decide_eq_true e⟩
theorem getL_valX {q : NestedKey} : ∀ {xs : XV} {ks : List NestedKey} {ds : List D} {d : D}, xs.map (fun x => x.1) = ks → RDs k G ds (xs.map fun x => x.2.2) → getL ks ds q = some d → ∃ v, valX xs q = some v ∧ RD k G d v
  | [], _, _, _, e, r, h => by subst e; simp [getL] at h
  | x :: xs, _, _, d, e, .cons a b, h => by
    subst e
    rw [List.map_cons] at h
    simp only [getL] at h
    by_cases hx : x.1 = q
    · rw [if_pos hx] at h; cases h
      exact ⟨_, by simp [valX, List.find?_cons, hx], a⟩
    · rw [if_neg hx] at h
      obtain ⟨v, h1, h2⟩ := getL_valX rfl b h
      refine ⟨v, ?_, h2⟩
      rw [← h1]
      simp [valX, List.find?_cons, hx]
end
def notInN (y d : D) : R D := match d with
  | .dig ks _ => (match keyN y with
    | some q => .ok (.bl (!decide (q ∈ ks)))
    | none => .fail)
  | _ => notInA y d
def ixN' (d y : D) : R D := match d with
  | .dig ks ds => (match keyN y with
    | some q => (match getL ks ds q with
      | some r => .ok r
      | none => .fail)
    | none => .fail)
  | _ => ixA d y
section
variable {X : Cx} {c : Cf} {kd k1 k2 k3 : Kd} {a b e o : Expr} {f g h : FE} {pos apos cpos : Pos} {fr : Bool} {x : Str} {k : Kn}
theorem o_notinK (hk : k.K = X.K) (hu : X.A.units + 65 < cLine) : Op2 X k (compareOp .NotIn) .st notInN := by
  obtain ⟨r0, h0, z0⟩ := o_notinA (k := k) hk hu
  refine ⟨_, (op_nNotIn (by omega)).or h0, ?_⟩
  intro G H y x v u d e ny nx hg Q q
  unfold notInN at hg
  split at hg
  · rename_i ks ds
    split at hg
    · rename_i q1 hq
      cases hg
      obtain ⟨l, a, xs, rfl, ha, hm, kk, r⟩ := nx.dig e
      refine .inl ⟨l, a, xs, q1, rfl, ha, hk ▸ kk, hk ▸ keyN_now e hq ny, ?_⟩
      rw [isK_mem hm]
      exact q _ G H (Step.refl e) (.bl _)
    · cases hg
  · exact .inr (z0 G H y x v u d e ny nx hg Q q)
theorem ix_nn (hu : X.A.units + 10 < cLine) : IxR X (fun x y H Q => ∃ l a xs k v, x = .ref l ∧ H l = some (dnO a xs) ∧ XKey X.K H xs ∧ KeyAt X.K H k y ∧ valX xs k = some v ∧ Q v H) := by
  intro value slice pins s σ H x y v u Q I rx ry h hs
  obtain ⟨l, a, xs, k, z, rfl, e, kk, ky, hv, q⟩ := h
  obtain rfl := dn_addr I e
  cases (show v = Value.ref a from rx)
  obtain ⟨_, _, us, _, dd⟩ := dn_of I e kk
  exact PyProof.Rows.tail_any dd.typeIs PySem.F.slot_dict_getitem.lookup (d_getItemN hu I e kk ky hv ry fun w' s3 I3 rw' => ⟨z, H, I3, rw', q⟩) hs
theorem o_ixN (hk : k.K = X.K) (hu : X.A.units + 65 < cLine) : Ix2 X k ixN' := by
  obtain ⟨r0, h0, z0⟩ := o_ixA (k := k) hk hu
  refine ⟨_, (ix_nn (by omega)).or h0, ?_⟩
  intro G H x y u v d e nx ny hg Q q
  unfold ixN' at hg
  split at hg
  · rename_i ks ds
    split at hg
    · rename_i q1 hq
      split at hg
      · rename_i r hr
        cases hg
        obtain ⟨l, a, xs, rfl, ha, hm, kk, rr⟩ := nx.dig e
        obtain ⟨w, hw, rw_⟩ := getL_valX hm rr hr
        exact .inl ⟨l, a, xs, q1, w, rfl, ha, hk ▸ kk, hk ▸ keyN_now e hq ny, hw, q _ G H (Step.refl e) rw_⟩
      · cases hg
    · cases hg
  · exact .inr (z0 G H x y u v d e nx ny hg Q q)
theorem d_dnewN : PE' X c .fr (.Dict [] [] pos) (fun _ => .ok (.dig [] [])) :=
  peI pe_dnewN fun σ H Q ⟨G, S, rel, p⟩ => fun q hq => p _ G _ (Step.new' rel.st.gh hq) ⟨q, _, rfl, rel.st.gh.free hq, hq, upd_same, .dig (xs := []) rfl (fun _ h => nomatch h) .nil⟩
def putN (i : Nat) (S : Env) (m d y : D) : R (Fl × Env) := match m with
  | .dig ks ds => (match keyN y with
    | some q => if q ∉ ks ∧ ks.length < sizeLine then .ok (.nx, S.set i (some ⟨true, .dig (ks ++ [q]) (ds ++ [d])⟩)) else .fail
    | none => .fail)
  | _ => .fail
def sPutN (i : Nat) (fy f : FE) : FS := fun S => ownD i S >>= fun m => f S >>= fun d => fy S >>= fun y => putN i S m d y
theorem s_putN (i : Nat) {ix : Expr} {fy : FE} {px ps : Pos} (hk : c.k.K = X.K) (hu : X.A.units + 64 < cLine) (he : PE' X c .st e f) (hj : PE' X c k1 ix fy) (hN : X.N[i]? = some x := by rfl) (hv : Vis X.env.scope x := by first | exact Or.inl rfl | exact Or.inr (Or.inl rfl) | exact Or.inr (Or.inr rfl)) (hd : (x == ("__debug__" : Str)) = false := by decide)
    (hcd : (x == ("__classdict__" : Str)) = false := by decide) (hs : swapsWith e (some (.Subscript (.Name x px) ix ps)) pos.line X.env = pure false := by rfl) :
    PS' X c fr [i + 1000] (.Assign [.Subscript (.Name x px) ix ps] e pos) (sPutN i fy f) :=
  psI (ps_nput (by omega) (pe_var hN hv hd hcd) hj he hs) fun Dn σ H ⟨G, S, rel, p⟩ => by
    have p : PostS c fr [i + 1000] G S σ H Dn (ownD i S >>= fun m => f S >>= fun d => fy S >>= fun y => putN i S m d y) := p
    cases e0 : ownD i S with
    | exc x => exact absurd e0 ownD_exc
    | fail => rw [e0] at p; exact p.elim
    | ok m =>
      rw [e0, R.ok_bind] at p
      have hS := ownD_of e0
      obtain ⟨l, ob, es, hg, h0, ho, ct⟩ := rel.ow i _ hS
      have ow : OwnAt S σ i l := ⟨⟨_, hS⟩, es⟩
      refine rdE_go (Post := PostS c fr [i + 1000] G S σ H Dn) rel p (fun _ z => z _) (fun z => z) fun d v G1 H1 s1 q1 p1 => ?_
      refine ⟨_, es, ?_⟩
      refine rdE_go (Post := PostS c fr [i + 1000] G S σ H Dn) (rel.grow s1) p1 (fun _ z => z _) (fun z => z) fun y u G2 H2 s2 q2 p2 => ?_
      have sp := s1.trans s2
      have rel' := rel.grow sp
      cases ct with
      | @dig ks ds a xs hm kk r =>
        simp only [putN] at p2
        cases hq : keyN y with
        | none => rw [hq] at p2; exact p2.elim
        | some q =>
          rw [hq] at p2
          dsimp only at p2
          by_cases hc : q ∉ ks ∧ ks.length < sizeLine
          · rw [if_pos hc] at p2
            obtain ⟨b, rfl, kb, b2, b3⟩ := keyN_rd hq q2.now
            have b1 := kb.mono s2.gh
            have hz : xs.length < sizeLine := by rw [← hm, List.length_map] at hc; exact hc.2
            have kk2 : XKey c.k.K G2 xs := kk.mono sp.g
            have nb : isK xs q = false := by rw [isK_mem hm]; exact decide_eq_false hc.1
            have ep : putX xs q b v = xs ++ [(q, b, v)] := by unfold putX; rw [nb]; rfl
            refine ⟨l, a, xs, q, b, rfl, sp.h _ _ ho, hk ▸ (kk2.mono s2.gh), rfl, hk ▸ b1, b2, b3, hz, ?_⟩
            rw [ep]
            refine p2 G2 σ _ sp.g (rel'.mut ow (.dig (xs := xs ++ [(q, b, v)]) (by rw [List.map_append, hm]; rfl) ?_ ?_)) ((Frm.step (as := []) rel sp).trans (Frm.mut rel' ow))
            · intro x hx
              rcases List.mem_append.mp hx with hx | hx
              · exact kk2 x hx
              · rw [List.mem_singleton.mp hx]; exact ⟨kb, b2, b3⟩
            · rw [List.map_append]; exact (r.mono sp.g).append (.cons (RD.mono s2.g q1) .nil)
          · rw [if_neg hc] at p2; exact p2.elim
      | _ => simp only [putN] at p2; exact p2.elim
end
end M
set_option Elab.async false
set_option linter.all false
set_option maxRecDepth 100000
set_option maxHeartbeats 4000000
namespace Pf
open PySem L2 M
structure Bt (mg : Str → Option Value) : Prop where
  abs : mg "abs" = none
  bool : mg "bool" = none
  enumerate : mg "enumerate" = none
  int : mg "int" = none
  isinstance : mg "isinstance" = none
  len : mg "len" = none
  list : mg "list" = none
  min : mg "min" = none
  range : mg "range" = none
  set : mg "set" = none
  sorted : mg "sorted" = none
  tuple : mg "tuple" = none
section
variable {P : Program} {w : World} {K : PySem.W.Frag} {mg : Str → Option Value} {base : Heap} {cl : Nat → Option (Addr × List Str)}
def m_check_supply : FS :=
    (sSeq (sIf (tNo (tB' (e3 leD leD (eI (1)) (eW 0) (eG gv_MOST_STATES)))) (sExc0 202) sNil)
    (sSeq (sIf (tO (tNo (tT' (eW 2))) (tO (tB' (e2 ltD (e1 lenSetD (eW 2)) (eC (f1 lenD) (aC (eW 2) aN)))) (tO (tB' (e2 ltD (e2 ixA (eW 2) (eI (0))) (eI (0)))) (tB' (e2 geD (e2 ixA (eW 2) (e1 negD (eI (1)))) (eW 0)))))) (sExc0 202) sNil)
    (sSeq (sIf (tB' (e2 ltD (e1 lenSetD (eW 1)) (eC (f1 lenD) (aC (eW 1) aN)))) (sExc0 202) sNil)
    (sSeq (sFor (fun S => (eV 1) S >>= itemsD) (gT 3 (gsC (gN 3) (gsC (gN 4) (gsC (gN 5) gsN)))) (sIf (tO (tNo (tB' (e3 leD ltD (eI (0)) (eW 3) (eW 0)))) (tO (tNo (tB' (e3 leD ltD (eI (0)) (eW 5) (eW 0)))) (tB' (e2 notInA (eW 4) (eT (aC (eI (0)) (aC (eI (1)) aN))))))) (sExc0 202) sNil))
    (sIf (tB' (e2 ltD (lenScK (fun S => (eV 1) S >>= itemsD) (gT 3 (gsC (gN 3) (gsC (gN 4) (gsC (gN 5) gsN)))) tY (eV 3) [3, 4, 5]) (eW 0))) (sExc0 202) sNil)))))
def d_check_supply : List D → R D := runF false 6 m_check_supply
theorem sc_check_supply : FnScope ["size", "steps", "starts", "state", "bit", "ahead"] ["size", "steps", "starts"] (defScope st_check_supply) := ⟨rfl, rfl, rfl, by decide +kernel, rfl, by decide +kernel, by decide +kernel⟩
theorem ok_check_supply {f : Addr} {fd : FuncData} (F : FunD K "check_supply" "check_supply" (defArgs st_check_supply) (defBody st_check_supply) (defScope st_check_supply) [] [] f fd) (mgf : mg "check_supply" = some (.ref f)) (B : Bt mg) (g_MOST_STATES : Gc mg ⟨K, cl⟩ "MOST_STATES" gv_MOST_STATES) (R_InvalidSupply : RaO K mg ⟨K, cl⟩ "InvalidSupply" 202) : CalleeX P w K mg base ⟨K, cl⟩ 1 "check_supply" 3 false d_check_supply := by
  have nd : (["size", "steps", "starts", "state", "bit", "ahead"] : List Str).Nodup := sc_check_supply.nd
  have z := fn_okX (P := P) (w := w) (mg := mg) (base := base) (k := ⟨K, cl⟩) (fr := false) (lv := 0) (as := _) (s := m_check_supply) F sc_check_supply fun cdv A outer sh H G0 E hr tk => by
    have hu := hr.units
    have hu5 := hr.units5
    exact (b_cons (s_if (d_not (d_tch (o_le) (o_le) d_int (d_w 0) (d_g g_MOST_STATES))) (b_one (s_raise0 R_InvalidSupply rfl tk)) b_nil)
    (b_cons (s_if (d_pw (d_or (d_not (d_tt rfl (d_w 2))) (d_or (d_tc (o_lt) (d_lenSet rfl rfl hu B.len B.set (d_w 2)) (d_bltn (c_len rfl) B.len (d_ab (d_w 2) d_an))) (d_or (d_tc (o_lt) (d_ix (o_ixA rfl hu5) (d_w 2) d_int) d_int) (d_or1 (d_tc (o_ge) (d_ix (o_ixA rfl hu5) (d_w 2) (d_un o_neg d_int)) (d_w 0))))))) (b_one (s_raise0 R_InvalidSupply rfl tk)) b_nil)
    (b_cons (s_if (d_tc (o_lt) (d_lenSet rfl rfl hu B.len B.set (d_w 1)) (d_bltn (c_len rfl) B.len (d_ab (d_w 1) d_an))) (b_one (s_raise0 R_InvalidSupply rfl tk)) b_nil)
    (b_cons (s_for (L2.passes_of rfl) rfl (i_seq rfl (d_v 1)) (g_t rfl rfl (gs_c (g_n 3 nd) (gs_c (g_n 4 nd) (gs_c (g_n 5 nd) gs_n)))) (b_one (s_if (d_pw (d_or (d_not (d_tch (o_le) (o_lt) d_int (d_w 3) (d_w 0))) (d_or (d_not (d_tch (o_le) (o_lt) d_int (d_w 5) (d_w 0))) (d_or1 (d_tc (o_notinA rfl hu5) (d_w 4) (d_tup (d_ac d_int (d_ac d_int d_an)))))))) (b_one (s_raise0 R_InvalidSupply rfl tk)) b_nil)))
    (b_one (s_if (d_tc (o_lt) (d_lenScK [("state", 3), ("bit", 4), ("ahead", 5)] rfl hu B.len rfl nd (i_seq rfl (d_v 1)) (blkOk_by (N := ["size", "steps", "starts", "state", "bit", "ahead"]) (sc := (defScope st_check_supply)) (by decide +kernel)) (fun _ _ _ _ _ => (g_t rfl rfl (gs_c (g_n 3 nd) (gs_c (g_n 4 nd) (gs_c (g_n 5 nd) gs_n))))) (fun _ _ _ _ _ => ts_n) (fun _ _ _ _ _ => (d_v 3))) (d_w 0)) (b_one (s_raise0 R_InvalidSupply rfl tk)) b_nil))))))
  exact ⟨f, fd, ["size", "steps", "starts"], rfl, z, mgf, F.kp, F.bindsN fun _ _ _ _ _ _ us hl => match us, hl with | [_, _, _], _ => rfl⟩
def m_moves_of : FS :=
    (sSeq (sOwn 1 (fun _ => .ok (.dit [] [])))
    (sSeq (sFor (fun S => (eV 0) S >>= itemsD) (gT 3 (gsC (gN 2) (gsC (gN 3) (gsC (gN 4) gsN)))) (sPutA 1 (eT (aC (eV 2) (aC (eV 3) aN))) (e2 addD (eGet2 (eW 1) (eT (aC (eV 2) (aC (eV 3) aN))) (eT aN)) (eT (aC (eV 4) aN)))))
    (sRetO 1)))
def d_moves_of : List D → R D := fun ds => (runF true 5 m_moves_of ds).nox
theorem sc_moves_of : FnScope ["steps", "found", "state", "bit", "ahead"] ["steps"] (defScope st_moves_of) := ⟨rfl, rfl, rfl, by decide +kernel, rfl, by decide +kernel, by decide +kernel⟩
theorem ok_moves_of {f : Addr} {fd : FuncData} (F : FunD K "moves_of" "moves_of" (defArgs st_moves_of) (defBody st_moves_of) (defScope st_moves_of) [] [] f fd) (mgf : mg "moves_of" = some (.ref f)) (B : Bt mg)  : Callee P w K mg base ⟨K, cl⟩ 1 "moves_of" 1 true d_moves_of := by
  have nd : (["steps", "found", "state", "bit", "ahead"] : List Str).Nodup := sc_moves_of.nd
  have z := fn_ok (P := P) (w := w) (mg := mg) (base := base) (k := ⟨K, cl⟩) (fr := true) (lv := 0) (as := [1, 2, 3, 4, 1001]) (s := m_moves_of) F sc_moves_of fun cdv A outer sh H G0 hr => by
    have hu := hr.units
    have hu5 := hr.units5
    exact (b_cons (s_own 1 nd d_dnewT)
    (b_cons (s_for PassesOwn.never rfl (i_seq rfl (d_v 0)) (g_t rfl rfl (gs_c (g_n 2 nd) (gs_c (g_n 3 nd) (gs_c (g_n 4 nd) gs_n)))) (b_one (s_putA 1 hu (d_op (o_add rfl) (d_get2A hu (d_w 1) (d_tup (d_ac (d_v 2) (d_ac (d_v 3) d_an))) (d_tup d_an)) (d_tup (d_ac (d_v 4) d_an))) (d_tup (d_ac (d_v 2) (d_ac (d_v 3) d_an))))))
    (b_one (s_retO 1))))
  exact ⟨f, fd, ["steps"], rfl, z, mgf, F.kp, F.bindsN fun _ _ _ _ _ _ us hl => match us, hl with | [_], _ => rfl⟩
def m_Supply : FS :=
    (sSeq (sFldN 3 0 0 (eV 1))
    (sSeq (sFldN 3 0 1 (eC (f1 tupD) (aC (eC (f1 srtAD) (aC (lcE (fun S => (eV 2) S >>= itemsD) (gN 4) tY (eC (f1 tupD) (aC (eW 4) aN)) [4]) aN)) aN)))
    (sSeq (sFldN 3 0 2 (eC (f1 tupD) (aC (eC (f1 srtAD) (aC (eW 3) aN)) aN)))
    (sSeq (sDrop (eCX d_check_supply (aC (eV 1) (aC (e1 (fldD 3 1) (eW 0)) (aC (e1 (fldD 3 2) (eW 0)) aN)))))
    (sFldN 3 0 3 (eC d_moves_of (aC (e1 (fldD 3 1) (eW 0)) aN)))))))
def d_Supply : List D → R D := runN 5 3 m_Supply
theorem sc_Supply : FnScope ["self", "size", "steps", "starts", "step"] ["self", "size", "steps", "starts"] (defScope st_Supply) := ⟨rfl, rfl, rfl, by decide +kernel, rfl, by decide +kernel, by decide +kernel⟩
theorem ok_Supply {C f : Addr} {fd : FuncData} {dvs : List V} (hdd : ∀ G, RDs ⟨K, cl⟩ G [.tup [.int 0]] dvs) (F : FunD K "__init__" "Supply.__init__" (defArgs st_Supply) (defBody st_Supply) (defScope st_Supply) [] ((["starts"] : List Str).zip dvs) f fd) (hcl : cl 3 = some (C, (["size", "steps", "starts", "moves"] : List Str))) (mk : Mk K C f) (mgf : mg "Supply" = some (.ref C)) (B : Bt mg) (C_Supply : ClsI K ⟨K, cl⟩ 3 (["size", "steps", "starts", "moves"] : List Str)) (h_check_supply : CalleeX P w K mg base ⟨K, cl⟩ 1 "check_supply" 3 false d_check_supply) (h_moves_of : Callee P w K mg base ⟨K, cl⟩ 1 "moves_of" 1 true d_moves_of) : MakerXD P w K mg base ⟨K, cl⟩ 2 "Supply" 3 2 [.tup [.int 0]] d_Supply := by
  have nd : (["self", "size", "steps", "starts", "step"] : List Str).Nodup := sc_Supply.nd
  have z := init_okX (P := P) (w := w) (mg := mg) (base := base) (k := ⟨K, cl⟩) (ci := 3) (lv := 1) (as := [1000, 1000, 1000, 1000]) (s := m_Supply) F sc_Supply (by decide) fun cdv A outer sh H H0 G0 E hr tk => by
    have hu := hr.units
    have hu5 := hr.units5
    exact (b_cons (s_fld 3 0 0 C_Supply rfl (d_v 1))
    (b_cons (s_fld 3 0 1 C_Supply rfl (d_btyp (c_tup rfl) B.tuple (d_ab (d_bltn (c_srtA rfl hu) B.sorted (d_ab (d_lc [("step", 4)] rfl nd (i_seq rfl (d_v 2)) (blkOk_by (N := ["self", "size", "steps", "starts", "step"]) (sc := (defScope st_Supply)) (by decide +kernel)) (fun _ _ _ _ _ => (g_n 4 nd)) (fun _ _ _ _ _ => ts_n) (fun _ _ _ _ _ => (d_btyp (c_tup rfl) B.tuple (d_ab (d_w 4) d_an)))) d_an)) d_an)))
    (b_cons (s_fld 3 0 2 C_Supply rfl (d_btyp (c_tup rfl) B.tuple (d_ab (d_bltn (c_srtA rfl hu) B.sorted (d_ab (d_w 3) d_an)) d_an)))
    (b_cons (s_drop (d_callXS h_check_supply hr (by decide) tk (d_ac (d_v 1) (d_ac (d_fld 3 1 C_Supply rfl (d_w 0)) (d_ac (d_fld 3 2 C_Supply rfl (d_w 0)) d_an))) (len_c (len_c (len_c len_n)))))
    (b_one (s_fld 3 0 3 C_Supply rfl (d_z (d_callF (h_moves_of.at hr (by decide)) (d_ac (d_fld 3 1 C_Supply rfl (d_w 0)) d_an) (len_c len_n)))))))))
  have hl0 : dvs.length = 1 := (hdd (fun _ => none)).length.symm
  obtain ⟨ds, hv, hb⟩ := F.binds0 (ps := ["self", "size", "steps", "starts"]) 3 (by intro h; have := congrArg List.length h; simp [hl0] at this) (by simp [hl0]) (match dvs, hl0 with | [_], _ => fun D doc pm an cdv ct us ks l1 l2 => match us, ks, l1, l2 with | [_, _, _], [_], _, _ => ⟨_, _, _, _, _, _, rfl, rfl, rfl⟩)
  exact ⟨C, f, fd, ["self", "size", "steps", "starts"], (["size", "steps", "starts", "moves"] : List Str), dvs, ds, hcl, mk, z, mgf, hb, (match dvs, hl0, hv with | [_], _, hv => hv), hdd⟩
theorem okk_Supply {C f : Addr} {fd : FuncData} {dvs : List V} (hdd : ∀ G, RDs ⟨K, cl⟩ G [.tup [.int 0]] dvs) (F : FunD K "__init__" "Supply.__init__" (defArgs st_Supply) (defBody st_Supply) (defScope st_Supply) [] ((["starts"] : List Str).zip dvs) f fd) (hcl : cl 3 = some (C, (["size", "steps", "starts", "moves"] : List Str))) (mk : Mk K C f) (mgf : mg "Supply" = some (.ref C)) (B : Bt mg) (C_Supply : ClsI K ⟨K, cl⟩ 3 (["size", "steps", "starts", "moves"] : List Str)) (h_check_supply : CalleeX P w K mg base ⟨K, cl⟩ 1 "check_supply" 3 false d_check_supply) (h_moves_of : Callee P w K mg base ⟨K, cl⟩ 1 "moves_of" 1 true d_moves_of) : MakerXK P w K mg base ⟨K, cl⟩ 2 "Supply" 3 2 ["starts"] d_Supply := by
  have nd : (["self", "size", "steps", "starts", "step"] : List Str).Nodup := sc_Supply.nd
  have z := init_okX (P := P) (w := w) (mg := mg) (base := base) (k := ⟨K, cl⟩) (ci := 3) (lv := 1) (as := [1000, 1000, 1000, 1000]) (s := m_Supply) F sc_Supply (by decide) fun cdv A outer sh H H0 G0 E hr tk => by
    have hu := hr.units
    have hu5 := hr.units5
    exact (b_cons (s_fld 3 0 0 C_Supply rfl (d_v 1))
    (b_cons (s_fld 3 0 1 C_Supply rfl (d_btyp (c_tup rfl) B.tuple (d_ab (d_bltn (c_srtA rfl hu) B.sorted (d_ab (d_lc [("step", 4)] rfl nd (i_seq rfl (d_v 2)) (blkOk_by (N := ["self", "size", "steps", "starts", "step"]) (sc := (defScope st_Supply)) (by decide +kernel)) (fun _ _ _ _ _ => (g_n 4 nd)) (fun _ _ _ _ _ => ts_n) (fun _ _ _ _ _ => (d_btyp (c_tup rfl) B.tuple (d_ab (d_w 4) d_an)))) d_an)) d_an)))
    (b_cons (s_fld 3 0 2 C_Supply rfl (d_btyp (c_tup rfl) B.tuple (d_ab (d_bltn (c_srtA rfl hu) B.sorted (d_ab (d_w 3) d_an)) d_an)))
    (b_cons (s_drop (d_callXS h_check_supply hr (by decide) tk (d_ac (d_v 1) (d_ac (d_fld 3 1 C_Supply rfl (d_w 0)) (d_ac (d_fld 3 2 C_Supply rfl (d_w 0)) d_an))) (len_c (len_c (len_c len_n)))))
    (b_one (s_fld 3 0 3 C_Supply rfl (d_z (d_callF (h_moves_of.at hr (by decide)) (d_ac (d_fld 3 1 C_Supply rfl (d_w 0)) d_an) (len_c len_n)))))))))
  have hl0 : dvs.length = 1 := (hdd (fun _ => none)).length.symm
  obtain ⟨mv, kb⟩ := F.kbinds0 (ps := ["self", "size", "steps", "starts"]) 3 ["starts"] [] (fun us _ ws => us ++ ws) (by intro h; have := congrArg List.length h; simp [hl0] at this) (fun q hq => nomatch hq) (fun r1 _ r3 => r1.append r3) (fun _ _ _ _ _ _ us mv ws l1 l2 l3 => match us, mv, ws, l1, l2, l3 with | [_, _, _], [], [_], _, _, _ => rfl)
  exact ⟨C, f, fd, ["self", "size", "steps", "starts"], (["size", "steps", "starts", "moves"] : List Str), _, hcl, mk, z, mgf, kb⟩
def m_Supply_share : FS :=
    (sSeq (sIf (tO (tNo (tB' (e3 leD leD (eI (1)) (eW 2) (eG gv_LONGEST_PERIOD)))) (tNo (tB' (e3 leD leD (eI (0)) (eW 1) (eW 2))))) (sExc0 202) sNil)
    (sSeq (sSet 5 (lc2E (fun S => (aC (eW 2) aN) S >>= rng1) (gN 3) tY (fun S => (aC (e2 addD (eC (f2 min2D) (aC (eW 3) (aC (eW 1) aN))) (eI (1))) aN) S >>= rng1) (gN 4) (tB' (e2 leD (e2 subD (eW 1) (eW 4)) (e2 subD (eW 2) (eW 3)))) (eT (aC (eV 3) (aC (eV 4) aN))) [3, 4] [4]))
    (sSeq (sSet 6 (dcE dkT (fun S => (aC (eV 5) aN) S >>= enumerateF) (gT 2 (gsC (gN 10) (gsC (gN 11) gsN))) tY (eV 11) (eV 10) [10, 11]))
    (sSeq (sOwn 7 (eL aN))
    (sSeq (sFor (fun S => (eV 5) S >>= itemsD) (gT 2 (gsC (gN 3) (gsC (gN 4) gsN))) (sFor (fun S => (eT (aC (eI (0)) (aC (eI (1)) aN))) S >>= itemsD) (gN 8) (sSeq (sSet 9 (eT (aC (e2 addD (eW 3) (eI (1))) (aC (eC (f2 min2D) (aC (e2 addD (eW 4) (eW 8)) (aC (eW 1) aN))) aN))))
    (sSeq (sIf (tB' (e2 eqD (eW 9) (eT (aC (eV 2) (aC (eV 1) aN))))) (sSet 9 (eT (aC (eI (0)) (aC (eI (0)) aN)))) sNil)
    (sIf (tB' (e2 inA (eW 9) (eW 6))) (sApp 7 (eT (aC (e2 ixA (eW 6) (eT (aC (eV 3) (aC (eV 4) aN)))) (aC (eV 8) (aC (e2 ixA (eW 6) (eW 9)) aN))))) sNil)))))
    (sFz 7 (sRet (eCXL 0 3 [.tup [.int 0]] d_Supply (aC (eC (f1 lenD) (aC (eW 5) aN)) (aC (eV 7) aN))))))))))
def d_Supply_share : List D → R D := runF true 12 m_Supply_share
theorem sc_Supply_share : FnScope ["cls", "q", "p", "i", "k", "pairs", "numbers", "steps", "bit", "then", "at", "pair"] ["cls", "q", "p"] (defScope st_Supply_share) := ⟨rfl, rfl, rfl, by decide +kernel, rfl, by decide +kernel, by decide +kernel⟩
theorem ok_Supply_share {C p f : Addr} {mc : Value} {fd : FuncData} (F : FunD K "share" "Supply.share" (defArgs st_Supply_share) (defBody st_Supply_share) (defScope st_Supply_share) [] [] f fd) (hcl : cl 3 = some (C, (["size", "steps", "starts", "moves"] : List Str))) (cr : ClX.CRead K C mc) (cm : ClX.CMet K C mc "share" p f) (B : Bt mg) (g_LONGEST_PERIOD : Gc mg ⟨K, cl⟩ "LONGEST_PERIOD" gv_LONGEST_PERIOD) (R_InvalidSupply : RaO K mg ⟨K, cl⟩ "InvalidSupply" 202) (m_Supply : MakerXD P w K mg base ⟨K, cl⟩ 2 "Supply" 3 2 [.tup [.int 0]] d_Supply) : CmethX P w K mg base ⟨K, cl⟩ 4 3 "share" 3 true d_Supply_share := by
  have nd : (["cls", "q", "p", "i", "k", "pairs", "numbers", "steps", "bit", "then", "at", "pair"] : List Str).Nodup := sc_Supply_share.nd
  have z := fn_okX (P := P) (w := w) (mg := mg) (base := base) (k := ⟨K, cl⟩) (fr := true) (lv := 3) (as := _) (s := m_Supply_share) F sc_Supply_share fun cdv A outer sh H G0 E hr tk => by
    have hu := hr.units
    have hu5 := hr.units5
    exact (b_cons (s_if (d_pw (d_or (d_not (d_tch (o_le) (o_le) d_int (d_w 2) (d_g g_LONGEST_PERIOD))) (d_or1 (d_not (d_tch (o_le) (o_le) d_int (d_w 1) (d_w 2)))))) (b_one (s_raise0 R_InvalidSupply rfl tk)) b_nil)
    (b_cons (s_lc2Z 5 [("i", 3), ("k", 4)] [4] rfl nd (i_rng1 B.range (d_ab (d_w 2) d_an)) (blkOk_by (N := ["cls", "q", "p", "i", "k", "pairs", "numbers", "steps", "bit", "then", "at", "pair"]) (sc := (defScope st_Supply_share)) (by decide +kernel)) (fun _ _ _ _ _ => (g_n 3 nd)) (fun _ _ _ _ _ => ts_n) (fun _ _ _ _ _ => (i_rng1 B.range (d_ab (d_op (o_add rfl) (d_bltn (c_min2 rfl) B.min (d_ab (d_w 3) (d_ab (d_w 1) d_an))) d_int) d_an))) (fun _ _ _ _ _ => (g_n 4 nd)) (fun _ _ _ _ _ => (ts_1 (d_tc (o_le) (d_op (o_sub) (d_w 1) (d_w 4)) (d_op (o_sub) (d_w 2) (d_w 3))))) (fun _ _ _ _ _ => (d_tup (d_ac (d_v 3) (d_ac (d_v 4) d_an)))))
    (b_cons (s_dcZ 6 dkT [("at", 10), ("pair", 11)] hu rfl nd (i_enumerate rfl B.enumerate (d_ac (d_v 5) d_an)) (blkOk_by (N := ["cls", "q", "p", "i", "k", "pairs", "numbers", "steps", "bit", "then", "at", "pair"]) (sc := (defScope st_Supply_share)) (by decide +kernel)) (fun _ _ _ _ _ => (g_t rfl rfl (gs_c (g_n 10 nd) (gs_c (g_n 11 nd) gs_n)))) (fun _ _ _ _ _ => ts_n) (fun _ _ _ _ _ => (d_v 11)) (fun _ _ _ _ _ => (d_v 10)))
    (b_cons (s_own 7 nd (d_lst d_an))
    (b_cons (s_for (L2.passes_of rfl) rfl (i_seq rfl (d_v 5)) (g_t rfl rfl (gs_c (g_n 3 nd) (gs_c (g_n 4 nd) gs_n))) (b_one (s_for (L2.passes_of rfl) rfl (i_seq rfl (d_tup (d_ac d_int (d_ac d_int d_an)))) (g_n 8 nd) (b_cons (s_set 9 nd (d_tup (d_ac (d_op (o_add rfl) (d_w 3) d_int) (d_ac (d_bltn (c_min2 rfl) B.min (d_ab (d_op (o_add rfl) (d_w 4) (d_w 8)) (d_ab (d_w 1) d_an))) d_an))))
    (b_cons (s_if (d_tc (o_eq rfl hu) (d_w 9) (d_tup (d_ac (d_v 2) (d_ac (d_v 1) d_an)))) (b_one (s_set 9 nd (d_tup (d_ac d_int (d_ac d_int d_an))))) b_nil)
    (b_one (s_if (d_tc (o_inA rfl hu5) (d_w 9) (d_w 6)) (b_one (s_app 7 (d_tup (d_ac (d_ix (o_ixA rfl hu5) (d_w 6) (d_tup (d_ac (d_v 3) (d_ac (d_v 4) d_an)))) (d_ac (d_v 8) (d_ac (d_ix (o_ixA rfl hu5) (d_w 6) (d_w 9)) d_an)))))) b_nil)))))))
    (b_one (s_fz 7 (s_retF (d_makerXL 0 m_Supply hr (by decide) tk (d_ac (d_bltn (c_len rfl) B.len (d_ab (d_w 5) d_an)) (d_ac (d_v 7) d_an)) (len_c (len_c len_n)))))))))))
  exact ⟨C, p, f, mc, fd, ["cls", "q", "p"], (["size", "steps", "starts", "moves"] : List Str), rfl, hcl, cr, cm, z, F.bindsN fun _ _ _ _ _ _ us hl => match us, hl with | [_, _, _], _ => rfl⟩
def m_Supply_after : FS :=
    (sSeq (sIf (tB' (e2 eqD (eC (f1 lenD) (aC (eW 1) aN)) (eI (1)))) (sRet (eGet2 (e1 (fldD 3 3) (eW 0)) (eT (aC (e2 ixA (eW 1) (eI (0))) (aC (eV 2) aN))) (eT aN))) sNil)
    (sRet (eC (f1 tupD) (aC (srtSc2E (fun S => (eV 1) S >>= itemsD) (gN 3) tY (fun S => (eGet2 (e1 (fldD 3 3) (eW 0)) (eT (aC (eV 3) (aC (eV 2) aN))) (eT aN)) S >>= itemsD) (gN 4) tY (eV 4) [3, 4] [4]) aN))))
def d_Supply_after : List D → R D := fun ds => (runF false 5 m_Supply_after ds).nox
theorem sc_Supply_after : FnScope ["self", "states", "bit", "state", "then"] ["self", "states", "bit"] (defScope st_Supply_after) := ⟨rfl, rfl, rfl, by decide +kernel, rfl, by decide +kernel, by decide +kernel⟩
theorem ok_Supply_after {C f : Addr} {fd : FuncData} (F : FunD K "after" "Supply.after" (defArgs st_Supply_after) (defBody st_Supply_after) (defScope st_Supply_after) [] [] f fd) (hcl : cl 3 = some (C, (["size", "steps", "starts", "moves"] : List Str))) (mc : Cls K C) (mk : Meth K C "after" f) (B : Bt mg) (C_Supply : ClsI K ⟨K, cl⟩ 3 (["size", "steps", "starts", "moves"] : List Str)) : Method P w K mg base ⟨K, cl⟩ 1 3 "after" 3 false d_Supply_after := by
  have nd : (["self", "states", "bit", "state", "then"] : List Str).Nodup := sc_Supply_after.nd
  have z := fn_ok (P := P) (w := w) (mg := mg) (base := base) (k := ⟨K, cl⟩) (fr := false) (lv := 0) (as := []) (s := m_Supply_after) F sc_Supply_after fun cdv A outer sh H G0 hr => by
    have hu := hr.units
    have hu5 := hr.units5
    exact (b_cons (s_if (d_tc (o_eq rfl hu) (d_bltn (c_len rfl) B.len (d_ab (d_w 1) d_an)) d_int) (b_one (s_ret (d_get2A hu (d_fld 3 3 C_Supply rfl (d_w 0)) (d_tup (d_ac (d_ix (o_ixA rfl hu5) (d_w 1) d_int) (d_ac (d_v 2) d_an))) (d_tup d_an)))) b_nil)
    (b_one (s_ret (d_btyp (c_tup rfl) B.tuple (d_ab (d_srtSc2 [("state", 3), ("then", 4)] [4] hu B.sorted rfl nd (i_seq rfl (d_v 1)) (blkOk_by (N := ["self", "states", "bit", "state", "then"]) (sc := (defScope st_Supply_after)) (by decide +kernel)) (fun _ _ _ _ _ => (g_n 3 nd)) (fun _ _ _ _ _ => ts_n) (fun _ _ _ _ _ => (i_seq rfl (d_get2A hu (d_fld 3 3 C_Supply rfl (d_w 0)) (d_tup (d_ac (d_v 3) (d_ac (d_v 2) d_an))) (d_tup d_an)))) (fun _ _ _ _ _ => (g_n 4 nd)) (fun _ _ _ _ _ => ts_n) (fun _ _ _ _ _ => (d_v 4))) d_an)))))
  exact ⟨C, f, fd, ["self", "states", "bit"], (["size", "steps", "starts", "moves"] : List Str), rfl, hcl, by decide, mc, mk, z, F.bindsN fun _ _ _ _ _ _ us hl => match us, hl with | [_, _, _], _ => rfl⟩
def m_parting : FS :=
    (sSeq (sOwn 2 (fun _ => .ok (.dig [] [])))
    (sSeq (sFor (fun S => (e1 (fldD 3 2) (eW 0)) S >>= itemsD) (gN 3) (sPutN 2 (eT (aC (eV 3) (aC (e1 (fldD 3 2) (eW 1)) aN))) (eB true)))
    (sSeq (sSet 4 (eL (aC (eT (aC (eT aN) (aC (e1 (fldD 3 2) (eW 0)) (aC (e1 (fldD 3 2) (eW 1)) aN)))) aN)))
    (sSeq (whileF (tT' (eW 4)) (sSeq (sOwn 5 (eL aN))
    (sSeq (sFor (fun S => (eC (f1 lstD) (aC (eW 4) aN)) S >>= itemsD) (gT 3 (gsC (gN 6) (gsC (gN 7) (gsC (gN 8) gsN)))) (sFor (fun S => (eT (aC (eI (0)) (aC (eI (1)) aN))) S >>= itemsD) (gN 9) (sSeq (sSet 10 (eM 3 d_Supply_after (eV 1) (aC (eV 8) (aC (eV 9) aN))))
    (sSeq (sSet 11 (eC (f1 tupD) (aC (lcE (fun S => (eM 3 d_Supply_after (eV 0) (aC (eV 7) (aC (eV 9) aN))) S >>= itemsD) (gN 3) (tB' (e2 notInN (eT (aC (eV 3) (aC (eV 10) aN))) (eW 2))) (eV 3) [3]) aN)))
    (sSeq (sIf (tA (tT' (eW 11)) (tNo (tT' (eW 10)))) (sRet (e2 addD (eW 6) (eT (aC (eV 9) aN)))) sNil)
    (sSeq (sFor (fun S => (eV 11) S >>= itemsD) (gN 3) (sPutN 2 (eT (aC (eV 3) (aC (eV 10) aN))) (eB true)))
    (sIf (tT' (eW 11)) (sApp 5 (eT (aC (e2 addD (eW 6) (eT (aC (eV 9) aN))) (aC (eV 11) (aC (eV 10) aN))))) sNil)))))))
    (sFz 5 (sSet 4 (eV 5))))) 20000)
    (sRet eN)))))
def d_parting : List D → R D := fun ds => (runF false 12 m_parting ds).nox
theorem sc_parting : FnScope ["a", "b", "seen", "state", "level", "longer", "word", "mine", "theirs", "bit", "there", "here"] ["a", "b"] (defScope st_parting) := ⟨rfl, rfl, rfl, by decide +kernel, rfl, by decide +kernel, by decide +kernel⟩
theorem ok_parting {f : Addr} {fd : FuncData} (F : FunD K "parting" "parting" (defArgs st_parting) (defBody st_parting) (defScope st_parting) [] [] f fd) (mgf : mg "parting" = some (.ref f)) (B : Bt mg) (C_Supply : ClsI K ⟨K, cl⟩ 3 (["size", "steps", "starts", "moves"] : List Str)) (h_Supply_after : Method P w K mg base ⟨K, cl⟩ 1 3 "after" 3 false d_Supply_after) : Callee P w K mg base ⟨K, cl⟩ 2 "parting" 2 false d_parting := by
  have nd : (["a", "b", "seen", "state", "level", "longer", "word", "mine", "theirs", "bit", "there", "here"] : List Str).Nodup := sc_parting.nd
  have z := fn_ok (P := P) (w := w) (mg := mg) (base := base) (k := ⟨K, cl⟩) (fr := false) (lv := 1) (as := [2, 3, 1002, 4, 5, 6, 7, 8, 9, 10, 11, 3, 1002, 1005, 5, 4]) (s := m_parting) F sc_parting fun cdv A outer sh H G0 hr => by
    have hu := hr.units
    have hu5 := hr.units5
    exact (b_cons (s_own 2 nd d_dnewN)
    (b_cons (s_for PassesOwn.never rfl (i_seq rfl (d_fld 3 2 C_Supply rfl (d_w 0))) (g_n 3 nd) (b_one (s_putN 2 rfl hu d_bl (d_tup (d_ac (d_v 3) (d_ac (d_fld 3 2 C_Supply rfl (d_w 1)) d_an))))))
    (b_cons (s_set 4 nd (d_z (d_lst (d_ac (d_tup (d_ac (d_tup d_an) (d_ac (d_fld 3 2 C_Supply rfl (d_w 0)) (d_ac (d_fld 3 2 C_Supply rfl (d_w 1)) d_an)))) d_an))))
    (b_cons (s_while 20000 PassesOwn.never (d_tt rfl (d_w 4)) (b_cons (s_own 5 nd (d_lst d_an))
    (b_cons (s_for PassesOwn.never rfl (i_seq rfl (d_z (d_btyp (c_lst rfl) B.list (d_ab (d_w 4) d_an)))) (g_t rfl rfl (gs_c (g_n 6 nd) (gs_c (g_n 7 nd) (gs_c (g_n 8 nd) gs_n)))) (b_one (s_for PassesOwn.never rfl (i_seq rfl (d_tup (d_ac d_int (d_ac d_int d_an)))) (g_n 9 nd) (b_cons (s_set 10 nd (d_methS 3 h_Supply_after hr (by decide) (d_v 1) (d_ac (d_v 8) (d_ac (d_v 9) d_an)) (len_c (len_c len_n))))
    (b_cons (s_set 11 nd (d_btyp (c_tup rfl) B.tuple (d_ab (d_lc [("state", 3)] rfl nd (i_seq rfl (d_methS 3 h_Supply_after hr (by decide) (d_v 0) (d_ac (d_v 7) (d_ac (d_v 9) d_an)) (len_c (len_c len_n)))) (blkOk_by (N := ["a", "b", "seen", "state", "level", "longer", "word", "mine", "theirs", "bit", "there", "here"]) (sc := (defScope st_parting)) (by decide +kernel)) (fun _ _ _ _ _ => (g_n 3 nd)) (fun _ _ _ _ _ => (ts_1 (d_tc (o_notinK rfl hu5) (d_tup (d_ac (d_v 3) (d_ac (d_v 10) d_an))) (d_w 2)))) (fun _ _ _ _ _ => (d_v 3))) d_an)))
    (b_cons (s_if (d_pw (d_and (d_tt rfl (d_w 11)) (d_and1 (d_not (d_tt rfl (d_w 10)))))) (b_one (s_ret (d_op (o_add rfl) (d_w 6) (d_tup (d_ac (d_v 9) d_an))))) b_nil)
    (b_cons (s_for PassesOwn.never rfl (i_seq rfl (d_v 11)) (g_n 3 nd) (b_one (s_putN 2 rfl hu d_bl (d_tup (d_ac (d_v 3) (d_ac (d_v 10) d_an))))))
    (b_one (s_if (d_tt rfl (d_w 11)) (b_one (s_app 5 (d_tup (d_ac (d_op (o_add rfl) (d_w 6) (d_tup (d_ac (d_v 9) d_an))) (d_ac (d_v 11) (d_ac (d_v 10) d_an)))))) b_nil)))))))))
    (b_one (s_fz 5 (s_set 4 nd (d_v 5)))))))
    (b_one (s_ret d_non))))))
  exact ⟨f, fd, ["a", "b"], rfl, z, mgf, F.kp, F.bindsN fun _ _ _ _ _ _ us hl => match us, hl with | [_, _], _ => rfl⟩
def m_shares : FS :=
    (sSeq (sOwn 2 (eL aN))
    (sSeq (sFor (fun S => (aC (eI (1)) (aC (e2 addD (eW 1) (eI (1))) aN)) S >>= rng2) (gN 3) (sSeq (sSet 4 (eI (0)))
    (sSeq (sSet 5 eN)
    (sSeq (whileF (tA (tB' (e2 ltD (eW 4) (eW 3))) (tB' (e2 isD (eW 5) eN))) (sSeq (sSet 5 (eC d_parting (aC (eV 0) (aC (eCMX 3 d_Supply_share (eG (.cls 3)) (aC (e2 addD (eW 4) (eI (1))) (aC (eV 3) aN))) aN))))
    (sIf (tB' (e2 isD (eW 5) eN)) (sAugI 4 addD (eI (1))) sNil)) 20)
    (sApp 2 (eT (aC (eV 3) (aC (eV 4) (aC (eV 5) aN)))))))))
    (sRetO 2)))
def d_shares : List D → R D := fun ds => (runF true 6 m_shares ds).nox
theorem sc_shares : FnScope ["supply", "longest", "rows", "period", "most", "word"] ["supply", "longest"] (defScope st_shares) := ⟨rfl, rfl, rfl, by decide +kernel, rfl, by decide +kernel, by decide +kernel⟩
theorem ok_shares {f : Addr} {fd : FuncData} (F : FunD K "shares" "shares" (defArgs st_shares) (defBody st_shares) (defScope st_shares) [] [] f fd) (mgf : mg "shares" = some (.ref f)) (B : Bt mg) (h_parting : Callee P w K mg base ⟨K, cl⟩ 2 "parting" 2 false d_parting) (h_Supply_share : CmethX P w K mg base ⟨K, cl⟩ 4 3 "share" 3 true d_Supply_share) (g_Supply : Gc mg ⟨K, cl⟩ "Supply" (.cls 3)) : Callee P w K mg base ⟨K, cl⟩ 5 "shares" 2 true d_shares := by
  have nd : (["supply", "longest", "rows", "period", "most", "word"] : List Str).Nodup := sc_shares.nd
  have z := fn_ok (P := P) (w := w) (mg := mg) (base := base) (k := ⟨K, cl⟩) (fr := true) (lv := 4) (as := [2, 3, 4, 5, 5, 4, 1002]) (s := m_shares) F sc_shares fun cdv A outer sh H G0 hr => by
    have hu := hr.units
    have hu5 := hr.units5
    exact (b_cons (s_own 2 nd (d_lst d_an))
    (b_cons (s_for PassesOwn.never rfl (i_rng2 B.range (d_ab d_int (d_ab (d_op (o_add rfl) (d_w 1) d_int) d_an))) (g_n 3 nd) (b_cons (s_set 4 nd d_int)
    (b_cons (s_set 5 nd d_non)
    (b_cons (s_while 20 PassesOwn.never (d_pw (d_and (d_tc (o_lt) (d_w 4) (d_w 3)) (d_and1 (d_tc (o_is) (d_w 5) d_non)))) (b_cons (s_set 5 nd (d_callS (h_parting.at hr (by decide)) (d_ac (d_v 0) (d_ac (d_z (d_cmethXF 3 h_Supply_share hr (by decide) takes0 (d_g g_Supply) (d_ac (d_op (o_add rfl) (d_w 4) d_int) (d_ac (d_v 3) d_an)) (len_c (len_c len_n)))) d_an)) (len_c (len_c len_n))))
    (b_one (s_if (d_tc (o_is) (d_w 5) d_non) (b_one (s_aug 4 i_add nd d_int)) b_nil))))
    (b_one (s_app 2 (d_tup (d_ac (d_v 3) (d_ac (d_v 4) (d_ac (d_v 5) d_an))))))))))
    (b_one (s_retO 2))))
  exact ⟨f, fd, ["supply", "longest"], rfl, z, mgf, F.kp, F.bindsN fun _ _ _ _ _ _ us hl => match us, hl with | [_, _], _ => rfl⟩
def m__law_number : FS :=
    (sSeq (sIf (tB' (e2 ltD (eW 1) (eC (f1 lenD) (aC (eW 0) aN)))) (sRet (eC (f1 absD) (aC (eC (f1 intD) (aC (e2 ixA (eW 0) (eW 1)) aN)) aN))) sNil)
    (sSeq (sSet 2 (eI (0)))
    (sSeq (sIf (tB' (e2 gtD (eC (f1 lenD) (aC (eW 0) aN)) (eI (0)))) (sSet 2 (eC (f1 absD) (aC (eC (f1 intD) (aC (e2 ixA (eW 0) (e1 negD (eI (1)))) aN)) aN))) sNil)
    (sSeq (sSet 3 (e2 modD (eC (f1 intD) (aC (e2 addD (e2 addD (e2 mulD (e2 modD (eC (f1 intD) (aC (eW 2) aN)) (eI (10007))) (eI (31))) (e2 mulD (eW 1) (eI (17)))) (eI (5))) aN)) (eI (10007))))
    (sSeq (sFor (fun S => (aC (e2 addD (e2 subD (eW 1) (eC (f1 lenD) (aC (eW 0) aN))) (eI (1))) aN) S >>= rng1) (gN 4) (sSet 2 (e2 fdivD (eW 2) (eI (1000003)))))
    (sSeq (sIf (tB' (e2 gtD (eW 2) (eI (0)))) (sRet (e2 modD (eC (f1 intD) (aC (eW 2) aN)) (eI (1000003)))) sNil)
    (sSeq (sSet 3 (e2 modD (eC (f1 intD) (aC (e2 addD (e2 mulD (eW 3) (eW 3)) (eW 1)) aN)) (eI (9973))))
    (sRet (e2 modD (eC (f1 intD) (aC (e2 addD (e2 mulD (eW 3) (eW 3)) (eW 1)) aN)) (eI (9949)))))))))))
def d__law_number : List D → R D := fun ds => (runF false 5 m__law_number ds).nox
theorem sc__law_number : FnScope ["_law_script", "_law_at", "_law_rest", "_law_mixed", "_law_turn"] ["_law_script", "_law_at"] (defScope st__law_number) := ⟨rfl, rfl, rfl, by decide +kernel, rfl, by decide +kernel, by decide +kernel⟩
theorem ok__law_number {f : Addr} {fd : FuncData} (F : FunD K "_law_number" "_law_number" (defArgs st__law_number) (defBody st__law_number) (defScope st__law_number) [] [] f fd) (mgf : mg "_law_number" = some (.ref f)) (B : Bt mg)  : Callee P w K mg base ⟨K, cl⟩ 1 "_law_number" 2 false d__law_number := by
  have nd : (["_law_script", "_law_at", "_law_rest", "_law_mixed", "_law_turn"] : List Str).Nodup := sc__law_number.nd
  have z := fn_ok (P := P) (w := w) (mg := mg) (base := base) (k := ⟨K, cl⟩) (fr := false) (lv := 0) (as := [2, 2, 3, 4, 2, 3]) (s := m__law_number) F sc__law_number fun cdv A outer sh H G0 hr => by
    have hu := hr.units
    have hu5 := hr.units5
    exact (b_cons (s_if (d_tc (o_lt) (d_w 1) (d_bltn (c_len rfl) B.len (d_ab (d_w 0) d_an))) (b_one (s_ret (d_bltn (c_abs) B.abs (d_ab (d_btyp (c_int) B.int (d_ab (d_ix (o_ixA rfl hu5) (d_w 0) (d_w 1)) d_an)) d_an)))) b_nil)
    (b_cons (s_set 2 nd d_int)
    (b_cons (s_if (d_tc (o_gt) (d_bltn (c_len rfl) B.len (d_ab (d_w 0) d_an)) d_int) (b_one (s_set 2 nd (d_bltn (c_abs) B.abs (d_ab (d_btyp (c_int) B.int (d_ab (d_ix (o_ixA rfl hu5) (d_w 0) (d_un o_neg d_int)) d_an)) d_an)))) b_nil)
    (b_cons (s_set 3 nd (d_op (o_mod) (d_btyp (c_int) B.int (d_ab (d_op (o_add rfl) (d_op (o_add rfl) (d_op (o_mul rfl) (d_op (o_mod) (d_btyp (c_int) B.int (d_ab (d_w 2) d_an)) d_int) d_int) (d_op (o_mul rfl) (d_w 1) d_int)) d_int) d_an)) d_int))
    (b_cons (s_for PassesOwn.never rfl (i_rng1 B.range (d_ab (d_op (o_add rfl) (d_op (o_sub) (d_w 1) (d_bltn (c_len rfl) B.len (d_ab (d_w 0) d_an))) d_int) d_an)) (g_n 4 nd) (b_one (s_set 2 nd (d_op (o_fdiv) (d_w 2) d_int))))
    (b_cons (s_if (d_tc (o_gt) (d_w 2) d_int) (b_one (s_ret (d_op (o_mod) (d_btyp (c_int) B.int (d_ab (d_w 2) d_an)) d_int))) b_nil)
    (b_cons (s_set 3 nd (d_op (o_mod) (d_btyp (c_int) B.int (d_ab (d_op (o_add rfl) (d_op (o_mul rfl) (d_w 3) (d_w 3)) (d_w 1)) d_an)) d_int))
    (b_one (s_ret (d_op (o_mod) (d_btyp (c_int) B.int (d_ab (d_op (o_add rfl) (d_op (o_mul rfl) (d_w 3) (d_w 3)) (d_w 1)) d_an)) d_int))))))))))
  exact ⟨f, fd, ["_law_script", "_law_at"], rfl, z, mgf, F.kp, F.bindsN fun _ _ _ _ _ _ us hl => match us, hl with | [_, _], _ => rfl⟩
def m__law_machine : FS :=
    (sSeq (sOwn 5 (eL aN))
    (sSeq (sFor (fun S => (aC (eW 2) aN) S >>= rng1) (gN 6) (sSeq (sSet 7 (eC d__law_number (aC (eV 0) (aC (e2 addD (eW 1) (eW 6)) aN))))
    (sFor (fun S => (aC (eW 3) aN) S >>= rng1) (gN 8) (sIf (tO (tB' (e2 eqD (eW 8) (eI (0)))) (tB' (e2 gtD (eW 7) (eI (0))))) (sSeq (sSet 9 (e2 modD (eC (f1 intD) (aC (eW 7) aN)) (e2 mulD (eI (3)) (eW 2))))
    (sSeq (sSet 7 (e2 fdivD (eW 7) (e2 mulD (eI (3)) (eW 2))))
    (sSeq (sSet 10 (eT (aC (eV 6) (aC (eC (f1 intD) (aC (e2 neD (e2 gtD (e2 modD (eC (f1 intD) (aC (eW 9) aN)) (eI (3))) (eI (0))) (eW 4)) aN)) (aC (e2 modD (eC (f1 intD) (aC (e2 addD (e2 addD (e2 fdivD (eW 9) (eI (3))) (eW 6)) (eI (1))) aN)) (eW 2)) aN)))))
    (sIf (tB' (e2 notInA (eW 10) (eW 5))) (sApp 5 (eV 10)) sNil)))) sNil))))
    (sRet (eC (f1 srtAD) (aC (eW 5) aN)))))
def d__law_machine : List D → R D := fun ds => (runF false 11 m__law_machine ds).nox
theorem sc__law_machine : FnScope ["_law_script", "_law_first", "_law_size", "_law_turns", "_law_flip", "_law_steps", "_law_state", "_law_rest", "_law_turn", "_law_digit", "_law_step"] ["_law_script", "_law_first", "_law_size", "_law_turns", "_law_flip"] (defScope st__law_machine) := ⟨rfl, rfl, rfl, by decide +kernel, rfl, by decide +kernel, by decide +kernel⟩
theorem ok__law_machine {f : Addr} {fd : FuncData} (F : FunD K "_law_machine" "_law_machine" (defArgs st__law_machine) (defBody st__law_machine) (defScope st__law_machine) [] [] f fd) (mgf : mg "_law_machine" = some (.ref f)) (B : Bt mg) (h__law_number : Callee P w K mg base ⟨K, cl⟩ 1 "_law_number" 2 false d__law_number) : Callee P w K mg base ⟨K, cl⟩ 2 "_law_machine" 5 false d__law_machine := by
  have nd : (["_law_script", "_law_first", "_law_size", "_law_turns", "_law_flip", "_law_steps", "_law_state", "_law_rest", "_law_turn", "_law_digit", "_law_step"] : List Str).Nodup := sc__law_machine.nd
  have z := fn_ok (P := P) (w := w) (mg := mg) (base := base) (k := ⟨K, cl⟩) (fr := false) (lv := 1) (as := [5, 6, 7, 8, 9, 7, 10, 1005]) (s := m__law_machine) F sc__law_machine fun cdv A outer sh H G0 hr => by
    have hu := hr.units
    have hu5 := hr.units5
    exact (b_cons (s_own 5 nd (d_lst d_an))
    (b_cons (s_for PassesOwn.never rfl (i_rng1 B.range (d_ab (d_w 2) d_an)) (g_n 6 nd) (b_cons (s_set 7 nd (d_callS (h__law_number.at hr (by decide)) (d_ac (d_v 0) (d_ac (d_op (o_add rfl) (d_w 1) (d_w 6)) d_an)) (len_c (len_c len_n))))
    (b_one (s_for PassesOwn.never rfl (i_rng1 B.range (d_ab (d_w 3) d_an)) (g_n 8 nd) (b_one (s_if (d_pw (d_or (d_tc (o_eq rfl hu) (d_w 8) d_int) (d_or1 (d_tc (o_gt) (d_w 7) d_int)))) (b_cons (s_set 9 nd (d_op (o_mod) (d_btyp (c_int) B.int (d_ab (d_w 7) d_an)) (d_op (o_mul rfl) d_int (d_w 2))))
    (b_cons (s_set 7 nd (d_op (o_fdiv) (d_w 7) (d_op (o_mul rfl) d_int (d_w 2))))
    (b_cons (s_set 10 nd (d_tup (d_ac (d_v 6) (d_ac (d_btyp (c_int) B.int (d_ab (d_cmp (o_ne rfl hu) (d_cmp (o_gt) (d_op (o_mod) (d_btyp (c_int) B.int (d_ab (d_w 9) d_an)) d_int) d_int) (d_w 4)) d_an)) (d_ac (d_op (o_mod) (d_btyp (c_int) B.int (d_ab (d_op (o_add rfl) (d_op (o_add rfl) (d_op (o_fdiv) (d_w 9) d_int) (d_w 6)) d_int) d_an)) (d_w 2)) d_an)))))
    (b_one (s_if (d_tc (o_notinA rfl hu5) (d_w 10) (d_w 5)) (b_one (s_app 5 (d_v 10))) b_nil))))) b_nil))))))
    (b_one (s_ret (d_z (d_bltn (c_srtA rfl hu) B.sorted (d_ab (d_w 5) d_an)))))))
  exact ⟨f, fd, ["_law_script", "_law_first", "_law_size", "_law_turns", "_law_flip"], rfl, z, mgf, F.kp, F.bindsN fun _ _ _ _ _ _ us hl => match us, hl with | [_, _, _, _, _], _ => rfl⟩
def m__law_ring : FS :=
    (sSeq (sOwn 2 (eL aN))
    (sSeq (sSet 3 (eV 0))
    (sSeq (sFor (fun S => (aC (eW 1) aN) S >>= rng1) (gN 4) (sSeq (sSet 5 (e2 ixA (eL (aC (eI (1)) (aC (eI (0)) (aC (eI (1)) (aC (eI (2)) aN))))) (e2 modD (eC (f1 intD) (aC (eW 4) aN)) (eI (4)))))
    (sSeq (sIf (tB' (e2 gtD (eW 3) (eI (0)))) (sSeq (sSet 5 (e2 modD (eC (f1 intD) (aC (eW 3) aN)) (eI (3))))
    (sSet 3 (e2 fdivD (eW 3) (eI (3))))) sNil)
    (sExt 2 (lcE (fun S => (eT (aC (eI (0)) (aC (eI (1)) aN))) S >>= itemsD) (gN 6) (tB' (e2 inA (eW 5) (eT (aC (eV 6) (aC (eI (2)) aN))))) (eT (aC (eV 4) (aC (eV 6) (aC (e2 modD (eC (f1 intD) (aC (e2 addD (eW 4) (eI (1))) aN)) (eW 1)) aN)))) [6])))))
    (sFz 2 (sRet (eV 2))))))
def d__law_ring : List D → R D := fun ds => (runF false 7 m__law_ring ds).nox
theorem sc__law_ring : FnScope ["_law_number_here", "_law_size", "_law_steps", "_law_rest", "_law_state", "_law_digit", "_law_tick"] ["_law_number_here", "_law_size"] (defScope st__law_ring) := ⟨rfl, rfl, rfl, by decide +kernel, rfl, by decide +kernel, by decide +kernel⟩
theorem ok__law_ring {f : Addr} {fd : FuncData} (F : FunD K "_law_ring" "_law_ring" (defArgs st__law_ring) (defBody st__law_ring) (defScope st__law_ring) [] [] f fd) (mgf : mg "_law_ring" = some (.ref f)) (B : Bt mg)  : Callee P w K mg base ⟨K, cl⟩ 1 "_law_ring" 2 false d__law_ring := by
  have nd : (["_law_number_here", "_law_size", "_law_steps", "_law_rest", "_law_state", "_law_digit", "_law_tick"] : List Str).Nodup := sc__law_ring.nd
  have z := fn_ok (P := P) (w := w) (mg := mg) (base := base) (k := ⟨K, cl⟩) (fr := false) (lv := 0) (as := [2, 3, 4, 5, 5, 3, 1002, 2]) (s := m__law_ring) F sc__law_ring fun cdv A outer sh H G0 hr => by
    have hu := hr.units
    have hu5 := hr.units5
    exact (b_cons (s_own 2 nd (d_lst d_an))
    (b_cons (s_set 3 nd (d_v 0))
    (b_cons (s_for PassesOwn.never rfl (i_rng1 B.range (d_ab (d_w 1) d_an)) (g_n 4 nd) (b_cons (s_set 5 nd (d_ix (o_ixA rfl hu5) (d_lst (d_ac d_int (d_ac d_int (d_ac d_int (d_ac d_int d_an))))) (d_op (o_mod) (d_btyp (c_int) B.int (d_ab (d_w 4) d_an)) d_int)))
    (b_cons (s_if (d_tc (o_gt) (d_w 3) d_int) (b_cons (s_set 5 nd (d_op (o_mod) (d_btyp (c_int) B.int (d_ab (d_w 3) d_an)) d_int))
    (b_one (s_set 3 nd (d_op (o_fdiv) (d_w 3) d_int)))) b_nil)
    (b_one (s_ext 2 (d_lc [("_law_tick", 6)] rfl nd (i_seq rfl (d_tup (d_ac d_int (d_ac d_int d_an)))) (blkOk_by (N := ["_law_number_here", "_law_size", "_law_steps", "_law_rest", "_law_state", "_law_digit", "_law_tick"]) (sc := (defScope st__law_ring)) (by decide +kernel)) (fun _ _ _ _ _ => (g_n 6 nd)) (fun _ _ _ _ _ => (ts_1 (d_tc (o_inA rfl hu5) (d_w 5) (d_tup (d_ac (d_v 6) (d_ac d_int d_an)))))) (fun _ _ _ _ _ => (d_tup (d_ac (d_v 4) (d_ac (d_v 6) (d_ac (d_op (o_mod) (d_btyp (c_int) B.int (d_ab (d_op (o_add rfl) (d_w 4) d_int) d_an)) (d_w 1)) d_an)))))))))))
    (b_one (s_fz 2 (s_ret (d_v 2)))))))
  exact ⟨f, fd, ["_law_number_here", "_law_size"], rfl, z, mgf, F.kp, F.bindsN fun _ _ _ _ _ _ us hl => match us, hl with | [_, _], _ => rfl⟩
def m__law_share : FS :=
    (sSeq (sOwn 2 (eL aN))
    (sSeq (sFor (fun S => (aC (eW 1) aN) S >>= rng1) (gN 3) (sExt 2 (lcE (fun S => (aC (e2 addD (eC (f2 min2D) (aC (eW 3) (aC (eW 0) aN))) (eI (1))) aN) S >>= rng1) (gN 4) (tB' (e2 leD (e2 subD (eW 0) (eW 4)) (e2 subD (eW 1) (eW 3)))) (eT (aC (eV 3) (aC (eV 4) aN))) [4])))
    (sSeq (sOwn 5 (eL aN))
    (sSeq (sFor (fun S => eO 2 S >>= itemsD) (gT 2 (gsC (gN 3) (gsC (gN 4) gsN))) (sFor (fun S => (eT (aC (eI (0)) (aC (eI (1)) aN))) S >>= itemsD) (gN 6) (sSeq (sSet 7 (eT (aC (e2 addD (eW 3) (eI (1))) (aC (eC (f2 min2D) (aC (e2 addD (eW 4) (eW 6)) (aC (eW 0) aN))) aN))))
    (sSeq (sIf (tB' (e2 eqD (eW 7) (eT (aC (eV 1) (aC (eV 0) aN))))) (sSet 7 (eT (aC (eI (0)) (aC (eI (0)) aN)))) sNil)
    (sIf (tB' (e2 inA (eW 7) (eW 2))) (sApp 5 (eT (aC (eIdx (eW 2) (eT (aC (eV 3) (aC (eV 4) aN)))) (aC (eV 6) (aC (eIdx (eW 2) (eW 7)) aN))))) sNil)))))
    (sFz 5 (sRet (eT (aC (eC (f1 lenD) (aC (eW 2) aN)) (aC (eV 5) aN)))))))))
def d__law_share : List D → R D := fun ds => (runF false 8 m__law_share ds).nox
theorem sc__law_share : FnScope ["_law_q", "_law_p", "_law_pairs", "_law_i", "_law_k", "_law_steps", "_law_tick", "_law_then"] ["_law_q", "_law_p"] (defScope st__law_share) := ⟨rfl, rfl, rfl, by decide +kernel, rfl, by decide +kernel, by decide +kernel⟩
theorem ok__law_share {f : Addr} {fd : FuncData} (F : FunD K "_law_share" "_law_share" (defArgs st__law_share) (defBody st__law_share) (defScope st__law_share) [] [] f fd) (mgf : mg "_law_share" = some (.ref f)) (B : Bt mg)  : Callee P w K mg base ⟨K, cl⟩ 1 "_law_share" 2 false d__law_share := by
  have nd : (["_law_q", "_law_p", "_law_pairs", "_law_i", "_law_k", "_law_steps", "_law_tick", "_law_then"] : List Str).Nodup := sc__law_share.nd
  have z := fn_ok (P := P) (w := w) (mg := mg) (base := base) (k := ⟨K, cl⟩) (fr := false) (lv := 0) (as := [2, 3, 1002, 5, 3, 4, 6, 7, 7, 1005, 5]) (s := m__law_share) F sc__law_share fun cdv A outer sh H G0 hr => by
    have hu := hr.units
    have hu5 := hr.units5
    exact (b_cons (s_own 2 nd (d_lst d_an))
    (b_cons (s_for PassesOwn.never rfl (i_rng1 B.range (d_ab (d_w 1) d_an)) (g_n 3 nd) (b_one (s_ext 2 (d_lc [("_law_k", 4)] rfl nd (i_rng1 B.range (d_ab (d_op (o_add rfl) (d_bltn (c_min2 rfl) B.min (d_ab (d_w 3) (d_ab (d_w 0) d_an))) d_int) d_an)) (blkOk_by (N := ["_law_q", "_law_p", "_law_pairs", "_law_i", "_law_k", "_law_steps", "_law_tick", "_law_then"]) (sc := (defScope st__law_share)) (by decide +kernel)) (fun _ _ _ _ _ => (g_n 4 nd)) (fun _ _ _ _ _ => (ts_1 (d_tc (o_le) (d_op (o_sub) (d_w 0) (d_w 4)) (d_op (o_sub) (d_w 1) (d_w 3))))) (fun _ _ _ _ _ => (d_tup (d_ac (d_v 3) (d_ac (d_v 4) d_an))))))))
    (b_cons (s_own 5 nd (d_lst d_an))
    (b_cons (s_for PassesOwn.never rfl (i_own 2) (g_t rfl rfl (gs_c (g_n 3 nd) (gs_c (g_n 4 nd) gs_n))) (b_one (s_for PassesOwn.never rfl (i_seq rfl (d_tup (d_ac d_int (d_ac d_int d_an)))) (g_n 6 nd) (b_cons (s_set 7 nd (d_tup (d_ac (d_op (o_add rfl) (d_w 3) d_int) (d_ac (d_bltn (c_min2 rfl) B.min (d_ab (d_op (o_add rfl) (d_w 4) (d_w 6)) (d_ab (d_w 0) d_an))) d_an))))
    (b_cons (s_if (d_tc (o_eq rfl hu) (d_w 7) (d_tup (d_ac (d_v 1) (d_ac (d_v 0) d_an)))) (b_one (s_set 7 nd (d_tup (d_ac d_int (d_ac d_int d_an))))) b_nil)
    (b_one (s_if (d_tc (o_inA rfl hu5) (d_w 7) (d_w 2)) (b_one (s_app 5 (d_tup (d_ac (d_idx rfl hu5 (d_w 2) (d_tup (d_ac (d_v 3) (d_ac (d_v 4) d_an)))) (d_ac (d_v 6) (d_ac (d_idx rfl hu5 (d_w 2) (d_w 7)) d_an)))))) b_nil)))))))
    (b_one (s_fz 5 (s_ret (d_tup (d_ac (d_bltn (c_len rfl) B.len (d_ab (d_w 2) d_an)) (d_ac (d_v 5) d_an))))))))))
  exact ⟨f, fd, ["_law_q", "_law_p"], rfl, z, mgf, F.kp, F.bindsN fun _ _ _ _ _ _ us hl => match us, hl with | [_, _], _ => rfl⟩
def m__law_begins : FS :=
    (sSeq (sIf (tB' (e2 eqD (e2 modD (eC (f1 intD) (aC (eW 0) aN)) (eI (4))) (eI (2)))) (sRet (eT (aC (e2 subD (eW 1) (eI (1))) aN))) sNil)
    (sSeq (sIf (tA (tB' (e2 eqD (e2 modD (eC (f1 intD) (aC (eW 0) aN)) (eI (4))) (eI (3)))) (tB' (e2 gtD (eW 1) (eI (1))))) (sRet (eT (aC (eI (0)) (aC (e2 subD (eW 1) (eI (1))) aN)))) sNil)
    (sRet (eT (aC (eI (0)) aN)))))
def d__law_begins : List D → R D := fun ds => (runF false 2 m__law_begins ds).nox
theorem sc__law_begins : FnScope ["_law_number_here", "_law_size"] ["_law_number_here", "_law_size"] (defScope st__law_begins) := ⟨rfl, rfl, rfl, by decide +kernel, rfl, by decide +kernel, by decide +kernel⟩
theorem ok__law_begins {f : Addr} {fd : FuncData} (F : FunD K "_law_begins" "_law_begins" (defArgs st__law_begins) (defBody st__law_begins) (defScope st__law_begins) [] [] f fd) (mgf : mg "_law_begins" = some (.ref f)) (B : Bt mg)  : Callee P w K mg base ⟨K, cl⟩ 1 "_law_begins" 2 false d__law_begins := by
  have nd : (["_law_number_here", "_law_size"] : List Str).Nodup := sc__law_begins.nd
  have z := fn_ok (P := P) (w := w) (mg := mg) (base := base) (k := ⟨K, cl⟩) (fr := false) (lv := 0) (as := []) (s := m__law_begins) F sc__law_begins fun cdv A outer sh H G0 hr => by
    have hu := hr.units
    have hu5 := hr.units5
    exact (b_cons (s_if (d_tc (o_eq rfl hu) (d_op (o_mod) (d_btyp (c_int) B.int (d_ab (d_w 0) d_an)) d_int) d_int) (b_one (s_ret (d_tup (d_ac (d_op (o_sub) (d_w 1) d_int) d_an)))) b_nil)
    (b_cons (s_if (d_pw (d_and (d_tc (o_eq rfl hu) (d_op (o_mod) (d_btyp (c_int) B.int (d_ab (d_w 0) d_an)) d_int) d_int) (d_and1 (d_tc (o_gt) (d_w 1) d_int)))) (b_one (s_ret (d_tup (d_ac d_int (d_ac (d_op (o_sub) (d_w 1) d_int) d_an))))) b_nil)
    (b_one (s_ret (d_tup (d_ac d_int d_an))))))
  exact ⟨f, fd, ["_law_number_here", "_law_size"], rfl, z, mgf, F.kp, F.bindsN fun _ _ _ _ _ _ us hl => match us, hl with | [_, _], _ => rfl⟩
def m__law_drawn : FS :=
    (sSeq (sSet 1 (eC d__law_number (aC (eV 0) (aC (eI (0)) aN))))
    (sSeq (sSet 2 (e2 modD (eC (f1 intD) (aC (eW 1) aN)) (eI (8))))
    (sSeq (sSet 3 (e2 fdivD (eW 1) (eI (8))))
    (sSeq (sSet 4 (e2 ixA (eL (aC (eI (3)) (aC (eI (2)) (aC (eI (4)) (aC (eI (3)) (aC (eI (1)) (aC (eI (5)) (aC (eI (6)) aN)))))))) (e2 modD (eC (f1 intD) (aC (eW 3) aN)) (eI (7)))))
    (sSeq (sIf (tB' (e2 eqD (eW 2) (eI (5)))) (sSeq (sSet 5 (e2 addD (eI (1)) (e2 modD (eC (f1 intD) (aC (eW 3) aN)) (eI (8)))))
    (sAsg (gT 2 (gsC (gN 4) (gsC (gN 6) gsN))) (eC d__law_share (aC (e2 modD (eC (f1 intD) (aC (e2 fdivD (eW 3) (eI (8))) aN)) (e2 addD (eW 5) (eI (1)))) (aC (eV 5) aN))))) (sIf (tB' (e2 eqD (eW 2) (eI (6)))) (sSeq (sSet 4 (e2 addD (eI (2)) (e2 modD (eC (f1 intD) (aC (eW 3) aN)) (eI (5)))))
    (sSeq (sSet 6 (eC d__law_ring (aC (eC d__law_number (aC (eV 0) (aC (eI (2)) aN))) (aC (eV 4) aN))))
    (sSeq (sSet 7 (e2 modD (eC (f1 intD) (aC (eC d__law_number (aC (eV 0) (aC (eI (4)) aN))) aN)) (eW 4)))
    (sSeq (sSet 8 (eT (aC (eV 7) (aC (e2 modD (eC (f1 intD) (aC (eC d__law_number (aC (eV 0) (aC (eI (5)) aN))) aN)) (eI (2))) (aC (e2 modD (eC (f1 intD) (aC (eC d__law_number (aC (eV 0) (aC (eI (6)) aN))) aN)) (eW 4)) aN)))))
    (sIf (tA (tB' (e2 gtD (e2 modD (eC (f1 intD) (aC (eC d__law_number (aC (eV 0) (aC (eI (3)) aN))) aN)) (eI (3))) (eI (0)))) (tB' (e2 notInA (eW 8) (eW 6)))) (sSet 6 (e2 addD (eW 6) (eL (aC (eV 8) aN)))) sNil))))) (sIf (tB' (e2 eqD (eW 2) (eI (7)))) (sSeq (sSet 4 (e2 addD (eI (8)) (e2 modD (eC (f1 intD) (aC (eW 3) aN)) (eI (33)))))
    (sSeq (sIf (tB' (e2 eqD (e2 modD (eC (f1 intD) (aC (e2 fdivD (eW 3) (eI (33))) aN)) (eI (16))) (eI (1)))) (sSet 4 (e2 addD (eI (41)) (e2 modD (eC (f1 intD) (aC (e2 fdivD (eW 3) (eI (528))) aN)) (eI (60))))) sNil)
    (sSet 6 (eC d__law_ring (aC (eC d__law_number (aC (eV 0) (aC (eI (2)) aN))) (aC (eV 4) aN)))))) (sSet 6 (eC d__law_machine (aC (eV 0) (aC (eI (7)) (aC (eV 4) (aC (e2 ixA (eL (aC (eI (2)) (aC (eI (1)) (aC (eI (3)) (aC (eI (2)) aN))))) (e2 modD (eC (f1 intD) (aC (e2 fdivD (eW 3) (eI (7))) aN)) (eI (4)))) (aC (e2 eqD (e2 modD (eC (f1 intD) (aC (e2 fdivD (eW 3) (eI (28))) aN)) (eI (4))) (eI (1))) aN))))))))))
    (sSeq (sSet 9 (eC d__law_begins (aC (eC d__law_number (aC (eV 0) (aC (eI (1)) aN))) (aC (eV 4) aN))))
    (sSeq (sSet 10 (e2 modD (eC (f1 intD) (aC (e2 fdivD (eC d__law_number (aC (eV 0) (aC (eI (1)) aN))) (eI (4))) aN)) (eI (4))))
    (sSeq (sIf (tB' (e2 ltD (eW 10) (eI (2)))) (sSeq (sSet 6 (e2 addD (eW 6) (eL (aC (eT (aC (eV 4) (aC (eV 10) (aC (eV 4) aN)))) (aC (eT (aC (eV 4) (aC (e2 subD (eI (1)) (eW 10)) (aC (eI (0)) aN)))) aN)))))
    (sSet 4 (e2 addD (eW 4) (eI (1))))) sNil)
    (sRet (eT (aC (eV 4) (aC (eV 6) (aC (eV 9) aN)))))))))))))
def d__law_drawn : List D → R D := fun ds => (runF false 11 m__law_drawn ds).nox
theorem sc__law_drawn : FnScope ["_law_script", "_law_options", "_law_way", "_law_rest", "_law_size", "_law_p", "_law_steps", "_law_state", "_law_chord", "_law_begins_here", "_law_island"] ["_law_script"] (defScope st__law_drawn) := ⟨rfl, rfl, rfl, by decide +kernel, rfl, by decide +kernel, by decide +kernel⟩
theorem ok__law_drawn {f : Addr} {fd : FuncData} (F : FunD K "_law_drawn" "_law_drawn" (defArgs st__law_drawn) (defBody st__law_drawn) (defScope st__law_drawn) [] [] f fd) (mgf : mg "_law_drawn" = some (.ref f)) (B : Bt mg) (h__law_number : Callee P w K mg base ⟨K, cl⟩ 1 "_law_number" 2 false d__law_number) (h__law_share : Callee P w K mg base ⟨K, cl⟩ 1 "_law_share" 2 false d__law_share) (h__law_ring : Callee P w K mg base ⟨K, cl⟩ 1 "_law_ring" 2 false d__law_ring) (h__law_machine : Callee P w K mg base ⟨K, cl⟩ 2 "_law_machine" 5 false d__law_machine) (h__law_begins : Callee P w K mg base ⟨K, cl⟩ 1 "_law_begins" 2 false d__law_begins) : Callee P w K mg base ⟨K, cl⟩ 3 "_law_drawn" 1 false d__law_drawn := by
  have nd : (["_law_script", "_law_options", "_law_way", "_law_rest", "_law_size", "_law_p", "_law_steps", "_law_state", "_law_chord", "_law_begins_here", "_law_island"] : List Str).Nodup := sc__law_drawn.nd
  have z := fn_ok (P := P) (w := w) (mg := mg) (base := base) (k := ⟨K, cl⟩) (fr := false) (lv := 2) (as := [1, 2, 3, 4, 5, 4, 6, 4, 6, 7, 8, 6, 4, 4, 6, 6, 9, 10, 6, 4]) (s := m__law_drawn) F sc__law_drawn fun cdv A outer sh H G0 hr => by
    have hu := hr.units
    have hu5 := hr.units5
    exact (b_cons (s_set 1 nd (d_callS (h__law_number.at hr (by decide)) (d_ac (d_v 0) (d_ac d_int d_an)) (len_c (len_c len_n))))
    (b_cons (s_set 2 nd (d_op (o_mod) (d_btyp (c_int) B.int (d_ab (d_w 1) d_an)) d_int))
    (b_cons (s_set 3 nd (d_op (o_fdiv) (d_w 1) d_int))
    (b_cons (s_set 4 nd (d_ix (o_ixA rfl hu5) (d_lst (d_ac d_int (d_ac d_int (d_ac d_int (d_ac d_int (d_ac d_int (d_ac d_int (d_ac d_int d_an)))))))) (d_op (o_mod) (d_btyp (c_int) B.int (d_ab (d_w 3) d_an)) d_int)))
    (b_cons (s_if (d_tc (o_eq rfl hu) (d_w 2) d_int) (b_cons (s_set 5 nd (d_op (o_add rfl) d_int (d_op (o_mod) (d_btyp (c_int) B.int (d_ab (d_w 3) d_an)) d_int)))
    (b_one (s_asg (d_callS (h__law_share.at hr (by decide)) (d_ac (d_op (o_mod) (d_btyp (c_int) B.int (d_ab (d_op (o_fdiv) (d_w 3) d_int) d_an)) (d_op (o_add rfl) (d_w 5) d_int)) (d_ac (d_v 5) d_an)) (len_c (len_c len_n))) (g_t rfl rfl (gs_c (g_n 4 nd) (gs_c (g_n 6 nd) gs_n)))))) (b_one (s_if (d_tc (o_eq rfl hu) (d_w 2) d_int) (b_cons (s_set 4 nd (d_op (o_add rfl) d_int (d_op (o_mod) (d_btyp (c_int) B.int (d_ab (d_w 3) d_an)) d_int)))
    (b_cons (s_set 6 nd (d_callS (h__law_ring.at hr (by decide)) (d_ac (d_callS (h__law_number.at hr (by decide)) (d_ac (d_v 0) (d_ac d_int d_an)) (len_c (len_c len_n))) (d_ac (d_v 4) d_an)) (len_c (len_c len_n))))
    (b_cons (s_set 7 nd (d_op (o_mod) (d_btyp (c_int) B.int (d_ab (d_callS (h__law_number.at hr (by decide)) (d_ac (d_v 0) (d_ac d_int d_an)) (len_c (len_c len_n))) d_an)) (d_w 4)))
    (b_cons (s_set 8 nd (d_tup (d_ac (d_v 7) (d_ac (d_op (o_mod) (d_btyp (c_int) B.int (d_ab (d_callS (h__law_number.at hr (by decide)) (d_ac (d_v 0) (d_ac d_int d_an)) (len_c (len_c len_n))) d_an)) d_int) (d_ac (d_op (o_mod) (d_btyp (c_int) B.int (d_ab (d_callS (h__law_number.at hr (by decide)) (d_ac (d_v 0) (d_ac d_int d_an)) (len_c (len_c len_n))) d_an)) (d_w 4)) d_an)))))
    (b_one (s_if (d_pw (d_and (d_tc (o_gt) (d_op (o_mod) (d_btyp (c_int) B.int (d_ab (d_callS (h__law_number.at hr (by decide)) (d_ac (d_v 0) (d_ac d_int d_an)) (len_c (len_c len_n))) d_an)) d_int) d_int) (d_and1 (d_tc (o_notinA rfl hu5) (d_w 8) (d_w 6))))) (b_one (s_set 6 nd (d_op (o_add rfl) (d_w 6) (d_lst (d_ac (d_v 8) d_an))))) b_nil)))))) (b_one (s_if (d_tc (o_eq rfl hu) (d_w 2) d_int) (b_cons (s_set 4 nd (d_op (o_add rfl) d_int (d_op (o_mod) (d_btyp (c_int) B.int (d_ab (d_w 3) d_an)) d_int)))
    (b_cons (s_if (d_tc (o_eq rfl hu) (d_op (o_mod) (d_btyp (c_int) B.int (d_ab (d_op (o_fdiv) (d_w 3) d_int) d_an)) d_int) d_int) (b_one (s_set 4 nd (d_op (o_add rfl) d_int (d_op (o_mod) (d_btyp (c_int) B.int (d_ab (d_op (o_fdiv) (d_w 3) d_int) d_an)) d_int)))) b_nil)
    (b_one (s_set 6 nd (d_callS (h__law_ring.at hr (by decide)) (d_ac (d_callS (h__law_number.at hr (by decide)) (d_ac (d_v 0) (d_ac d_int d_an)) (len_c (len_c len_n))) (d_ac (d_v 4) d_an)) (len_c (len_c len_n))))))) (b_one (s_set 6 nd (d_callS (h__law_machine.at hr (by decide)) (d_ac (d_v 0) (d_ac d_int (d_ac (d_v 4) (d_ac (d_ix (o_ixA rfl hu5) (d_lst (d_ac d_int (d_ac d_int (d_ac d_int (d_ac d_int d_an))))) (d_op (o_mod) (d_btyp (c_int) B.int (d_ab (d_op (o_fdiv) (d_w 3) d_int) d_an)) d_int)) (d_ac (d_cmp (o_eq rfl hu) (d_op (o_mod) (d_btyp (c_int) B.int (d_ab (d_op (o_fdiv) (d_w 3) d_int) d_an)) d_int) d_int) d_an))))) (len_c (len_c (len_c (len_c (len_c len_n)))))))))))))
    (b_cons (s_set 9 nd (d_callS (h__law_begins.at hr (by decide)) (d_ac (d_callS (h__law_number.at hr (by decide)) (d_ac (d_v 0) (d_ac d_int d_an)) (len_c (len_c len_n))) (d_ac (d_v 4) d_an)) (len_c (len_c len_n))))
    (b_cons (s_set 10 nd (d_op (o_mod) (d_btyp (c_int) B.int (d_ab (d_op (o_fdiv) (d_callS (h__law_number.at hr (by decide)) (d_ac (d_v 0) (d_ac d_int d_an)) (len_c (len_c len_n))) d_int) d_an)) d_int))
    (b_cons (s_if (d_tc (o_lt) (d_w 10) d_int) (b_cons (s_set 6 nd (d_op (o_add rfl) (d_w 6) (d_lst (d_ac (d_tup (d_ac (d_v 4) (d_ac (d_v 10) (d_ac (d_v 4) d_an)))) (d_ac (d_tup (d_ac (d_v 4) (d_ac (d_op (o_sub) d_int (d_w 10)) (d_ac d_int d_an)))) d_an)))))
    (b_one (s_set 4 nd (d_op (o_add rfl) (d_w 4) d_int)))) b_nil)
    (b_one (s_ret (d_tup (d_ac (d_v 4) (d_ac (d_v 6) (d_ac (d_v 9) d_an))))))))))))))
  exact ⟨f, fd, ["_law_script"], rfl, z, mgf, F.kp, F.bindsN fun _ _ _ _ _ _ us hl => match us, hl with | [_], _ => rfl⟩
def m__law_reached : FS :=
    (sSeq (sOwn 3 (eC (f1 srtAD) (aC (eW 2) aN)))
    (sSeq (sFor (fun S => (aC (eW 0) aN) S >>= rng1) (gN 4) (sSeq (sSet 5 (eC (f1 lenD) (aC (eW 3) aN)))
    (sSeq (sFor (fun S => (eV 1) S >>= itemsD) (gT 3 (gsC (gN 6) (gsC (gN 7) (gsC (gN 8) gsN)))) (sIf (tA (tB' (e2 inA (eW 6) (eW 3))) (tB' (e2 notInA (eW 8) (eW 3)))) (sApp 3 (eV 8)) sNil))
    (sIf (tB' (e2 eqD (eC (f1 lenD) (aC (eW 3) aN)) (eW 5))) sBrk sNil))))
    (sRet (eC (f1 srtAD) (aC (eW 3) aN)))))
def d__law_reached : List D → R D := fun ds => (runF false 9 m__law_reached ds).nox
theorem sc__law_reached : FnScope ["_law_size", "_law_steps", "_law_begins_here", "_law_found", "_law_turn", "_law_known", "_law_state", "_law_tick", "_law_then"] ["_law_size", "_law_steps", "_law_begins_here"] (defScope st__law_reached) := ⟨rfl, rfl, rfl, by decide +kernel, rfl, by decide +kernel, by decide +kernel⟩
theorem ok__law_reached {f : Addr} {fd : FuncData} (F : FunD K "_law_reached" "_law_reached" (defArgs st__law_reached) (defBody st__law_reached) (defScope st__law_reached) [] [] f fd) (mgf : mg "_law_reached" = some (.ref f)) (B : Bt mg)  : Callee P w K mg base ⟨K, cl⟩ 1 "_law_reached" 3 false d__law_reached := by
  have nd : (["_law_size", "_law_steps", "_law_begins_here", "_law_found", "_law_turn", "_law_known", "_law_state", "_law_tick", "_law_then"] : List Str).Nodup := sc__law_reached.nd
  have z := fn_ok (P := P) (w := w) (mg := mg) (base := base) (k := ⟨K, cl⟩) (fr := false) (lv := 0) (as := [3, 4, 5, 6, 7, 8, 1003]) (s := m__law_reached) F sc__law_reached fun cdv A outer sh H G0 hr => by
    have hu := hr.units
    have hu5 := hr.units5
    exact (b_cons (s_own 3 nd (d_bltn (c_srtA rfl hu) B.sorted (d_ab (d_w 2) d_an)))
    (b_cons (s_for PassesOwn.never rfl (i_rng1 B.range (d_ab (d_w 0) d_an)) (g_n 4 nd) (b_cons (s_set 5 nd (d_bltn (c_len rfl) B.len (d_ab (d_w 3) d_an)))
    (b_cons (s_for PassesOwn.never rfl (i_seq rfl (d_v 1)) (g_t rfl rfl (gs_c (g_n 6 nd) (gs_c (g_n 7 nd) (gs_c (g_n 8 nd) gs_n)))) (b_one (s_if (d_pw (d_and (d_tc (o_inA rfl hu5) (d_w 6) (d_w 3)) (d_and1 (d_tc (o_notinA rfl hu5) (d_w 8) (d_w 3))))) (b_one (s_app 3 (d_v 8))) b_nil)))
    (b_one (s_if (d_tc (o_eq rfl hu) (d_bltn (c_len rfl) B.len (d_ab (d_w 3) d_an)) (d_w 5)) (b_one s_brk) b_nil)))))
    (b_one (s_ret (d_z (d_bltn (c_srtA rfl hu) B.sorted (d_ab (d_w 3) d_an)))))))
  exact ⟨f, fd, ["_law_size", "_law_steps", "_law_begins_here"], rfl, z, mgf, F.kp, F.bindsN fun _ _ _ _ _ _ us hl => match us, hl with | [_, _, _], _ => rfl⟩
def m__law_moves : FS :=
    (sSeq (sOwn 1 (fun _ => .ok (.dit [] [])))
    (sSeq (sFor (fun S => (eV 0) S >>= itemsD) (gT 3 (gsC (gN 2) (gsC (gN 3) (gsC (gN 4) gsN)))) (sPutA 1 (eT (aC (eV 2) (aC (eV 3) aN))) (e2 addD (eGet2 (eW 1) (eT (aC (eV 2) (aC (eV 3) aN))) (eL aN)) (eL (aC (eV 4) aN)))))
    (sFz 1 (sRet (eV 1)))))
def d__law_moves : List D → R D := fun ds => (runF false 5 m__law_moves ds).nox
theorem sc__law_moves : FnScope ["_law_steps", "_law_moves_here", "_law_state", "_law_tick", "_law_then"] ["_law_steps"] (defScope st__law_moves) := ⟨rfl, rfl, rfl, by decide +kernel, rfl, by decide +kernel, by decide +kernel⟩
theorem ok__law_moves {f : Addr} {fd : FuncData} (F : FunD K "_law_moves" "_law_moves" (defArgs st__law_moves) (defBody st__law_moves) (defScope st__law_moves) [] [] f fd) (mgf : mg "_law_moves" = some (.ref f)) (B : Bt mg)  : Callee P w K mg base ⟨K, cl⟩ 1 "_law_moves" 1 false d__law_moves := by
  have nd : (["_law_steps", "_law_moves_here", "_law_state", "_law_tick", "_law_then"] : List Str).Nodup := sc__law_moves.nd
  have z := fn_ok (P := P) (w := w) (mg := mg) (base := base) (k := ⟨K, cl⟩) (fr := false) (lv := 0) (as := [1, 2, 3, 4, 1001, 1]) (s := m__law_moves) F sc__law_moves fun cdv A outer sh H G0 hr => by
    have hu := hr.units
    have hu5 := hr.units5
    exact (b_cons (s_own 1 nd d_dnewT)
    (b_cons (s_for PassesOwn.never rfl (i_seq rfl (d_v 0)) (g_t rfl rfl (gs_c (g_n 2 nd) (gs_c (g_n 3 nd) (gs_c (g_n 4 nd) gs_n)))) (b_one (s_putA 1 hu (d_op (o_add rfl) (d_get2A hu (d_w 1) (d_tup (d_ac (d_v 2) (d_ac (d_v 3) d_an))) (d_z (d_lst d_an))) (d_lst (d_ac (d_v 4) d_an))) (d_tup (d_ac (d_v 2) (d_ac (d_v 3) d_an))))))
    (b_one (s_fz 1 (s_ret (d_v 1))))))
  exact ⟨f, fd, ["_law_steps"], rfl, z, mgf, F.kp, F.bindsN fun _ _ _ _ _ _ us hl => match us, hl with | [_], _ => rfl⟩
def m__law_after : FS :=
    (sSeq (sOwn 3 (eL aN))
    (sSeq (sFor (fun S => (eV 1) S >>= itemsD) (gN 4) (sFor (fun S => (eGet2 (eW 0) (eT (aC (eV 4) (aC (eV 2) aN))) (eL aN)) S >>= itemsD) (gN 5) (sIf (tB' (e2 notInA (eW 5) (eW 3))) (sApp 3 (eV 5)) sNil)))
    (sRet (eC (f1 tupD) (aC (eC (f1 srtAD) (aC (eW 3) aN)) aN)))))
def d__law_after : List D → R D := fun ds => (runF false 6 m__law_after ds).nox
theorem sc__law_after : FnScope ["_law_moves_here", "_law_states", "_law_tick", "_law_found", "_law_state", "_law_then"] ["_law_moves_here", "_law_states", "_law_tick"] (defScope st__law_after) := ⟨rfl, rfl, rfl, by decide +kernel, rfl, by decide +kernel, by decide +kernel⟩
theorem ok__law_after {f : Addr} {fd : FuncData} (F : FunD K "_law_after" "_law_after" (defArgs st__law_after) (defBody st__law_after) (defScope st__law_after) [] [] f fd) (mgf : mg "_law_after" = some (.ref f)) (B : Bt mg)  : Callee P w K mg base ⟨K, cl⟩ 1 "_law_after" 3 false d__law_after := by
  have nd : (["_law_moves_here", "_law_states", "_law_tick", "_law_found", "_law_state", "_law_then"] : List Str).Nodup := sc__law_after.nd
  have z := fn_ok (P := P) (w := w) (mg := mg) (base := base) (k := ⟨K, cl⟩) (fr := false) (lv := 0) (as := [3, 4, 5, 1003]) (s := m__law_after) F sc__law_after fun cdv A outer sh H G0 hr => by
    have hu := hr.units
    have hu5 := hr.units5
    exact (b_cons (s_own 3 nd (d_lst d_an))
    (b_cons (s_for PassesOwn.never rfl (i_seq rfl (d_v 1)) (g_n 4 nd) (b_one (s_for PassesOwn.never rfl (i_seq rfl (d_get2A hu (d_w 0) (d_tup (d_ac (d_v 4) (d_ac (d_v 2) d_an))) (d_z (d_lst d_an)))) (g_n 5 nd) (b_one (s_if (d_tc (o_notinA rfl hu5) (d_w 5) (d_w 3)) (b_one (s_app 3 (d_v 5))) b_nil)))))
    (b_one (s_ret (d_btyp (c_tup rfl) B.tuple (d_ab (d_bltn (c_srtA rfl hu) B.sorted (d_ab (d_w 3) d_an)) d_an))))))
  exact ⟨f, fd, ["_law_moves_here", "_law_states", "_law_tick"], rfl, z, mgf, F.kp, F.bindsN fun _ _ _ _ _ _ us hl => match us, hl with | [_, _, _], _ => rfl⟩
def m__law_parting : FS :=
    (sSeq (sSet 2 (eC d__law_moves (aC (e2 ixN' (eW 0) (eI (1))) aN)))
    (sSeq (sSet 3 (eC d__law_moves (aC (e2 ixN' (eW 1) (eI (1))) aN)))
    (sSeq (sSet 4 (eL (aC (eT (aC (eT aN) (aC (eC (f1 tupD) (aC (eC (f1 srtAD) (aC (e2 ixN' (eW 0) (eI (2))) aN)) aN)) (aC (eC (f1 tupD) (aC (eC (f1 srtAD) (aC (e2 ixN' (eW 1) (eI (2))) aN)) aN)) aN)))) aN)))
    (sSeq (sOwn 5 (fun _ => .ok (.dig [] [])))
    (sSeq (sFor (fun S => (aC (eI (5000)) aN) S >>= rng1) (gN 6) (sSeq (sOwn 7 (eL aN))
    (sSeq (sFor (fun S => (eC (f1 lstD) (aC (eW 4) aN)) S >>= itemsD) (gT 3 (gsC (gN 8) (gsC (gN 9) (gsC (gN 10) gsN)))) (sFor (fun S => (eT (aC (eI (0)) (aC (eI (1)) aN))) S >>= itemsD) (gN 11) (sSeq (sSet 12 (eC d__law_after (aC (eV 2) (aC (eV 9) (aC (eV 11) aN)))))
    (sSeq (sSet 13 (eC d__law_after (aC (eV 3) (aC (eV 10) (aC (eV 11) aN)))))
    (sSeq (sIf (tA (tB' (e2 gtD (eC (f1 lenD) (aC (eW 12) aN)) (eI (0)))) (tB' (e2 eqD (eC (f1 lenD) (aC (eW 13) aN)) (eI (0))))) (sRet (e2 addD (eW 8) (eT (aC (eV 11) aN)))) sNil)
    (sIf (tA (tB' (e2 gtD (eC (f1 lenD) (aC (eW 12) aN)) (eI (0)))) (tB' (e2 notInN (eT (aC (eV 12) (aC (eV 13) aN))) (eW 5)))) (sSeq (sPutN 5 (eT (aC (eV 12) (aC (eV 13) aN))) (eB true))
    (sApp 7 (eT (aC (e2 addD (eW 8) (eT (aC (eV 11) aN))) (aC (eV 12) (aC (eV 13) aN)))))) sNil))))))
    (sSeq (sIf (tB' (e2 eqD (eC (f1 lenD) (aC (eW 7) aN)) (eI (0)))) (sRet eN) sNil)
    (sFz 7 (sSet 4 (eV 7)))))))
    (sRet eN))))))
def d__law_parting : List D → R D := fun ds => (runF false 14 m__law_parting ds).nox
theorem sc__law_parting : FnScope ["_law_first", "_law_second", "_law_mine", "_law_theirs", "_law_level", "_law_seen", "_law_turn", "_law_longer", "_law_word", "_law_here", "_law_there", "_law_tick", "_law_now", "_law_other"] ["_law_first", "_law_second"] (defScope st__law_parting) := ⟨rfl, rfl, rfl, by decide +kernel, rfl, by decide +kernel, by decide +kernel⟩
theorem ok__law_parting {f : Addr} {fd : FuncData} (F : FunD K "_law_parting" "_law_parting" (defArgs st__law_parting) (defBody st__law_parting) (defScope st__law_parting) [] [] f fd) (mgf : mg "_law_parting" = some (.ref f)) (B : Bt mg) (h__law_moves : Callee P w K mg base ⟨K, cl⟩ 1 "_law_moves" 1 false d__law_moves) (h__law_after : Callee P w K mg base ⟨K, cl⟩ 1 "_law_after" 3 false d__law_after) : Callee P w K mg base ⟨K, cl⟩ 2 "_law_parting" 2 false d__law_parting := by
  have nd : (["_law_first", "_law_second", "_law_mine", "_law_theirs", "_law_level", "_law_seen", "_law_turn", "_law_longer", "_law_word", "_law_here", "_law_there", "_law_tick", "_law_now", "_law_other"] : List Str).Nodup := sc__law_parting.nd
  have z := fn_ok (P := P) (w := w) (mg := mg) (base := base) (k := ⟨K, cl⟩) (fr := false) (lv := 1) (as := [2, 3, 4, 5, 6, 7, 8, 9, 10, 11, 12, 13, 1005, 1007, 7, 4]) (s := m__law_parting) F sc__law_parting fun cdv A outer sh H G0 hr => by
    have hu := hr.units
    have hu5 := hr.units5
    exact (b_cons (s_set 2 nd (d_callS (h__law_moves.at hr (by decide)) (d_ac (d_ix (o_ixN rfl hu5) (d_w 0) d_int) d_an) (len_c len_n)))
    (b_cons (s_set 3 nd (d_callS (h__law_moves.at hr (by decide)) (d_ac (d_ix (o_ixN rfl hu5) (d_w 1) d_int) d_an) (len_c len_n)))
    (b_cons (s_set 4 nd (d_z (d_lst (d_ac (d_tup (d_ac (d_tup d_an) (d_ac (d_btyp (c_tup rfl) B.tuple (d_ab (d_bltn (c_srtA rfl hu) B.sorted (d_ab (d_ix (o_ixN rfl hu5) (d_w 0) d_int) d_an)) d_an)) (d_ac (d_btyp (c_tup rfl) B.tuple (d_ab (d_bltn (c_srtA rfl hu) B.sorted (d_ab (d_ix (o_ixN rfl hu5) (d_w 1) d_int) d_an)) d_an)) d_an)))) d_an))))
    (b_cons (s_own 5 nd d_dnewN)
    (b_cons (s_for PassesOwn.never rfl (i_rng1 B.range (d_ab d_int d_an)) (g_n 6 nd) (b_cons (s_own 7 nd (d_lst d_an))
    (b_cons (s_for PassesOwn.never rfl (i_seq rfl (d_z (d_btyp (c_lst rfl) B.list (d_ab (d_w 4) d_an)))) (g_t rfl rfl (gs_c (g_n 8 nd) (gs_c (g_n 9 nd) (gs_c (g_n 10 nd) gs_n)))) (b_one (s_for PassesOwn.never rfl (i_seq rfl (d_tup (d_ac d_int (d_ac d_int d_an)))) (g_n 11 nd) (b_cons (s_set 12 nd (d_callS (h__law_after.at hr (by decide)) (d_ac (d_v 2) (d_ac (d_v 9) (d_ac (d_v 11) d_an))) (len_c (len_c (len_c len_n)))))
    (b_cons (s_set 13 nd (d_callS (h__law_after.at hr (by decide)) (d_ac (d_v 3) (d_ac (d_v 10) (d_ac (d_v 11) d_an))) (len_c (len_c (len_c len_n)))))
    (b_cons (s_if (d_pw (d_and (d_tc (o_gt) (d_bltn (c_len rfl) B.len (d_ab (d_w 12) d_an)) d_int) (d_and1 (d_tc (o_eq rfl hu) (d_bltn (c_len rfl) B.len (d_ab (d_w 13) d_an)) d_int)))) (b_one (s_ret (d_op (o_add rfl) (d_w 8) (d_tup (d_ac (d_v 11) d_an))))) b_nil)
    (b_one (s_if (d_pw (d_and (d_tc (o_gt) (d_bltn (c_len rfl) B.len (d_ab (d_w 12) d_an)) d_int) (d_and1 (d_tc (o_notinK rfl hu5) (d_tup (d_ac (d_v 12) (d_ac (d_v 13) d_an))) (d_w 5))))) (b_cons (s_putN 5 rfl hu d_bl (d_tup (d_ac (d_v 12) (d_ac (d_v 13) d_an))))
    (b_one (s_app 7 (d_tup (d_ac (d_op (o_add rfl) (d_w 8) (d_tup (d_ac (d_v 11) d_an))) (d_ac (d_v 12) (d_ac (d_v 13) d_an))))))) b_nil))))))))
    (b_cons (s_if (d_tc (o_eq rfl hu) (d_bltn (c_len rfl) B.len (d_ab (d_w 7) d_an)) d_int) (b_one (s_ret d_non)) b_nil)
    (b_one (s_fz 7 (s_set 4 nd (d_v 7))))))))
    (b_one (s_ret d_non)))))))
  exact ⟨f, fd, ["_law_first", "_law_second"], rfl, z, mgf, F.kp, F.bindsN fun _ _ _ _ _ _ us hl => match us, hl with | [_, _], _ => rfl⟩
def m__law_low : FS :=
    (sSeq (sOwn 3 (fun _ => .ok (.dic [] [])))
    (sSeq (sFor (fun S => (eV 1) S >>= itemsD) (gN 4) (sPutA 3 (eW 4) (eI (0))))
    (sSeq (sFor (fun S => (aC (eW 2) aN) S >>= rng1) (gN 5) (sSeq (sOwn 6 (fun _ => .ok (.dic [] [])))
    (sSeq (sFor (fun S => (eV 0) S >>= itemsD) (gT 3 (gsC (gN 4) (gsC (gN 7) (gsC (gN 8) gsN)))) (sIf (tB' (e2 inA (eW 4) (eW 3))) (sPutA 6 (eW 4) (eC (f2 min2D) (aC (eGet2 (eW 6) (eW 4) (e2 addD (eW 5) (eI (1)))) (aC (e2 addD (eW 7) (e2 ixA (eW 3) (eW 8))) aN)))) sNil))
    (sFz 6 (sSet 3 (eV 6))))))
    (sFz 3 (sRet (eV 3))))))
def d__law_low : List D → R D := fun ds => (runF false 9 m__law_low ds).nox
theorem sc__law_low : FnScope ["_law_steps", "_law_states", "_law_ticks", "_law_low_here", "_law_state", "_law_turn", "_law_lower", "_law_tick", "_law_then"] ["_law_steps", "_law_states", "_law_ticks"] (defScope st__law_low) := ⟨rfl, rfl, rfl, by decide +kernel, rfl, by decide +kernel, by decide +kernel⟩
theorem ok__law_low {f : Addr} {fd : FuncData} (F : FunD K "_law_low" "_law_low" (defArgs st__law_low) (defBody st__law_low) (defScope st__law_low) [] [] f fd) (mgf : mg "_law_low" = some (.ref f)) (B : Bt mg)  : Callee P w K mg base ⟨K, cl⟩ 1 "_law_low" 3 false d__law_low := by
  have nd : (["_law_steps", "_law_states", "_law_ticks", "_law_low_here", "_law_state", "_law_turn", "_law_lower", "_law_tick", "_law_then"] : List Str).Nodup := sc__law_low.nd
  have z := fn_ok (P := P) (w := w) (mg := mg) (base := base) (k := ⟨K, cl⟩) (fr := false) (lv := 0) (as := [3, 4, 1003, 5, 6, 4, 7, 8, 1006, 6, 3, 3]) (s := m__law_low) F sc__law_low fun cdv A outer sh H G0 hr => by
    have hu := hr.units
    have hu5 := hr.units5
    exact (b_cons (s_own 3 nd d_dnewK)
    (b_cons (s_for PassesOwn.never rfl (i_seq rfl (d_v 1)) (g_n 4 nd) (b_one (s_putA 3 hu d_int (d_w 4))))
    (b_cons (s_for PassesOwn.never rfl (i_rng1 B.range (d_ab (d_w 2) d_an)) (g_n 5 nd) (b_cons (s_own 6 nd d_dnewK)
    (b_cons (s_for PassesOwn.never rfl (i_seq rfl (d_v 0)) (g_t rfl rfl (gs_c (g_n 4 nd) (gs_c (g_n 7 nd) (gs_c (g_n 8 nd) gs_n)))) (b_one (s_if (d_tc (o_inA rfl hu5) (d_w 4) (d_w 3)) (b_one (s_putA 6 hu (d_bltn (c_min2 rfl) B.min (d_ab (d_get2A hu (d_w 6) (d_w 4) (d_op (o_add rfl) (d_w 5) d_int)) (d_ab (d_op (o_add rfl) (d_w 7) (d_ix (o_ixA rfl hu5) (d_w 3) (d_w 8))) d_an))) (d_w 4))) b_nil)))
    (b_one (s_fz 6 (s_set 3 nd (d_v 6)))))))
    (b_one (s_fz 3 (s_ret (d_v 3)))))))
  exact ⟨f, fd, ["_law_steps", "_law_states", "_law_ticks"], rfl, z, mgf, F.kp, F.bindsN fun _ _ _ _ _ _ us hl => match us, hl with | [_, _, _], _ => rfl⟩
def m__law_boundaries : FS :=
    (sSeq (sSet 3 (eC (f1 lstD) (aC (e2 ixA (eW 1) (eI (2))) aN)))
    (sSeq (sSet 4 (eC (f1 lstD) (aC (e2 ixA (eW 1) (eI (2))) aN)))
    (sSeq (sFor (fun S => (aC (e2 ixA (eW 1) (eI (0))) aN) S >>= rng1) (gN 5) (sSeq (sSet 6 (eC (f1 tupD) (aC (eW 4) aN)))
    (sSeq (sFor (fun S => (aC (eW 2) aN) S >>= rng1) (gN 7) (sSeq (sSet 8 (eC (f1 lstD) (aC (eC d__law_after (aC (eV 0) (aC (eV 6) (aC (eI (1)) aN)))) aN)))
    (sSet 6 (eC (f1 tupD) (aC (e2 addD (eW 8) (lcE (fun S => (eC d__law_after (aC (eV 0) (aC (eV 6) (aC (eI (0)) aN)))) S >>= itemsD) (gN 9) (tB' (e2 notInA (eW 9) (eW 8))) (eV 9) [9])) aN)))))
    (sSeq (sSet 4 (lcE (fun S => (eV 6) S >>= itemsD) (gN 9) (tB' (e2 notInA (eW 9) (eW 3))) (eV 9) [9]))
    (sSeq (sIf (tB' (e2 eqD (eC (f1 lenD) (aC (eW 4) aN)) (eI (0)))) sBrk sNil)
    (sSet 3 (e2 addD (eW 3) (eW 4))))))))
    (sRet (eV 3)))))
def d__law_boundaries : List D → R D := fun ds => (runF false 10 m__law_boundaries ds).nox
theorem sc__law_boundaries : FnScope ["_law_moves_here", "_law_row", "_law_p", "_law_found", "_law_fresh", "_law_turn", "_law_states", "_law_k", "_law_both", "_law_state"] ["_law_moves_here", "_law_row", "_law_p"] (defScope st__law_boundaries) := ⟨rfl, rfl, rfl, by decide +kernel, rfl, by decide +kernel, by decide +kernel⟩
theorem ok__law_boundaries {f : Addr} {fd : FuncData} (F : FunD K "_law_boundaries" "_law_boundaries" (defArgs st__law_boundaries) (defBody st__law_boundaries) (defScope st__law_boundaries) [] [] f fd) (mgf : mg "_law_boundaries" = some (.ref f)) (B : Bt mg) (h__law_after : Callee P w K mg base ⟨K, cl⟩ 1 "_law_after" 3 false d__law_after) : Callee P w K mg base ⟨K, cl⟩ 2 "_law_boundaries" 3 false d__law_boundaries := by
  have nd : (["_law_moves_here", "_law_row", "_law_p", "_law_found", "_law_fresh", "_law_turn", "_law_states", "_law_k", "_law_both", "_law_state"] : List Str).Nodup := sc__law_boundaries.nd
  have z := fn_ok (P := P) (w := w) (mg := mg) (base := base) (k := ⟨K, cl⟩) (fr := false) (lv := 1) (as := [3, 4, 5, 6, 7, 8, 6, 4, 3]) (s := m__law_boundaries) F sc__law_boundaries fun cdv A outer sh H G0 hr => by
    have hu := hr.units
    have hu5 := hr.units5
    exact (b_cons (s_set 3 nd (d_z (d_btyp (c_lst rfl) B.list (d_ab (d_ix (o_ixA rfl hu5) (d_w 1) d_int) d_an))))
    (b_cons (s_set 4 nd (d_z (d_btyp (c_lst rfl) B.list (d_ab (d_ix (o_ixA rfl hu5) (d_w 1) d_int) d_an))))
    (b_cons (s_for PassesOwn.never rfl (i_rng1 B.range (d_ab (d_ix (o_ixA rfl hu5) (d_w 1) d_int) d_an)) (g_n 5 nd) (b_cons (s_set 6 nd (d_btyp (c_tup rfl) B.tuple (d_ab (d_w 4) d_an)))
    (b_cons (s_for PassesOwn.never rfl (i_rng1 B.range (d_ab (d_w 2) d_an)) (g_n 7 nd) (b_cons (s_set 8 nd (d_z (d_btyp (c_lst rfl) B.list (d_ab (d_callS (h__law_after.at hr (by decide)) (d_ac (d_v 0) (d_ac (d_v 6) (d_ac d_int d_an))) (len_c (len_c (len_c len_n)))) d_an))))
    (b_one (s_set 6 nd (d_btyp (c_tup rfl) B.tuple (d_ab (d_op (o_add rfl) (d_w 8) (d_lc [("_law_state", 9)] rfl nd (i_seq rfl (d_callS (h__law_after.at hr (by decide)) (d_ac (d_v 0) (d_ac (d_v 6) (d_ac d_int d_an))) (len_c (len_c (len_c len_n))))) (blkOk_by (N := ["_law_moves_here", "_law_row", "_law_p", "_law_found", "_law_fresh", "_law_turn", "_law_states", "_law_k", "_law_both", "_law_state"]) (sc := (defScope st__law_boundaries)) (by decide +kernel)) (fun _ _ _ _ _ => (g_n 9 nd)) (fun _ _ _ _ _ => (ts_1 (d_tc (o_notinA rfl hu5) (d_w 9) (d_w 8)))) (fun _ _ _ _ _ => (d_v 9)))) d_an))))))
    (b_cons (s_lcZ 4 [("_law_state", 9)] rfl nd (i_seq rfl (d_v 6)) (blkOk_by (N := ["_law_moves_here", "_law_row", "_law_p", "_law_found", "_law_fresh", "_law_turn", "_law_states", "_law_k", "_law_both", "_law_state"]) (sc := (defScope st__law_boundaries)) (by decide +kernel)) (fun _ _ _ _ _ => (g_n 9 nd)) (fun _ _ _ _ _ => (ts_1 (d_tc (o_notinA rfl hu5) (d_w 9) (d_w 3)))) (fun _ _ _ _ _ => (d_v 9)))
    (b_cons (s_if (d_tc (o_eq rfl hu) (d_bltn (c_len rfl) B.len (d_ab (d_w 4) d_an)) d_int) (b_one s_brk) b_nil)
    (b_one (s_set 3 nd (d_op (o_add rfl) (d_w 3) (d_w 4)))))))))
    (b_one (s_ret (d_v 3))))))
  exact ⟨f, fd, ["_law_moves_here", "_law_row", "_law_p"], rfl, z, mgf, F.kp, F.bindsN fun _ _ _ _ _ _ us hl => match us, hl with | [_, _, _], _ => rfl⟩
def m__law_is_int : FS :=
    (sRet (eAnd (eC (f2 isiD) (aC (eW 0) (aC (eY "int") aN))) (eNot (eC (f2 isiD) (aC (eW 0) (aC (eY "bool") aN))))))
def d__law_is_int : List D → R D := fun ds => (runF false 1 m__law_is_int ds).nox
theorem sc__law_is_int : FnScope ["_law_told"] ["_law_told"] (defScope st__law_is_int) := ⟨rfl, rfl, rfl, by decide +kernel, rfl, by decide +kernel, by decide +kernel⟩
theorem ok__law_is_int {f : Addr} {fd : FuncData} (F : FunD K "_law_is_int" "_law_is_int" (defArgs st__law_is_int) (defBody st__law_is_int) (defScope st__law_is_int) [] [] f fd) (mgf : mg "_law_is_int" = some (.ref f)) (B : Bt mg)  : Callee P w K mg base ⟨K, cl⟩ 1 "_law_is_int" 1 false d__law_is_int := by
  have nd : (["_law_told"] : List Str).Nodup := sc__law_is_int.nd
  have z := fn_ok (P := P) (w := w) (mg := mg) (base := base) (k := ⟨K, cl⟩) (fr := false) (lv := 0) (as := []) (s := m__law_is_int) F sc__law_is_int fun cdv A outer sh H G0 hr => by
    have hu := hr.units
    have hu5 := hr.units5
    exact (b_one (s_ret (d_vand (d_bltn (c_isi rfl) B.isinstance (d_ab (d_w 0) (d_ab (d_ty "int" B.int) d_an))) (d_vone (d_vnot (d_bltn (c_isi rfl) B.isinstance (d_ab (d_w 0) (d_ab (d_ty "bool" B.bool) d_an))))))))
  exact ⟨f, fd, ["_law_told"], rfl, z, mgf, F.kp, F.bindsN fun _ _ _ _ _ _ us hl => match us, hl with | [_], _ => rfl⟩
def m__law_is_word : FS :=
    (sSeq (sIf (tNo (tT' (eC (f2 isiD) (aC (eW 0) (aC (eY "tuple") aN))))) (sRet (eB false)) sNil)
    (sSeq (sFor (fun S => (eV 0) S >>= itemsD) (gN 1) (sIf (tO (tNo (tT' (eC (f2 isiD) (aC (eW 1) (aC (eY "int") aN))))) (tO (tT' (eC (f2 isiD) (aC (eW 1) (aC (eY "bool") aN)))) (tB' (e2 notInA (eW 1) (eT (aC (eI (0)) (aC (eI (1)) aN))))))) (sRet (eB false)) sNil))
    (sRet (eB true))))
def d__law_is_word : List D → R D := fun ds => (runF false 2 m__law_is_word ds).nox
theorem sc__law_is_word : FnScope ["_law_told", "_law_tick"] ["_law_told"] (defScope st__law_is_word) := ⟨rfl, rfl, rfl, by decide +kernel, rfl, by decide +kernel, by decide +kernel⟩
theorem ok__law_is_word {f : Addr} {fd : FuncData} (F : FunD K "_law_is_word" "_law_is_word" (defArgs st__law_is_word) (defBody st__law_is_word) (defScope st__law_is_word) [] [] f fd) (mgf : mg "_law_is_word" = some (.ref f)) (B : Bt mg)  : Callee P w K mg base ⟨K, cl⟩ 1 "_law_is_word" 1 false d__law_is_word := by
  have nd : (["_law_told", "_law_tick"] : List Str).Nodup := sc__law_is_word.nd
  have z := fn_ok (P := P) (w := w) (mg := mg) (base := base) (k := ⟨K, cl⟩) (fr := false) (lv := 0) (as := [1]) (s := m__law_is_word) F sc__law_is_word fun cdv A outer sh H G0 hr => by
    have hu := hr.units
    have hu5 := hr.units5
    exact (b_cons (s_if (d_not (d_tt rfl (d_bltn (c_isi rfl) B.isinstance (d_ab (d_w 0) (d_ab (d_ty "tuple" B.tuple) d_an))))) (b_one (s_ret d_bl)) b_nil)
    (b_cons (s_for PassesOwn.never rfl (i_seq rfl (d_v 0)) (g_n 1 nd) (b_one (s_if (d_pw (d_or (d_not (d_tt rfl (d_bltn (c_isi rfl) B.isinstance (d_ab (d_w 1) (d_ab (d_ty "int" B.int) d_an))))) (d_or (d_tt rfl (d_bltn (c_isi rfl) B.isinstance (d_ab (d_w 1) (d_ab (d_ty "bool" B.bool) d_an)))) (d_or1 (d_tc (o_notinA rfl hu5) (d_w 1) (d_tup (d_ac d_int (d_ac d_int d_an)))))))) (b_one (s_ret d_bl)) b_nil)))
    (b_one (s_ret d_bl))))
  exact ⟨f, fd, ["_law_told"], rfl, z, mgf, F.kp, F.bindsN fun _ _ _ _ _ _ us hl => match us, hl with | [_], _ => rfl⟩
def m__law_stays : FS :=
    (sSeq (sIf (tO (tB' (e2 neD (e1 (fldD 3 0) (eW 0)) (e2 ixA (eW 1) (eI (0))))) (tB' (e2 neD (e1 (fldD 3 1) (eW 0)) (eC (f1 tupD) (aC (eC (f1 srtAD) (aC (e2 ixA (eW 1) (eI (1))) aN)) aN))))) (sRet (eB false)) sNil)
    (sRet (e2 eqD (e1 (fldD 3 2) (eW 0)) (eC (f1 tupD) (aC (eC (f1 srtAD) (aC (e2 ixA (eW 1) (eI (2))) aN)) aN)))))
def d__law_stays : List D → R D := fun ds => (runF false 2 m__law_stays ds).nox
theorem sc__law_stays : FnScope ["_law_supply", "_law_row"] ["_law_supply", "_law_row"] (defScope st__law_stays) := ⟨rfl, rfl, rfl, by decide +kernel, rfl, by decide +kernel, by decide +kernel⟩
theorem ok__law_stays {f : Addr} {fd : FuncData} (F : FunD K "_law_stays" "_law_stays" (defArgs st__law_stays) (defBody st__law_stays) (defScope st__law_stays) [] [] f fd) (mgf : mg "_law_stays" = some (.ref f)) (B : Bt mg) (C_Supply : ClsI K ⟨K, cl⟩ 3 (["size", "steps", "starts", "moves"] : List Str)) : Callee P w K mg base ⟨K, cl⟩ 1 "_law_stays" 2 false d__law_stays := by
  have nd : (["_law_supply", "_law_row"] : List Str).Nodup := sc__law_stays.nd
  have z := fn_ok (P := P) (w := w) (mg := mg) (base := base) (k := ⟨K, cl⟩) (fr := false) (lv := 0) (as := []) (s := m__law_stays) F sc__law_stays fun cdv A outer sh H G0 hr => by
    have hu := hr.units
    have hu5 := hr.units5
    exact (b_cons (s_if (d_pw (d_or (d_tc (o_ne rfl hu) (d_fld 3 0 C_Supply rfl (d_w 0)) (d_ix (o_ixA rfl hu5) (d_w 1) d_int)) (d_or1 (d_tc (o_ne rfl hu) (d_fld 3 1 C_Supply rfl (d_w 0)) (d_btyp (c_tup rfl) B.tuple (d_ab (d_bltn (c_srtA rfl hu) B.sorted (d_ab (d_ix (o_ixA rfl hu5) (d_w 1) d_int) d_an)) d_an)))))) (b_one (s_ret d_bl)) b_nil)
    (b_one (s_ret (d_cmp (o_eq rfl hu) (d_fld 3 2 C_Supply rfl (d_w 0)) (d_btyp (c_tup rfl) B.tuple (d_ab (d_bltn (c_srtA rfl hu) B.sorted (d_ab (d_ix (o_ixA rfl hu5) (d_w 1) d_int) d_an)) d_an))))))
  exact ⟨f, fd, ["_law_supply", "_law_row"], rfl, z, mgf, F.kp, F.bindsN fun _ _ _ _ _ _ us hl => match us, hl with | [_, _], _ => rfl⟩
def m__law_are_rows : FS :=
    (sSeq (sIf (tO (tNo (tT' (eC (f2 isiD) (aC (eW 0) (aC (eY "list") aN))))) (tB' (e2 neD (eC (f1 lenD) (aC (eW 0) aN)) (eC (f1 lenD) (aC (eW 1) aN))))) (sRet (eB false)) sNil)
    (sSeq (sFor (fun S => (eV 0) S >>= itemsD) (gN 2) (sSeq (sIf (tO (tNo (tT' (eC (f2 isiD) (aC (eW 2) (aC (eY "tuple") aN))))) (tO (tB' (e2 neD (eC (f1 lenD) (aC (eW 2) aN)) (eI (3)))) (tO (tNo (tT' (eC d__law_is_int (aC (e2 ixA (eW 2) (eI (0))) aN)))) (tNo (tT' (eC d__law_is_int (aC (e2 ixA (eW 2) (eI (1))) aN))))))) (sRet (eB false)) sNil)
    (sIf (tA (tB' (e2 isntD (e2 ixA (eW 2) (eI (2))) eN)) (tNo (tT' (eC d__law_is_word (aC (e2 ixA (eW 2) (eI (2))) aN))))) (sRet (eB false)) sNil)))
    (sRet (e2 eqD (eW 0) (eW 1)))))
def d__law_are_rows : List D → R D := fun ds => (runF false 3 m__law_are_rows ds).nox
theorem sc__law_are_rows : FnScope ["_law_told", "_law_dues", "_law_row"] ["_law_told", "_law_dues"] (defScope st__law_are_rows) := ⟨rfl, rfl, rfl, by decide +kernel, rfl, by decide +kernel, by decide +kernel⟩
theorem ok__law_are_rows {f : Addr} {fd : FuncData} (F : FunD K "_law_are_rows" "_law_are_rows" (defArgs st__law_are_rows) (defBody st__law_are_rows) (defScope st__law_are_rows) [] [] f fd) (mgf : mg "_law_are_rows" = some (.ref f)) (B : Bt mg) (h__law_is_int : Callee P w K mg base ⟨K, cl⟩ 1 "_law_is_int" 1 false d__law_is_int) (h__law_is_word : Callee P w K mg base ⟨K, cl⟩ 1 "_law_is_word" 1 false d__law_is_word) : Callee P w K mg base ⟨K, cl⟩ 2 "_law_are_rows" 2 false d__law_are_rows := by
  have nd : (["_law_told", "_law_dues", "_law_row"] : List Str).Nodup := sc__law_are_rows.nd
  have z := fn_ok (P := P) (w := w) (mg := mg) (base := base) (k := ⟨K, cl⟩) (fr := false) (lv := 1) (as := [2]) (s := m__law_are_rows) F sc__law_are_rows fun cdv A outer sh H G0 hr => by
    have hu := hr.units
    have hu5 := hr.units5
    exact (b_cons (s_if (d_pw (d_or (d_not (d_tt rfl (d_bltn (c_isi rfl) B.isinstance (d_ab (d_w 0) (d_ab (d_ty "list" B.list) d_an))))) (d_or1 (d_tc (o_ne rfl hu) (d_bltn (c_len rfl) B.len (d_ab (d_w 0) d_an)) (d_bltn (c_len rfl) B.len (d_ab (d_w 1) d_an)))))) (b_one (s_ret d_bl)) b_nil)
    (b_cons (s_for PassesOwn.never rfl (i_seq rfl (d_v 0)) (g_n 2 nd) (b_cons (s_if (d_pw (d_or (d_not (d_tt rfl (d_bltn (c_isi rfl) B.isinstance (d_ab (d_w 2) (d_ab (d_ty "tuple" B.tuple) d_an))))) (d_or (d_tc (o_ne rfl hu) (d_bltn (c_len rfl) B.len (d_ab (d_w 2) d_an)) d_int) (d_or (d_not (d_tt rfl (d_callS (h__law_is_int.at hr (by decide)) (d_ac (d_ix (o_ixA rfl hu5) (d_w 2) d_int) d_an) (len_c len_n)))) (d_or1 (d_not (d_tt rfl (d_callS (h__law_is_int.at hr (by decide)) (d_ac (d_ix (o_ixA rfl hu5) (d_w 2) d_int) d_an) (len_c len_n))))))))) (b_one (s_ret d_bl)) b_nil)
    (b_one (s_if (d_pw (d_and (d_tc (o_isnt) (d_ix (o_ixA rfl hu5) (d_w 2) d_int) d_non) (d_and1 (d_not (d_tt rfl (d_callS (h__law_is_word.at hr (by decide)) (d_ac (d_ix (o_ixA rfl hu5) (d_w 2) d_int) d_an) (len_c len_n))))))) (b_one (s_ret d_bl)) b_nil))))
    (b_one (s_ret (d_cmp (o_eq rfl hu) (d_w 0) (d_w 1))))))
  exact ⟨f, fd, ["_law_told", "_law_dues"], rfl, z, mgf, F.kp, F.bindsN fun _ _ _ _ _ _ us hl => match us, hl with | [_, _], _ => rfl⟩
def m_law : FS :=
    (sSeq (sSet 1 (eC d__law_drawn (aC (eV 0) aN)))
    (sSeq (sAsg (gT 3 (gsC (gN 2) (gsC (gN 3) (gsC (gN 4) gsN)))) (eV 1))
    (sSeq (sSet 5 (eCXK d_Supply (aC (eV 2) (aC (eC (f1 lstD) (aC (eW 3) aN)) aN)) (aC (eV 4) aN)))
    (sSeq (sSet 6 (eC d__law_reached (aC (eV 2) (aC (eV 3) (aC (eV 4) aN)))))
    (sSeq (sSet 7 (eC d__law_moves (aC (eV 3) aN)))
    (sSeq (sSet 8 (e2 addD (eI (1)) (e2 modD (eC (f1 intD) (aC (eC d__law_number (aC (eV 0) (aC (eI (14)) aN))) aN)) (eI (8)))))
    (sSeq (sIf (tB' (e2 gtD (eW 2) (eI (6)))) (sSet 8 (e2 addD (eI (1)) (e2 modD (eC (f1 intD) (aC (eC d__law_number (aC (eV 0) (aC (eI (14)) aN))) aN)) (eI (4))))) sNil)
    (sSeq (sOwn 9 (eL aN))
    (sSeq (sFor (fun S => (aC (eI (1)) (aC (e2 addD (eW 8) (eI (1))) aN)) S >>= rng2) (gN 10) (sSeq (sSet 11 (eC d__law_low (aC (eV 3) (aC (eV 6) (aC (eV 10) aN)))))
    (sSeq (sSet 12 (eC (f1 minD) (aC (lcE (fun S => (eC d__law_boundaries (aC (eV 7) (aC (eV 1) (aC (eV 10) aN)))) S >>= itemsD) (gN 18) tY (e2 ixA (eW 11) (eW 18)) [18]) aN)))
    (sSeq (sSet 13 eN)
    (sSeq (sIf (tB' (e2 ltD (eW 12) (eW 10))) (sSeq (sAsg (gT 2 (gsC (gN 14) (gsC (gN 15) gsN))) (eC d__law_share (aC (e2 addD (eW 12) (eI (1))) (aC (eV 10) aN))))
    (sSet 13 (eC d__law_parting (aC (eV 1) (aC (eT (aC (eV 14) (aC (eV 15) (aC (eT (aC (eI (0)) aN)) aN)))) aN))))) sNil)
    (sApp 9 (eT (aC (eV 10) (aC (eV 12) (aC (eV 13) aN))))))))))
    (sSeq (sFor (fun S => (eT (aC (eI (0)) (aC (eI (1)) aN))) S >>= itemsD) (gN 16) (sSeq (sOwn 17 (eC d_shares (aC (eV 5) (aC (eV 8) aN))))
    (sSeq (sFz 9 (sIf (tNo (tT' (eBw .st [17] (eC d__law_are_rows (aC (eV 17) (aC (eV 9) aN)))))) (sRet (eB false)) sNil))
    (sClr 17))))
    (sRet (eC d__law_stays (aC (eV 5) (aC (eV 1) aN))))))))))))))
def d_law : List D → R D := fun ds => (runF false 19 m_law ds).nox
theorem sc_law : FnScope ["_law_script", "_law_row", "_law_size", "_law_steps", "_law_begins_here", "_law_supply", "_law_states", "_law_moves_here", "_law_longest", "_law_dues", "_law_p", "_law_low_here", "_law_most", "_law_word", "_law_wide", "_law_other", "_law_turn", "_law_told", "_law_state"] ["_law_script"] (defScope st_law) := ⟨rfl, rfl, rfl, by decide +kernel, rfl, by decide +kernel, by decide +kernel⟩
theorem ok_law {f : Addr} {fd : FuncData} (F : FunD K "law" "law" (defArgs st_law) (defBody st_law) (defScope st_law) [] [] f fd) (mgf : mg "law" = some (.ref f)) (B : Bt mg) (h__law_drawn : Callee P w K mg base ⟨K, cl⟩ 3 "_law_drawn" 1 false d__law_drawn) (mx_Supply : MakerXK P w K mg base ⟨K, cl⟩ 2 "Supply" 3 2 ["starts"] d_Supply) (h__law_reached : Callee P w K mg base ⟨K, cl⟩ 1 "_law_reached" 3 false d__law_reached) (h__law_moves : Callee P w K mg base ⟨K, cl⟩ 1 "_law_moves" 1 false d__law_moves) (h__law_number : Callee P w K mg base ⟨K, cl⟩ 1 "_law_number" 2 false d__law_number) (h__law_low : Callee P w K mg base ⟨K, cl⟩ 1 "_law_low" 3 false d__law_low) (h__law_boundaries : Callee P w K mg base ⟨K, cl⟩ 2 "_law_boundaries" 3 false d__law_boundaries) (h__law_share : Callee P w K mg base ⟨K, cl⟩ 1 "_law_share" 2 false d__law_share) (h__law_parting : Callee P w K mg base ⟨K, cl⟩ 2 "_law_parting" 2 false d__law_parting) (h_shares : Callee P w K mg base ⟨K, cl⟩ 5 "shares" 2 true d_shares) (h__law_are_rows : Callee P w K mg base ⟨K, cl⟩ 2 "_law_are_rows" 2 false d__law_are_rows) (h__law_stays : Callee P w K mg base ⟨K, cl⟩ 1 "_law_stays" 2 false d__law_stays) : FnOk P w K mg base CX0 6 f fd ["_law_script"] (SpF ⟨K, cl⟩ false 1 d_law) := by
  have nd : (["_law_script", "_law_row", "_law_size", "_law_steps", "_law_begins_here", "_law_supply", "_law_states", "_law_moves_here", "_law_longest", "_law_dues", "_law_p", "_law_low_here", "_law_most", "_law_word", "_law_wide", "_law_other", "_law_turn", "_law_told", "_law_state"] : List Str).Nodup := sc_law.nd
  have z := fn_ok (P := P) (w := w) (mg := mg) (base := base) (k := ⟨K, cl⟩) (fr := false) (lv := 5) (as := [1, 2, 3, 4, 5, 6, 7, 8, 8, 9, 10, 11, 12, 13, 14, 15, 13, 1009, 16, 17, 9, 1017]) (s := m_law) F sc_law fun cdv A outer sh H G0 hr => by
    have hu := hr.units
    have hu5 := hr.units5
    exact (b_cons (s_set 1 nd (d_callS (h__law_drawn.at hr (by decide)) (d_ac (d_v 0) d_an) (len_c len_n)))
    (b_cons (s_asg (d_v 1) (g_t rfl rfl (gs_c (g_n 2 nd) (gs_c (g_n 3 nd) (gs_c (g_n 4 nd) gs_n)))))
    (b_cons (s_set 5 nd (d_z (d_makerXK (ks := ["starts"]) mx_Supply hr (by decide) takes0 (d_ac (d_v 2) (d_ac (d_z (d_btyp (c_lst rfl) B.list (d_ab (d_w 3) d_an))) d_an)) (len_c (len_c len_n)) (d_kc (d_v 4) d_kn) (len_c len_n))))
    (b_cons (s_set 6 nd (d_callS (h__law_reached.at hr (by decide)) (d_ac (d_v 2) (d_ac (d_v 3) (d_ac (d_v 4) d_an))) (len_c (len_c (len_c len_n)))))
    (b_cons (s_set 7 nd (d_callS (h__law_moves.at hr (by decide)) (d_ac (d_v 3) d_an) (len_c len_n)))
    (b_cons (s_set 8 nd (d_op (o_add rfl) d_int (d_op (o_mod) (d_btyp (c_int) B.int (d_ab (d_callS (h__law_number.at hr (by decide)) (d_ac (d_v 0) (d_ac d_int d_an)) (len_c (len_c len_n))) d_an)) d_int)))
    (b_cons (s_if (d_tc (o_gt) (d_w 2) d_int) (b_one (s_set 8 nd (d_op (o_add rfl) d_int (d_op (o_mod) (d_btyp (c_int) B.int (d_ab (d_callS (h__law_number.at hr (by decide)) (d_ac (d_v 0) (d_ac d_int d_an)) (len_c (len_c len_n))) d_an)) d_int)))) b_nil)
    (b_cons (s_own 9 nd (d_lst d_an))
    (b_cons (s_for PassesOwn.never rfl (i_rng2 B.range (d_ab d_int (d_ab (d_op (o_add rfl) (d_w 8) d_int) d_an))) (g_n 10 nd) (b_cons (s_set 11 nd (d_callS (h__law_low.at hr (by decide)) (d_ac (d_v 3) (d_ac (d_v 6) (d_ac (d_v 10) d_an))) (len_c (len_c (len_c len_n)))))
    (b_cons (s_set 12 nd (d_bltn (c_min rfl) B.min (d_ab (d_lc [("_law_state", 18)] rfl nd (i_seq rfl (d_callS (h__law_boundaries.at hr (by decide)) (d_ac (d_v 7) (d_ac (d_v 1) (d_ac (d_v 10) d_an))) (len_c (len_c (len_c len_n))))) (blkOk_by (N := ["_law_script", "_law_row", "_law_size", "_law_steps", "_law_begins_here", "_law_supply", "_law_states", "_law_moves_here", "_law_longest", "_law_dues", "_law_p", "_law_low_here", "_law_most", "_law_word", "_law_wide", "_law_other", "_law_turn", "_law_told", "_law_state"]) (sc := (defScope st_law)) (by decide +kernel)) (fun _ _ _ _ _ => (g_n 18 nd)) (fun _ _ _ _ _ => ts_n) (fun _ _ _ _ _ => (d_ix (o_ixA rfl hu5) (d_w 11) (d_w 18)))) d_an)))
    (b_cons (s_set 13 nd d_non)
    (b_cons (s_if (d_tc (o_lt) (d_w 12) (d_w 10)) (b_cons (s_asg (d_callS (h__law_share.at hr (by decide)) (d_ac (d_op (o_add rfl) (d_w 12) d_int) (d_ac (d_v 10) d_an)) (len_c (len_c len_n))) (g_t rfl rfl (gs_c (g_n 14 nd) (gs_c (g_n 15 nd) gs_n))))
    (b_one (s_set 13 nd (d_callS (h__law_parting.at hr (by decide)) (d_ac (d_v 1) (d_ac (d_tup (d_ac (d_v 14) (d_ac (d_v 15) (d_ac (d_tup (d_ac d_int d_an)) d_an)))) d_an)) (len_c (len_c len_n)))))) b_nil)
    (b_one (s_app 9 (d_tup (d_ac (d_v 10) (d_ac (d_v 12) (d_ac (d_v 13) d_an)))))))))))
    (b_cons (s_for PassesOwn.never rfl (i_seq rfl (d_tup (d_ac d_int (d_ac d_int d_an)))) (g_n 16 nd) (b_cons (s_own 17 nd (d_callF (h_shares.at hr (by decide)) (d_ac (d_v 5) (d_ac (d_v 8) d_an)) (len_c (len_c len_n))))
    (b_cons (s_fz 9 (s_if (d_not (d_tt rfl (d_bw [17] (d_callS (h__law_are_rows.at hr (by decide)) (d_ac (d_v 17) (d_ac (d_v 9) d_an)) (len_c (len_c len_n)))))) (b_one (s_ret d_bl)) b_nil))
    (b_one (s_clr 17)))))
    (b_one (s_ret (d_callS (h__law_stays.at hr (by decide)) (d_ac (d_v 5) (d_ac (d_v 1) d_an)) (len_c (len_c len_n)))))))))))))))
  exact z
end
end Pf
set_option Elab.async false
set_option linter.all false
set_option maxRecDepth 100000
namespace Pf
open M PySem L2
def drawn (n : Nat) (d : D) : Prop := ∃ l : List Int, d = .lst (l.map .int) ∧ l.length = n ∧ ∀ x ∈ l, 0 ≤ x ∧ x < 720720
def EN : List Str := ["", "a", "b", "c", "ab", "ac", "bc", "abc"]
structure Nd (p : List Str) (due : Int) : Prop where
  ne : 1 ≤ p.length
  le : p.length ≤ 4
  lo : (p.length : Int) ≤ due
  hi : due ≤ 8
  en : ∀ e ∈ p, e ∈ EN
theorem drawn.ix {n : Nat} {d : D} (h : drawn n d) {i : Int} (h0 : 0 ≤ i) (h1 : i < n) : Ok (ixD d (.int i)) fun z => ∃ x : Int, z = .int x ∧ 0 ≤ x ∧ x < 720720 := by
  obtain ⟨l, rfl, hl, hm⟩ := h
  rw [k_ixL]
  obtain ⟨a, ha⟩ := atI_lt (xs := l.map D.int) h0 (by rw [List.length_map]; omega)
  obtain ⟨x, hx, rfl⟩ := List.mem_map.mp (atI_mem ha)
  exact ⟨_, ha, x, rfl, hm x hx⟩
theorem mod_b (x : Int) {m : Int} (h : 0 < m) : 0 ≤ x % m ∧ x % m < m := ⟨Int.emod_nonneg _ (by omega), Int.emod_lt_of_pos _ h⟩
theorem k_min2 {a b : Int} {Q : D → Prop} : Ok (min2D (.int a) (.int b)) Q ↔ Q (.int (if b < a then b else a)) := ok_ok
theorem drawn.snoc {l : List Int} {n : Nat} {x : Int} (hm : l.length = n ∧ ∀ x ∈ l, 0 ≤ x ∧ x < 720720) (hx : 0 ≤ x ∧ x < 720720) : (l ++ [x]).length = n + 1 ∧ ∀ z ∈ l ++ [x], 0 ≤ z ∧ z < 720720 := by
  refine ⟨by simp [hm.1], fun z hz => ?_⟩
  rcases List.mem_append.mp hz with h | h
  · exact hm.2 z h
  · rw [List.mem_singleton] at h; subst h; exact hx
end Pf
set_option Elab.async false
set_option linter.all false
set_option maxRecDepth 100000
namespace Pf
open M PySem L2
mutual
theorem deq_self : ∀ (n : Nat) (d : D), dok n d = true → deq d d = true
  | _, .non, _ => by simp [deq]
  | _, .bl b, _ => by simp [deq]
  | _, .int b, _ => by simp [deq]
  | _, .str b, _ => by simp [deq]
  | n + 1, .tup xs, h => by simp only [dok] at h; simp only [deq]; exact deqs_self n xs h
  | n + 1, .lst xs, h => by simp only [dok] at h; simp only [deq]; exact deqs_self n xs h
  | 0, .tup xs, h => by simp [dok] at h
  | 0, .lst xs, h => by simp [dok] at h
  | n, .ty _, h => by cases n <;> simp [dok] at h
  | n, .dic _ _, h => by cases n <;> simp [dok] at h
  | n, .dit _ _, h => by cases n <;> simp [dok] at h
  | n, .obj _ _, h => by cases n <;> simp [dok] at h
  | n, .scr _, h => by cases n <;> simp [dok] at h
  | n, .cls _, h => by cases n <;> simp [dok] at h
theorem deqs_self : ∀ (n : Nat) (ds : List D), doks n ds = true → deqs ds ds = true
  | _, [], _ => by simp [deqs]
  | n, d :: ds, h => by
    simp only [doks, Bool.and_eq_true] at h
    simp only [deqs, Bool.and_eq_true]
    exact ⟨deq_self n d h.1, deqs_self n ds h.2⟩
end
theorem k_neS {d : D} (h : dok 60 d = true) {Q : D → Prop} : Ok (neD d d) Q ↔ Q (.bl false) := by
  have e : neD d d = .ok (.bl false) := by unfold neD; rw [h, deq_self 60 d h]; rfl
  rw [e, ok_ok]
theorem doks_map {α : Type} (f : α → D) (n : Nat) : ∀ (xs : List α), (∀ x ∈ xs, dok n (f x) = true) → doks n (xs.map f) = true
  | [], _ => by simp [doks]
  | x :: xs, h => by
    simp only [List.map_cons, doks, Bool.and_eq_true]
    exact ⟨h x (by simp), doks_map f n xs fun y hy => h y (by simp [hy])⟩
def sg (c : Nat) : Str := ⟨#[c]⟩
theorem k_ext {i : Nat} {f : FE} {S : M.Env} {QS : Fl × M.Env → Prop} : Ok (sExt i f S) QS ↔ Ok (ownL i S) fun ds => Ok (f S) fun d => ∃ es, d = .lst es ∧ ds.length + es.length ≤ sizeLine ∧ QS (.nx, S.set i (some ⟨true, .lst (ds ++ es)⟩)) := by
  unfold sExt
  rw [ok_bind]
  apply iff_of_eq
  congr 1
  funext ds
  rw [ok_bind]
  congr 1
  funext d
  refine propext ?_
  cases d with
  | lst es =>
    simp only [ok_if, ok_ok]
    exact ⟨fun h => ⟨es, rfl, h.1, h.2⟩, fun ⟨es', e, h⟩ => by cases e; exact h⟩
  | _ => simp only [ok_fail]; exact ⟨False.elim, fun ⟨_, e, _⟩ => nomatch e⟩
theorem k_while {t : FT} {s : FS} {n : Nat} {S : M.Env} {QS : Fl × M.Env → Prop} : Ok (whileF t s (n + 1) S) QS ↔ Ok (t S) fun b => (b = true → Ok (s S) fun z => match z.1 with
    | .nx => Ok (whileF t s n z.2) QS
    | .ct => Ok (whileF t s n z.2) QS
    | .bk => QS (.nx, z.2)
    | .rt d => QS (.rt d, z.2)) ∧ (b = false → QS (.nx, S)) := by
  show Ok (t S >>= _) QS ↔ _
  rw [ok_bind]
  apply iff_of_eq
  congr 1
  funext b
  refine propext ?_
  rw [ok_b, ok_ok, ok_bind]
  apply iff_of_eq
  congr 3
  funext z
  obtain ⟨fl, S'⟩ := z
  cases fl <;> simp [ok_ok]
theorem k_aug {i : Nat} {o : D → D → R D} {f : FE} {S : M.Env} {QS : Fl × M.Env → Prop} : Ok (sAugI i o f S) QS ↔ Ok (eV i S) fun x => Ok (f S) fun y => bothI x y = true ∧ Ok (o x y) fun d => QS (.nx, S.set i (some ⟨false, d⟩)) := by
  unfold sAugI; simp only [ok_bind, ok_nox, ok_if, ok_ok]
theorem bothI_i {a b : Int} : bothI (.int a) (.int b) = true := rfl
end Pf
set_option Elab.async false
set_option linter.all false
set_option maxRecDepth 100000
namespace Pf
open M PySem L2 PySem.W PyProof.Rows
theorem srt_map {α : Type} (f : α → D) (xs : List α) : srt (xs.map f) = (xs.mergeSort fun a b => dle (f a) (f b)).map f := by
  unfold srt
  rw [List.map_mergeSort (r := fun a b => dle (f a) (f b)) (s := dle) fun _ _ _ _ => rfl]
theorem k_runT {n : Nat} {s : FS} {ds : List D} {Q : D → Prop} (h : Ok (s (startS n ds)) fun z => ∃ d, z.1 = .rt d ∧ Q d) : Ok (runF true n s ds) Q := by
  unfold runF
  obtain ⟨⟨fl, S'⟩, e, d, he, q⟩ := h
  have he : fl = .rt d := he
  subst he
  rw [e]
  exact ⟨d, rfl, q⟩
theorem k_isL {xs : List D} {Q : D → Prop} : Ok (isiD (.lst xs) (.ty "list")) Q ↔ Q (.bl true) := by
  have e : isiD (.lst xs) (.ty "list") = .ok (.bl true) := by first | rfl | decide
  rw [e, ok_ok]
theorem k_isT {xs : List D} {Q : D → Prop} : Ok (isiD (.tup xs) (.ty "tuple")) Q ↔ Q (.bl true) := by
  have e : isiD (.tup xs) (.ty "tuple") = .ok (.bl true) := by first | rfl | decide
  rw [e, ok_ok]
theorem k_isS {x : Str} {Q : D → Prop} : Ok (isiD (.str x) (.ty "str")) Q ↔ Q (.bl true) := by
  have e : isiD (.str x) (.ty "str") = .ok (.bl true) := by first | rfl | decide
  rw [e, ok_ok]
end Pf
set_option Elab.async false
set_option linter.all false
set_option maxRecDepth 100000
namespace Pf
open M PySem L2 PySem.W PyProof.Rows
theorem ixA_l {xs : List D} {y : D} : ixA (.lst xs) y = ixD (.lst xs) y := rfl
theorem ixA_t {xs : List D} {y : D} : ixA (.tup xs) y = ixD (.tup xs) y := rfl
theorem ixA_c {xs : List Int} {y : D} : ixA (.scr xs) y = ixD (.scr xs) y := rfl
theorem inA_l {xs : List D} {y : D} : inA y (.lst xs) = inD y (.lst xs) := rfl
theorem inA_t {xs : List D} {y : D} : inA y (.tup xs) = inD y (.tup xs) := rfl
theorem inA_s {x : Str} {y : D} : inA y (.str x) = inD y (.str x) := rfl
theorem notInA_l {xs : List D} {y : D} : notInA y (.lst xs) = notInD y (.lst xs) := rfl
theorem notInA_t {xs : List D} {y : D} : notInA y (.tup xs) = notInD y (.tup xs) := rfl
theorem notInA_s {x : Str} {y : D} : notInA y (.str x) = notInD y (.str x) := rfl
theorem any_int (x : Int) : ∀ l : List Int, ((l.map D.int).any fun z => deq z (.int x)) = decide (x ∈ l)
  | [] => by simp
  | y :: l => by
    rw [List.map_cons, List.any_cons, any_int x l]
    have e : deq (.int y) (.int x) = decide (x = y) := by
      simp only [deq]
      by_cases h : x = y
      · subst h; simp
      · rw [decide_eq_false h]; exact beq_eq_false_iff_ne.mpr fun z => h z.symm
    rw [e]
    by_cases h : x = y <;> simp [h]
theorem flat_ints : ∀ l : List Int, (l.map D.int).all flatD = true
  | [] => rfl
  | y :: l => by rw [List.map_cons, List.all_cons, flat_ints l]; rfl
theorem k_inI {x : Int} {l : List Int} {Q : D → Prop} : Ok (inD (.int x) (.lst (l.map .int))) Q ↔ Q (.bl (decide (x ∈ l))) := by
  have e : inD (.int x) (.lst (l.map .int)) = .ok (.bl (decide (x ∈ l))) := by
    simp only [inD, inD', flat_ints, any_int, flatD, Bool.and_self, if_true]
  rw [e, ok_ok]
theorem k_inIT {x : Int} {l : List Int} {Q : D → Prop} : Ok (inD (.int x) (.tup (l.map .int))) Q ↔ Q (.bl (decide (x ∈ l))) := by
  have e : inD (.int x) (.tup (l.map .int)) = .ok (.bl (decide (x ∈ l))) := by
    simp only [inD, inD', flat_ints, any_int, flatD, Bool.and_self, if_true]
  rw [e, ok_ok]
theorem k_ninI {x : Int} {l : List Int} {Q : D → Prop} : Ok (notInD (.int x) (.lst (l.map .int))) Q ↔ Q (.bl (!decide (x ∈ l))) := by
  have e : notInD (.int x) (.lst (l.map .int)) = .ok (.bl (!decide (x ∈ l))) := by
    simp only [notInD, inD', flat_ints, any_int, flatD, Bool.and_self, if_true]
  rw [e, ok_ok]
theorem k_ninIT {x : Int} {l : List Int} {Q : D → Prop} : Ok (notInD (.int x) (.tup (l.map .int))) Q ↔ Q (.bl (!decide (x ∈ l))) := by
  have e : notInD (.int x) (.tup (l.map .int)) = .ok (.bl (!decide (x ∈ l))) := by
    simp only [notInD, inD', flat_ints, any_int, flatD, Bool.and_self, if_true]
  rw [e, ok_ok]
abbrev ile (a b : Int) : Bool := decide (a ≤ b)
theorem dle_int (a b : Int) : dle (.int a) (.int b) = decide (a ≤ b) := by
  unfold dle dlt
  simp only [D.toP, PySem.W.dataLt, PySem.W.keyToks]
  by_cases h : b = a
  · subst h
    rw [lex_self]
    simp [PyProof.Rows.lexLt]
  · rw [lex_diff (O := itemOrd) (by simpa using h)]
    have : itemOrd.blt (.inl b) (.inl a) = decide (b < a) := rfl
    rw [this]
    by_cases h2 : b < a
    · rw [decide_eq_true h2, decide_eq_false (by omega)]; rfl
    · rw [decide_eq_false h2, decide_eq_true (by omega)]; rfl
theorem srt_int (l : List Int) : srt (l.map .int) = (l.mergeSort ile).map .int := by
  rw [srt_map]
  congr 2
  funext a b
  exact dle_int a b
theorem doks_int (n : Nat) (l : List Int) : doks n (l.map .int) = true := doks_map _ _ _ fun x _ => by cases n <;> simp [dok]
theorem srtOk_int (l : List Int) : srtOk (l.map .int) = true := by
  unfold srtOk
  rw [doks_int]
  simp [List.all_eq_true, alikeD, srtItem]
theorem k_srtI {l : List Int} {Q : D → Prop} : Ok (srtAD (.lst (l.map .int))) Q ↔ Q (.lst ((l.mergeSort ile).map .int)) := by
  have e : srtAD (.lst (l.map .int)) = .ok (.lst ((l.mergeSort ile).map .int)) := by simp only [srtAD, srtOk_int, if_true, srt_int]
  rw [e, ok_ok]
theorem k_srtIT {l : List Int} {Q : D → Prop} : Ok (srtAD (.tup (l.map .int))) Q ↔ Q (.lst ((l.mergeSort ile).map .int)) := by
  have e : srtAD (.tup (l.map .int)) = .ok (.lst ((l.mergeSort ile).map .int)) := by simp only [srtAD, srtOk_int, if_true, srt_int]
  rw [e, ok_ok]
theorem ms_mem {l : List Int} {x : Int} : x ∈ l.mergeSort ile ↔ x ∈ l := List.mem_mergeSort
theorem ms_strict {l : List Int} (h : l.Nodup) : (l.mergeSort ile).Pairwise (· < ·) := by
  have h1 : (l.mergeSort ile).Pairwise fun a b => ile a b = true := List.pairwise_mergeSort (fun a b c h1 h2 => by simp only [ile, decide_eq_true_eq] at *; omega) (fun a b => by simp only [ile, Bool.or_eq_true, decide_eq_true_eq]; omega) l
  have h2 : (l.mergeSort ile).Nodup := (List.mergeSort_perm l ile).nodup_iff.mpr h
  exact (h1.and h2).imp fun ⟨a, b⟩ => by simp only [ile, decide_eq_true_eq] at a; omega
theorem srtN_congr {a b : List Int} (h : ∀ x, x ∈ a ↔ x ∈ b) : srtN a = srtN b := strict_unique (srtN_strict a) (srtN_strict b) fun k => by rw [srtN_mem, srtN_mem, h]
theorem srtN_nd {l : List Int} (h : l.Nodup) : srtN l = l.mergeSort ile := strict_unique (srtN_strict l) (ms_strict h) fun k => by rw [srtN_mem, ms_mem]
theorem srtN_id {l : List Int} (h : l.Pairwise (· < ·)) : srtN l = l := strict_unique (srtN_strict l) h fun k => srtN_mem l
abbrev T3 := Int × Int × Int
def tD (e : T3) : D := .tup [.int e.1, .int e.2.1, .int e.2.2]
def tlt (a b : T3) : Prop := a.1 < b.1 ∨ a.1 = b.1 ∧ (a.2.1 < b.2.1 ∨ a.2.1 = b.2.1 ∧ a.2.2 < b.2.2)
instance (a b : T3) : Decidable (tlt a b) := by unfold tlt; infer_instance
def tle (a b : T3) : Bool := !decide (tlt b a)
theorem dle_t (a b : T3) : dle (tD a) (tD b) = tle a b := by
  unfold dle dlt tle
  congr 1
  simp only [tD, D.toP, D.toPs, PySem.W.dataLt, PySem.W.keyToks, PySem.W.keyToksAll, List.cons_append, List.nil_append]
  have I : ∀ (x y : Int), itemOrd.blt (.inl x) (.inl y) = decide (x < y) := fun _ _ => rfl
  obtain ⟨a1, a2, a3⟩ := a
  obtain ⟨b1, b2, b3⟩ := b
  rw [lex_self]
  unfold tlt
  by_cases h1 : b1 = a1
  · subst h1
    rw [lex_self, lex_self]
    by_cases h2 : b2 = a2
    · subst h2
      rw [lex_self, lex_self]
      by_cases h3 : b3 = a3
      · subst h3; rw [lex_self, lex_self, PyProof.Rows.lexLt]; symm; exact decide_eq_false (by dsimp only; omega)
      · rw [lex_diff (O := itemOrd) (by simpa using h3), I]
        exact decide_eq_decide.mpr (by dsimp only; omega)
    · rw [lex_diff (O := itemOrd) (by simpa using h2), I]
      exact decide_eq_decide.mpr (by dsimp only; omega)
  · rw [lex_diff (O := itemOrd) (by simpa using h1), I]
    exact decide_eq_decide.mpr (by dsimp only; omega)
theorem tlt_ne {a b : T3} (h : tlt a b) : a ≠ b := by rintro rfl; unfold tlt at h; omega
theorem tle_tr (a b c : T3) (h1 : tle a b = true) (h2 : tle b c = true) : tle a c = true := by
  simp only [tle, Bool.not_eq_true', decide_eq_false_iff_not] at *
  unfold tlt at *; omega
theorem tle_to (a b : T3) : (tle a b || tle b a) = true := by
  simp only [tle, Bool.or_eq_true, Bool.not_eq_true', decide_eq_false_iff_not]
  unfold tlt; omega
theorem tle_lt {a b : T3} (h : tle a b = true) (hn : a ≠ b) : tlt a b := by
  simp only [tle, Bool.not_eq_true', decide_eq_false_iff_not] at h
  unfold tlt at *
  obtain ⟨a1, a2, a3⟩ := a
  obtain ⟨b1, b2, b3⟩ := b
  simp only [ne_eq, Prod.mk.injEq, not_and] at *
  omega
theorem tst_strict {l : List T3} (h : l.Nodup) : (l.mergeSort tle).Pairwise tlt := by
  have h1 := List.pairwise_mergeSort tle_tr tle_to l
  have h2 : (l.mergeSort tle).Nodup := (List.mergeSort_perm l tle).nodup_iff.mpr h
  exact (h1.and h2).imp fun ⟨a, b⟩ => tle_lt a b
theorem srt_t (l : List T3) : srt (l.map tD) = (l.mergeSort tle).map tD := by
  rw [srt_map]
  congr 2
  funext a b
  exact dle_t a b
theorem doks_t (n : Nat) (l : List T3) : doks (n + 1) (l.map tD) = true := doks_map _ _ _ fun x _ => by cases n <;> simp [tD, dok, doks]
theorem srtOk_t (l : List T3) : srtOk (l.map tD) = true := by
  unfold srtOk
  rw [doks_t]
  simp [List.all_eq_true, tD, alikeD, alikeDs, srtItem]
theorem k_srtT {l : List T3} {Q : D → Prop} : Ok (srtAD (.lst (l.map tD))) Q ↔ Q (.lst ((l.mergeSort tle).map tD)) := by
  have e : srtAD (.lst (l.map tD)) = .ok (.lst ((l.mergeSort tle).map tD)) := by simp only [srtAD, srtOk_t, if_true, srt_t]
  rw [e, ok_ok]
theorem deq_t (a b : T3) : deq (tD a) (tD b) = decide (b = a) := by
  obtain ⟨a1, a2, a3⟩ := a
  obtain ⟨b1, b2, b3⟩ := b
  simp only [tD, deq, deqs, Bool.and_true]
  by_cases h : (b1, b2, b3) = (a1, a2, a3)
  · rw [decide_eq_true h]; cases h; simp
  · rw [decide_eq_false h]
    simp only [Prod.mk.injEq, not_and] at h
    simp only [Bool.and_eq_false_iff, beq_eq_false_iff_ne, ne_eq]
    omega
theorem any_t (x : T3) : ∀ l : List T3, ((l.map tD).any fun z => deq z (tD x)) = decide (x ∈ l)
  | [] => by simp
  | y :: l => by
    rw [List.map_cons, List.any_cons, any_t x l, deq_t]
    by_cases h : x = y <;> simp [h]
theorem k_ninT {x : T3} {l : List T3} {Q : D → Prop} : Ok (notInD (tD x) (.lst (l.map tD))) Q ↔ Q (.bl (!decide (x ∈ l))) := by
  have e : notInD (tD x) (.lst (l.map tD)) = .ok (.bl (!decide (x ∈ l))) := by
    have f : (flatD (tD x) && (l.map tD).all flatD) = false := rfl
    have g : (dok 60 (tD x) && doks 59 (l.map tD)) = true := by rw [doks_t]; simp [tD, dok, doks]
    simp only [notInD, inD', f, g, any_t, Bool.false_eq_true, if_false, if_true]
  rw [e, ok_ok]
theorem k_gT3 {e : T3} {r : FGs} {S : M.Env} {QE : M.Env → Prop} : Ok (gT 3 r (tD e) S) QE ↔ Ok (r [.int e.1, .int e.2.1, .int e.2.2] S) QE := by
  show Ok (gT 3 r (.tup [.int e.1, .int e.2.1, .int e.2.2]) S) QE ↔ _
  rw [k_gT]; simp
theorem k_tupD {e : T3} {Q : D → Prop} : Ok (tupD (tD e)) Q ↔ Q (tD e) := ok_ok
theorem asI_t : ∀ (l : List T3), l ≠ [] → asI (l.map tD) = none
  | [], h => absurd rfl h
  | e :: l, _ => rfl
theorem asTs_t : ∀ l : List T3, asTs (l.map tD) = some (l.map fun e => [e.1, e.2.1, e.2.2])
  | [] => rfl
  | e :: l => by
    rw [List.map_cons, asTs, asTs_t l]
    rfl
theorem nd_nubG {κ : Type} [DecidableEq κ] {l : List κ} (h : l.Nodup) : (nubG l).length = l.length := (M.nub_len h fun x => Iff.rfl).symm
theorem nd_map {α β : Type} (f : α → β) {l : List α} (h : l.Nodup) (i : ∀ a ∈ l, ∀ b ∈ l, f a = f b → a = b) : (l.map f).Nodup := by
  rw [List.Nodup, List.pairwise_map]
  refine List.Pairwise.imp_of_mem ?_ h
  intro a b ha hb hn e
  exact hn (i a ha b hb e)
theorem lenSet_T {l : List T3} (h : l.Nodup) (hl : l.length ≤ 300) (hn : l ≠ []) : lenSetD (.tup (l.map tD)) = .ok (.int l.length) := by
  simp only [lenSetD, asI_t l hn, asTs_t]
  rw [if_pos (by rw [List.length_map]; exact hl), nd_nubG (nd_map _ h fun a _ b _ e => by
    obtain ⟨a1, a2, a3⟩ := a
    obtain ⟨b1, b2, b3⟩ := b
    simpa using e), List.length_map]
theorem asI_int (l : List Int) : asI (l.map D.int) = some l := by have := asI_mapf (fun i : Int => i) l; simpa using this
theorem lenSet_i {l : List Int} (h : l.Nodup) (hl : l.length ≤ 1000) : lenSetD (.tup (l.map .int)) = .ok (.int l.length) := by
  simp only [lenSetD, asI_int]
  rw [if_pos hl, nd_nubG h]
theorem strict_nd {l : List Int} (h : l.Pairwise (· < ·)) : l.Nodup := h.imp fun h e => by omega
theorem tstrict_nd {l : List T3} (h : l.Pairwise tlt) : l.Nodup := h.imp fun h e => tlt_ne h e
theorem while_inv {t : FT} {s : FS} {QS : Fl × M.Env → Prop} (P : Nat → M.Env → Prop) : ∀ (m n : Nat) (S : M.Env), m < n → P m S → (∀ m S, P m S → Ok (t S) fun b => (b = true → Ok (s S) fun z => match z.1 with
    | .nx => ∃ m', m' < m ∧ P m' z.2
    | .ct => ∃ m', m' < m ∧ P m' z.2
    | .bk => QS (.nx, z.2)
    | .rt d => QS (.rt d, z.2)) ∧ (b = false → QS (.nx, S))) → Ok (whileF t s n S) QS := by
  intro m n
  induction n generalizing m with
  | zero => intro S h; omega
  | succ n ih =>
    intro S h hp k
    rw [k_while]
    refine (k m S hp).mono fun b hb => ⟨fun e => (hb.1 e).mono fun z hz => ?_, hb.2⟩
    obtain ⟨fl, S'⟩ := z
    cases fl with
    | nx => obtain ⟨m', h1, h2⟩ := hz; exact ih m' S' (by omega) h2 k
    | ct => obtain ⟨m', h1, h2⟩ := hz; exact ih m' S' (by omega) h2 k
    | bk => exact hz
    | rt d => exact hz
end Pf
set_option Elab.async false
set_option linter.all false
set_option maxRecDepth 100000
namespace Pf
open M PySem L2
section
variable {Q : D → Prop} {QB : Bool → Prop} {QL : List D → Prop} {QS : Fl × M.Env → Prop} {S : M.Env} {f g h : FE} {t : FT} {fa fk : FA} {s r : FS} {i j ci : Nat} {d x y : D}
theorem k_guardX {QS : Fl × M.Env → Prop} {c : Nat} : Ok (sIf t (sExc0 c) sNil S) QS ↔ Ok (t S) fun b => b = false ∧ QS (.nx, S) := by
  rw [k_if]
  apply iff_of_eq
  congr 1
  funext b
  have e : Ok (sExc0 c S) QS ↔ False := ⟨fun ⟨_, e, _⟩ => (nomatch e), False.elim⟩
  cases b <;> simp [k_nil, e]
theorem k_truT {xs : List D} : Ok (truD (.tup xs)) QB ↔ QB (!xs.isEmpty) := ok_ok
theorem k_truL {xs : List D} : Ok (truD (.lst xs)) QB ↔ QB (!xs.isEmpty) := ok_ok
theorem k_truI {n : Int} : Ok (truD (.int n)) QB ↔ QB (n != 0) := ok_ok
def getOr (d y z : D) : R D := match dlook d y with
  | some (some r) => .ok r
  | some none => .ok z
  | none => .fail
theorem k_eGet2 : Ok (eGet2 f g h S) Q ↔ Ok (f S) fun d => isDct d = true ∧ Ok (g S) fun y => Ok (h S) fun z => Ok (getOr d y z) Q := by
  unfold eGet2
  simp only [ok_bind]
  apply iff_of_eq
  congr 1
  funext d
  by_cases hd : isDct d = true
  · rw [if_pos hd]; simp only [hd, true_and, ok_bind]; rfl
  · rw [if_neg hd, ok_fail]; simp [hd]
theorem k_putA : Ok (sPutA i f g S) QS ↔ Ok (ownD i S) fun m => Ok (g S) fun d => Ok (f S) fun y => Ok (putA i S m d y) QS := by
  unfold sPutA; simp only [ok_bind]
theorem oD_z {l : List (Option Sl)} : Ok (ownD 0 (some ⟨true, d⟩ :: l)) Q ↔ Q d := ok_ok
theorem oD_s {a : Option Sl} {l : List (Option Sl)} : Ok (ownD (i + 1) (a :: l)) Q ↔ Ok (ownD i l) Q := Iff.rfl
theorem k_putK {ks : List Key} {ds : List D} {n : Int} : Ok (putA i S (.dic ks ds) d (.int n)) QS ↔ (ks.Nodup ∧ ks.length < sizeLine) ∧ QS (.nx, S.set i (some ⟨true, .dic (putL ks ds (.inl n) d).1 (putL ks ds (.inl n) d).2⟩)) := by
  show Ok (if _ then _ else _) QS ↔ _; rw [ok_if, ok_ok]
theorem k_putS {ks : List Key} {ds : List D} {n : Str} : Ok (putA i S (.dic ks ds) d (.str n)) QS ↔ (ks.Nodup ∧ ks.length < sizeLine) ∧ QS (.nx, S.set i (some ⟨true, .dic (putL ks ds (.inr n) d).1 (putL ks ds (.inr n) d).2⟩)) := by
  show Ok (if _ then _ else _) QS ↔ _; rw [ok_if, ok_ok]
theorem keyT_2 {a b : Int} : keyT (.tup [.int a, .int b]) = some [.inl a, .inl b] := by
  show (if 1 < 2 ∧ 2 < 4 ∧ ([.int a, .int b] : List D).all isStrD = false then keysD [.int a, .int b] else none) = _
  rw [if_pos (by refine ⟨?_, ?_, rfl⟩ <;> decide)]; rfl
theorem k_putT2 {ks : List (List Key)} {ds : List D} {a b : Int} : Ok (putA i S (.dit ks ds) d (.tup [.int a, .int b])) QS ↔ (ks.Nodup ∧ ks.length < sizeLine) ∧ QS (.nx, S.set i (some ⟨true, .dit (putL ks ds [.inl a, .inl b] d).1 (putL ks ds [.inl a, .inl b] d).2⟩)) := by
  unfold putA
  simp only [keyT_2]
  rw [ok_if, ok_ok]
theorem k_addT {a b : List D} : Ok (addD (.tup a) (.tup b)) Q ↔ a.length + b.length ≤ sizeLine ∧ Q (.tup (a ++ b)) := by show Ok (if _ then _ else _) Q ↔ _; rw [ok_if, ok_ok]
theorem k_addLL {a b : List D} : Ok (addD (.lst a) (.lst b)) Q ↔ a.length + b.length ≤ sizeLine ∧ Q (.lst (a ++ b)) := by show Ok (if _ then _ else _) Q ↔ _; rw [ok_if, ok_ok]
theorem k_CX {o : List D → R D} : Ok (eCX o fa S) Q ↔ Ok (fa S) fun xs => Ok (o xs) Q := by unfold eCX; simp only [ok_bind]
theorem k_CXK {o : List D → R D} : Ok (eCXK o fa fk S) Q ↔ Ok (fa S) fun xs => Ok (fk S) fun ys => Ok (o (xs ++ ys)) Q := by unfold eCXK; simp only [ok_bind]
theorem k_MX {den : List D → R D} : Ok (eMX ci den f fa S) Q ↔ Ok (f S) fun o => o.isObj ci = true ∧ Ok (fa S) fun ds => Ok (den (o :: ds)) Q := by unfold eMX; simp only [ok_bind, ok_if]
theorem k_lstL {xs : List D} : Ok (lstD (.lst xs)) Q ↔ Q (.lst xs) := ok_ok
theorem k_lstT {xs : List D} : Ok (lstD (.tup xs)) Q ↔ Q (.lst xs) := ok_ok
theorem k_boolL {xs : List D} : Ok (boolD (.lst xs)) Q ↔ Q (.bl (!xs.isEmpty)) := ok_ok
theorem k_boolT {xs : List D} : Ok (boolD (.tup xs)) Q ↔ Q (.bl (!xs.isEmpty)) := ok_ok
theorem k_lstE {out : List D} : Ok (lstE out) Q ↔ out.length ≤ sizeLine ∧ Q (.lst out) := by unfold lstE; rw [ok_if, ok_ok]
theorem k_LM {den : List D → R (List D)} : Ok (eLM ci den f fa S) Q ↔ Ok (f S) fun o => o.isObj ci = true ∧ Ok (fa S) fun ds => Ok (den (o :: ds)) fun out => Ok (lstE out) Q := by
  unfold eLM; simp only [ok_bind, ok_if, ok_nox]
theorem k_hasB {n b : Bool} : Ok (hasB n (.bl b)) Q ↔ Q (.bl (b != n)) := ok_ok
theorem k_eHas {den : List D → R D} {n : Bool} : Ok (eHas ci den n f g S) Q ↔ Ok (f S) fun x => Ok (g S) fun o => o.isObj ci = true ∧ Ok (den [o, x]) fun d => Ok (hasB n d) Q := by
  unfold eHas; simp only [ok_bind, ok_if, ok_nox]
theorem k_bw {kd : Kd} {is : List Nat} : Ok (eBw kd is f S) Q ↔ ∃ S', fzL S is = some S' ∧ Ok (f S') fun d => noK kd d = true ∧ Q d := by
  unfold eBw
  cases fzL S is with
  | none => exact ⟨fun ⟨_, e, _⟩ => (nomatch e), fun ⟨_, e, _⟩ => (nomatch e)⟩
  | some S' =>
    dsimp only
    rw [ok_bind]
    simp only [ok_if, ok_ok]
    exact ⟨fun h => ⟨S', rfl, h⟩, fun ⟨_, e, h⟩ => by cases e; exact h⟩
theorem k_parO : Ok (sParO i j f g S) QS ↔ Ok (f S) fun d => Ok (g S) fun e => QS (.nx, (S.set i (some ⟨true, d⟩)).set j (some ⟨true, e⟩)) := by unfold sParO; simp only [ok_bind, ok_ok]
end
def seqD (t : Bool) (xs : List D) : D := if t then .tup xs else .lst xs
theorem k_itemsQ {t : Bool} {xs : List D} {QL : List D → Prop} : Ok (itemsD (seqD t xs)) QL ↔ QL xs := by cases t <;> exact ok_ok
theorem k_lenQ {t : Bool} {xs : List D} {Q : D → Prop} : Ok (lenD (seqD t xs)) Q ↔ Q (.int xs.length) := by cases t <;> exact ok_ok
theorem k_ixQ {t : Bool} {xs : List D} {n : Int} {Q : D → Prop} : Ok (ixA (seqD t xs) (.int n)) Q ↔ ∃ d, L2.atI xs n = some d ∧ Q d := by
  cases t
  · exact k_ixL
  · exact k_ixT
theorem k_srtQ {t : Bool} {l : List Int} {Q : D → Prop} : Ok (srtAD (seqD t (l.map .int))) Q ↔ Q (.lst ((l.mergeSort ile).map .int)) := by
  cases t
  · exact k_srtI
  · exact k_srtIT
theorem lst_seqD (xs : List D) : D.lst xs = seqD false xs := rfl
theorem tup_seqD (xs : List D) : D.tup xs = seqD true xs := rfl
theorem atI_0 {α : Type} {x : α} {xs : List α} : L2.atI (x :: xs) 0 = some x := by
  unfold L2.atI ixN
  rw [if_pos (by decide), if_pos (by rw [List.length_cons]; omega)]; rfl
theorem atI_last {α : Type} {xs : List α} (h : xs ≠ []) : ∃ a, L2.atI xs (-1) = some a ∧ a ∈ xs := by
  have hl : 0 < xs.length := List.length_pos_iff.mpr h
  have e : ∃ a, L2.atI xs (-1) = some a := by
    unfold L2.atI ixN
    rw [if_neg (by decide), if_pos (by omega)]
    exact ⟨xs[(-1 + (xs.length : Int)).toNat]'(by omega), List.getElem?_eq_getElem _⟩
  obtain ⟨a, e⟩ := e
  exact ⟨a, e, atI_mem e⟩
theorem lc2_typed {α β : Type} {ga : FG} {t : FT} {fi1 : FI} {ga1 : FG} {t1 : FT} {fe : FE} {vs vs1 : List Nat} {S : M.Env} (f : α → D) (f1 : β → D) (inner : α → List β) (p : α → Bool) (p1 : α → β → Bool) (g : α → β → D) : ∀ (xs : List α),
    (∀ x ∈ xs, Ok (ga (f x) S) fun S1 => unown S1 vs = true ∧ Ok (t S1) fun b => b = p x ∧ (p x = true → Ok (fi1 S1) fun ds => ds = (inner x).map f1 ∧ ∀ y ∈ inner x, Ok (ga1 (f1 y) (wipeS S1 vs1)) fun S2 => Ok (t1 S2) fun b => b = p1 x y ∧ (p1 x y = true → Ok (fe S2) fun z => z = g x y))) →
    lc2F ga t fi1 ga1 t1 fe vs vs1 S (xs.map f) = .ok ((xs.filter p).flatMap fun x => ((inner x).filter (p1 x)).map (g x))
  | [], _ => rfl
  | x :: xs, h => by
    have ih := lc2_typed f f1 inner p p1 g xs fun y hy => h y (List.mem_cons_of_mem _ hy)
    obtain ⟨S1, e1, hu, b, e2, hb, k⟩ := h x (List.mem_cons_self ..)
    rw [List.map_cons, lc2F, e1, R.nox_ok, R.ok_bind, if_pos hu, e2, R.nox_ok, R.ok_bind]
    by_cases hp : p x = true
    · obtain ⟨ds, e3, rfl, hy⟩ := k hp
      rw [hb, if_pos hp, e3, R.nox_ok, R.ok_bind, lc_typed f1 (p1 x) (g x) (inner x) hy, R.ok_bind, ih, R.ok_bind, List.filter_cons_of_pos hp, List.flatMap_cons]
    · rw [hb, if_neg hp, ih, List.filter_cons_of_neg hp]
theorem k_Sl {f : FE} {l h : FO} {S : M.Env} {Q : D → Prop} : Ok (eSl f l h S) Q ↔ Ok (f S) fun x => Ok (l S) fun lo => Ok (h S) fun hi => Ok (slD x lo hi) Q := by
  unfold eSl; simp only [ok_bind, ok_nox]
theorem k_oN {S : M.Env} {Q : Option Int → Prop} : Ok (oN S) Q ↔ Q none := ok_ok
theorem k_oS {f : FE} {S : M.Env} {Q : Option Int → Prop} : Ok (oS f S) Q ↔ Ok (f S) fun d => Ok (toI d) Q := by unfold oS; rw [ok_bind]
theorem k_toI {i : Int} {Q : Option Int → Prop} : Ok (toI (.int i)) Q ↔ Q (some i) := ok_ok
theorem k_slL {xs : List D} {lo hi : Option Int} {Q : D → Prop} : Ok (slD (.lst xs) lo hi) Q ↔ Q (.lst (M.cutL xs lo hi)) := ok_ok
theorem k_slT {xs : List D} {lo hi : Option Int} {Q : D → Prop} : Ok (slD (.tup xs) lo hi) Q ↔ Q (.tup (M.cutL xs lo hi)) := ok_ok
theorem cut_map {α β : Type} (f : α → β) (xs : List α) (lo hi : Option Int) : M.cutL (xs.map f) lo hi = (M.cutL xs lo hi).map f := by
  unfold M.cutL
  rw [List.length_map, List.map_take, List.map_drop]
theorem take_mapD {α β : Type} (f : α → β) (xs : List α) (n : Nat) : (xs.map f).take n = (xs.take n).map f := List.map_take.symm
theorem drop_mapD {α β : Type} (f : α → β) (xs : List α) (n : Nat) : (xs.map f).drop n = (xs.drop n).map f := List.map_drop.symm
theorem dec_self {α : Type} [DecidableEq α] (a : α) : decide (a = a) = true := decide_eq_true rfl
theorem k_deqS {d : D} (h : dok 60 d = true) {Q : D → Prop} : Ok (eqD d d) Q ↔ Q (.bl true) := by
  have e : eqD d d = .ok (.bl true) := by unfold eqD; rw [h, deq_self 60 d h]; rfl
  rw [e, ok_ok]
theorem dok_tints (l : List Int) : dok 60 (.tup (l.map .int)) = true := by simp only [dok]; exact doks_int _ _
theorem dok_tts (l : List T3) : dok 60 (.tup (l.map tD)) = true := by simp only [dok]; exact doks_t 58 _
theorem noLs_ints (l : List Int) : noLs (l.map .int) = true := by induction l with | nil => rfl | cons x l ih => simp [noLs, noL, ih]
theorem noLs_all {ds : List D} (h : ∀ d ∈ ds, noL d = true) : noLs ds = true := by
  induction ds with
  | nil => rfl
  | cons x l ih => simp only [noLs, Bool.and_eq_true]; exact ⟨h x (by simp), ih fun d hd => h d (by simp [hd])⟩
theorem sz0 : (0 ≤ sizeLine) = True := eq_true (Nat.le_trans (by omega) size_ge)
theorem sz1 : (1 ≤ sizeLine) = True := eq_true (Nat.le_trans (by omega) size_ge)
theorem sz2 : (2 ≤ sizeLine) = True := eq_true (Nat.le_trans (by omega) size_ge)
theorem sz3 : (3 ≤ sizeLine) = True := eq_true (Nat.le_trans (by omega) size_ge)
theorem sz4 : (4 ≤ sizeLine) = True := eq_true (Nat.le_trans (by omega) size_ge)
theorem sz5 : (5 ≤ sizeLine) = True := eq_true (Nat.le_trans (by omega) size_ge)
theorem sz6 : (6 ≤ sizeLine) = True := eq_true (Nat.le_trans (by omega) size_ge)
theorem sz7 : (7 ≤ sizeLine) = True := eq_true (Nat.le_trans (by omega) size_ge)
theorem sz8 : (8 ≤ sizeLine) = True := eq_true (Nat.le_trans (by omega) size_ge)
theorem sz9 : (9 ≤ sizeLine) = True := eq_true (Nat.le_trans (by omega) size_ge)
end Pf
set_option Elab.async false
set_option linter.all false
set_option maxRecDepth 100000
set_option maxHeartbeats 0
namespace Pf
open PySem L2 M
theorem facts {P : Program} {w : World} {K : PySem.W.Frag} {h : Heap} {mg : Str → Option Value} {f : Addr} (X : K.In h) (Gn : h.Ns mainGlobals mg) (hfa : mg ("law" : Str) = some (.ref f)) (cz : SaysV fv fn w K) :
    ∃ fd : FuncData, (∀ (s : Shared) (v : Value), BindsTo s fd ⟨[v], []⟩ [("_law_script", v)]) ∧ ∀ base : Heap, K.In base → base.Ns mainGlobals mg → FnOk P w K mg base CX0 6 f fd ["_law_script"] (SpF ⟨K, clK K⟩ false 1 d_law) := by
  have cv := cz
  have cz := cv.z
  have c := cz.y
  have B : Bt mg := ⟨He.free_ok X Gn (c.fact 21 (f := .free "abs") rfl), He.free_ok X Gn (c.fact 22 (f := .free "bool") rfl), He.free_ok X Gn (c.fact 23 (f := .free "enumerate") rfl), He.free_ok X Gn (c.fact 24 (f := .free "int") rfl), He.free_ok X Gn (c.fact 25 (f := .free "isinstance") rfl), He.free_ok X Gn (c.fact 26 (f := .free "len") rfl), He.free_ok X Gn (c.fact 27 (f := .free "list") rfl), He.free_ok X Gn (c.fact 28 (f := .free "min") rfl), He.free_ok X Gn (c.fact 29 (f := .free "range") rfl), He.free_ok X Gn (c.fact 30 (f := .free "set") rfl), He.free_ok X Gn (c.fact 31 (f := .free "sorted") rfl), He.free_ok X Gn (c.fact 32 (f := .free "tuple") rfl)⟩
  have q_Supply : mg "Supply" = some (.ref (He.ga K "Supply")) := He.glo_ok X Gn (c.fact 33 (f := .glo "Supply") rfl)
  have k_Supply : clK K 3 = some (He.ga K "Supply", (["size", "steps", "starts", "moves"] : List Str)) := rfl
  have cc_Supply : Cls K (He.ga K "Supply") := He.cls_ok (c.fact 34 (f := .cls "Supply") rfl)
  have mk_Supply : Mk K (He.ga K "Supply") (He.ma K (He.ga K "Supply") "__init__") := He.mkr_ok (c.fact 35 (f := .mkr "Supply") rfl)
  have C_Supply : ClsI K ⟨K, clK K⟩ 3 (["size", "steps", "starts", "moves"] : List Str) := ⟨⟨_, k_Supply, cc_Supply, fun z hz => by
    simp only [List.mem_cons, List.not_mem_nil, or_false] at hz
    rcases hz with rfl | rfl | rfl | rfl
    · exact He.noat_ok (c.fact 36 (f := .noat "Supply" "size") rfl)
    · exact He.noat_ok (c.fact 37 (f := .noat "Supply" "steps") rfl)
    · exact He.noat_ok (c.fact 38 (f := .noat "Supply" "starts") rfl)
    · exact He.noat_ok (c.fact 39 (f := .noat "Supply" "moves") rfl)⟩, by decide +kernel, by decide⟩
  have g_Supply : Gc mg ⟨K, clK K⟩ "Supply" (.cls 3) := gcls_ok q_Supply k_Supply
  have q_InvalidSupply : mg "InvalidSupply" = some (.ref (He.ga K "InvalidSupply")) := He.glo_ok X Gn (c.fact 41 (f := .glo "InvalidSupply") rfl)
  have k_InvalidSupply : clK K 202 = some (He.ga K "InvalidSupply", ([] : List Str)) := rfl
  have g_InvalidSupply : Gc mg ⟨K, clK K⟩ "InvalidSupply" (.cls 202) := gcls_ok q_InvalidSupply k_InvalidSupply
  have R_InvalidSupply : RaO K mg ⟨K, clK K⟩ "InvalidSupply" 202 := raO_ok (c.fact 42 (f := .exc "InvalidSupply") rfl) q_InvalidSupply k_InvalidSupply
  have h0 : clK K xix = none := by rfl
  have hd_Supply : ∀ Gd, RDs ⟨K, clK K⟩ Gd [.tup [.int 0]] [.ref (kwAt (.met "Supply" "__init__") "starts" K)] := fun Gd => (.cons (dfl_ok (cv.xf 0 (f := .dfl (.met "Supply" "__init__") "starts" (.tup [.int 0])) rfl) Gd) .nil)
  obtain ⟨cr_Supply_share, cm_Supply_share⟩ := cme_ok (cv.xf 1 (f := .cme "Supply" "share") rfl)
  have g_MOST_STATES : Gc mg ⟨K, clK K⟩ "MOST_STATES" gv_MOST_STATES := gB_ok X Gn (c.gc 0 (f := ("MOST_STATES", gv_MOST_STATES)) rfl)
  have g_LONGEST_PERIOD : Gc mg ⟨K, clK K⟩ "LONGEST_PERIOD" gv_LONGEST_PERIOD := gB_ok X Gn (c.gc 1 (f := ("LONGEST_PERIOD", gv_LONGEST_PERIOD)) rfl)
  obtain ⟨fd_check_supply, F_check_supply⟩ := c.def_ 0 (d := dd_check_supply) rfl
  obtain ⟨fd_moves_of, F_moves_of⟩ := c.def_ 1 (d := dd_moves_of) rfl
  obtain ⟨fd_Supply, F_Supply⟩ := c.def_ 2 (d := dd_Supply) rfl
  obtain ⟨fd_Supply_share, F_Supply_share⟩ := c.def_ 3 (d := dd_Supply_share) rfl
  obtain ⟨fd_Supply_after, F_Supply_after⟩ := c.def_ 4 (d := dd_Supply_after) rfl
  obtain ⟨fd_parting, F_parting⟩ := c.def_ 5 (d := dd_parting) rfl
  obtain ⟨fd_shares, F_shares⟩ := c.def_ 6 (d := dd_shares) rfl
  obtain ⟨fd__law_number, F__law_number⟩ := c.def_ 7 (d := dd__law_number) rfl
  obtain ⟨fd__law_machine, F__law_machine⟩ := c.def_ 8 (d := dd__law_machine) rfl
  obtain ⟨fd__law_ring, F__law_ring⟩ := c.def_ 9 (d := dd__law_ring) rfl
  obtain ⟨fd__law_share, F__law_share⟩ := c.def_ 10 (d := dd__law_share) rfl
  obtain ⟨fd__law_begins, F__law_begins⟩ := c.def_ 11 (d := dd__law_begins) rfl
  obtain ⟨fd__law_drawn, F__law_drawn⟩ := c.def_ 12 (d := dd__law_drawn) rfl
  obtain ⟨fd__law_reached, F__law_reached⟩ := c.def_ 13 (d := dd__law_reached) rfl
  obtain ⟨fd__law_moves, F__law_moves⟩ := c.def_ 14 (d := dd__law_moves) rfl
  obtain ⟨fd__law_after, F__law_after⟩ := c.def_ 15 (d := dd__law_after) rfl
  obtain ⟨fd__law_parting, F__law_parting⟩ := c.def_ 16 (d := dd__law_parting) rfl
  obtain ⟨fd__law_low, F__law_low⟩ := c.def_ 17 (d := dd__law_low) rfl
  obtain ⟨fd__law_boundaries, F__law_boundaries⟩ := c.def_ 18 (d := dd__law_boundaries) rfl
  obtain ⟨fd__law_is_int, F__law_is_int⟩ := c.def_ 19 (d := dd__law_is_int) rfl
  obtain ⟨fd__law_is_word, F__law_is_word⟩ := c.def_ 20 (d := dd__law_is_word) rfl
  obtain ⟨fd__law_stays, F__law_stays⟩ := c.def_ 21 (d := dd__law_stays) rfl
  obtain ⟨fd__law_are_rows, F__law_are_rows⟩ := c.def_ 22 (d := dd__law_are_rows) rfl
  obtain ⟨fd_law, F_law⟩ := c.def_ 23 (d := dd_law) rfl
  have e := hfa.symm.trans (He.glo_ok X Gn (c.fact 20 (f := .glo "law") rfl))
  cases e
  have b := FunD.bindsA (ps := ["_law_script"]) F_law fun _ _ _ _ _ _ us hl => match us, hl with | [_], _ => rfl
  refine ⟨fd_law, fun s v => b s [v] rfl, fun base _ _ => ?_⟩
  have h_check_supply : CalleeX P w K mg base ⟨K, clK K⟩ 1 "check_supply" 3 false d_check_supply := ok_check_supply F_check_supply (He.glo_ok X Gn (c.fact 0 (f := .glo "check_supply") rfl)) B g_MOST_STATES R_InvalidSupply
  have h_moves_of : Callee P w K mg base ⟨K, clK K⟩ 1 "moves_of" 1 true d_moves_of := ok_moves_of F_moves_of (He.glo_ok X Gn (c.fact 1 (f := .glo "moves_of") rfl)) B 
  have mx_Supply : MakerXK P w K mg base ⟨K, clK K⟩ 2 "Supply" 3 2 ["starts"] d_Supply := okk_Supply hd_Supply F_Supply k_Supply mk_Supply q_Supply B C_Supply h_check_supply h_moves_of
  have m_Supply : MakerXD P w K mg base ⟨K, clK K⟩ 2 "Supply" 3 2 [.tup [.int 0]] d_Supply := ok_Supply hd_Supply F_Supply k_Supply mk_Supply q_Supply B C_Supply h_check_supply h_moves_of
  have h_Supply_share : CmethX P w K mg base ⟨K, clK K⟩ 4 3 "share" 3 true d_Supply_share := ok_Supply_share F_Supply_share k_Supply cr_Supply_share cm_Supply_share B g_LONGEST_PERIOD R_InvalidSupply m_Supply
  have h_Supply_after : Method P w K mg base ⟨K, clK K⟩ 1 3 "after" 3 false d_Supply_after := ok_Supply_after F_Supply_after k_Supply cc_Supply (He.meth_ok (c.fact 40 (f := .meth "Supply" "after") rfl)) B C_Supply
  have h_parting : Callee P w K mg base ⟨K, clK K⟩ 2 "parting" 2 false d_parting := ok_parting F_parting (He.glo_ok X Gn (c.fact 2 (f := .glo "parting") rfl)) B C_Supply h_Supply_after
  have h_shares : Callee P w K mg base ⟨K, clK K⟩ 5 "shares" 2 true d_shares := ok_shares F_shares (He.glo_ok X Gn (c.fact 3 (f := .glo "shares") rfl)) B h_parting h_Supply_share g_Supply
  have h__law_number : Callee P w K mg base ⟨K, clK K⟩ 1 "_law_number" 2 false d__law_number := ok__law_number F__law_number (He.glo_ok X Gn (c.fact 4 (f := .glo "_law_number") rfl)) B 
  have h__law_machine : Callee P w K mg base ⟨K, clK K⟩ 2 "_law_machine" 5 false d__law_machine := ok__law_machine F__law_machine (He.glo_ok X Gn (c.fact 5 (f := .glo "_law_machine") rfl)) B h__law_number
  have h__law_ring : Callee P w K mg base ⟨K, clK K⟩ 1 "_law_ring" 2 false d__law_ring := ok__law_ring F__law_ring (He.glo_ok X Gn (c.fact 6 (f := .glo "_law_ring") rfl)) B 
  have h__law_share : Callee P w K mg base ⟨K, clK K⟩ 1 "_law_share" 2 false d__law_share := ok__law_share F__law_share (He.glo_ok X Gn (c.fact 7 (f := .glo "_law_share") rfl)) B 
  have h__law_begins : Callee P w K mg base ⟨K, clK K⟩ 1 "_law_begins" 2 false d__law_begins := ok__law_begins F__law_begins (He.glo_ok X Gn (c.fact 8 (f := .glo "_law_begins") rfl)) B 
  have h__law_drawn : Callee P w K mg base ⟨K, clK K⟩ 3 "_law_drawn" 1 false d__law_drawn := ok__law_drawn F__law_drawn (He.glo_ok X Gn (c.fact 9 (f := .glo "_law_drawn") rfl)) B h__law_number h__law_share h__law_ring h__law_machine h__law_begins
  have h__law_reached : Callee P w K mg base ⟨K, clK K⟩ 1 "_law_reached" 3 false d__law_reached := ok__law_reached F__law_reached (He.glo_ok X Gn (c.fact 10 (f := .glo "_law_reached") rfl)) B 
  have h__law_moves : Callee P w K mg base ⟨K, clK K⟩ 1 "_law_moves" 1 false d__law_moves := ok__law_moves F__law_moves (He.glo_ok X Gn (c.fact 11 (f := .glo "_law_moves") rfl)) B 
  have h__law_after : Callee P w K mg base ⟨K, clK K⟩ 1 "_law_after" 3 false d__law_after := ok__law_after F__law_after (He.glo_ok X Gn (c.fact 12 (f := .glo "_law_after") rfl)) B 
  have h__law_parting : Callee P w K mg base ⟨K, clK K⟩ 2 "_law_parting" 2 false d__law_parting := ok__law_parting F__law_parting (He.glo_ok X Gn (c.fact 13 (f := .glo "_law_parting") rfl)) B h__law_moves h__law_after
  have h__law_low : Callee P w K mg base ⟨K, clK K⟩ 1 "_law_low" 3 false d__law_low := ok__law_low F__law_low (He.glo_ok X Gn (c.fact 14 (f := .glo "_law_low") rfl)) B 
  have h__law_boundaries : Callee P w K mg base ⟨K, clK K⟩ 2 "_law_boundaries" 3 false d__law_boundaries := ok__law_boundaries F__law_boundaries (He.glo_ok X Gn (c.fact 15 (f := .glo "_law_boundaries") rfl)) B h__law_after
  have h__law_is_int : Callee P w K mg base ⟨K, clK K⟩ 1 "_law_is_int" 1 false d__law_is_int := ok__law_is_int F__law_is_int (He.glo_ok X Gn (c.fact 16 (f := .glo "_law_is_int") rfl)) B 
  have h__law_is_word : Callee P w K mg base ⟨K, clK K⟩ 1 "_law_is_word" 1 false d__law_is_word := ok__law_is_word F__law_is_word (He.glo_ok X Gn (c.fact 17 (f := .glo "_law_is_word") rfl)) B 
  have h__law_stays : Callee P w K mg base ⟨K, clK K⟩ 1 "_law_stays" 2 false d__law_stays := ok__law_stays F__law_stays (He.glo_ok X Gn (c.fact 18 (f := .glo "_law_stays") rfl)) B C_Supply
  have h__law_are_rows : Callee P w K mg base ⟨K, clK K⟩ 2 "_law_are_rows" 2 false d__law_are_rows := ok__law_are_rows F__law_are_rows (He.glo_ok X Gn (c.fact 19 (f := .glo "_law_are_rows") rfl)) B h__law_is_int h__law_is_word
  exact ok_law F_law (He.glo_ok X Gn (c.fact 20 (f := .glo "law") rfl)) B h__law_drawn mx_Supply h__law_reached h__law_moves h__law_number h__law_low h__law_boundaries h__law_share h__law_parting h_shares h__law_are_rows h__law_stays
end Pf
namespace Pf
open M PySem L2
local macro_rules
  | `(tactic| simp? only [$ls,*]) => `(tactic| (try simp only [↓k_guard, k_no, k_I, k_S, k_B, k_N, k_G, k_Y, k_V, k_W, k_O, g0_z, g0_s, gA_z, gA_s, g1_z, g1_s, k_1, k_2, k_n, k_c, k_T, k_L, k_C, k_f1, k_f2, k_App, k_M, k_P, k_3, k_tB, k_tT, k_toB, k_tNo, k_tA, k_tO, k_tY, k_And, k_Or, k_Not, k_eIf, k_nil, k_seq, k_set, k_own, k_drop, k_ret, k_retN, k_retO, k_if, k_fz, fz_z, fz_s, k_gN, k_gsN, k_gsC, k_gT, k_asg, k_for, k_fnil, k_fcons, k_app, oL_z, oL_s, k_par, k_run, k_runN, k_fld, oO_z, k_add, k_addL, k_sub, k_mul, k_div, k_mod, k_pow, k_neg, k_lt, k_le, k_gt, k_ge, k_eqI, k_neI, k_int, k_intB, k_abs, k_lenL, k_lenT, k_lenC, k_tru, k_tupL, k_tupT, k_items_l, k_items_t, k_rng1, k_ixL, k_ixT, k_ixC, k_fldD, ok_nox, ok_ok, ok_bind, List.set_cons_zero, List.set_cons_succ, startS, startN, List.map_cons, List.map_nil, List.cons_append, List.nil_append, List.append_nil, List.length_cons, List.length_nil, List.replicate, Nat.reduceSub, Nat.reduceAdd, Nat.reduceLeDiff, Nat.zero_add, true_and, and_true, false_implies, true_implies, implies_true, forall_const, reduceCtorEq, Bool.not_true, Bool.not_false, Bool.not_eq_true', ↓k_guardX, k_truT, k_truL, k_truI, k_eGet2, k_putA, oD_z, oD_s, k_putK, k_putS, k_putT2, k_addT, k_addLL, k_CX, k_CXK, k_MX, k_lstL, k_lstT, k_boolL, k_boolT, k_LM, k_lstE, k_hasB, k_eHas, k_itemsQ, k_lenQ, k_ixQ, k_srtQ, k_parO, k_aug, bothI_i, k_ext, ixA_l, ixA_t, ixA_c, inA_l, inA_t, inA_s, notInA_l, notInA_t, notInA_s, k_inI, k_inIT, k_ninI, k_ninIT, k_srtI, k_srtIT, k_isL, k_isT, k_isS, List.getElem?_cons_zero, List.getElem?_cons_succ, Option.some.injEq, exists_eq_left', k_Sl, k_oN, k_oS, k_toI, k_slL, k_slT, cut_map, take_mapD, drop_mapD, dec_self, decide_true, decide_false, wipeS, List.length_map, List.set_nil, sz0, sz1, sz2, sz3, sz4, sz5, sz6, sz7, sz8, sz9, $ls,*]))
local macro_rules
  | `(tactic| dsimp? only [$ls,*]) => `(tactic| (try simp only [↓k_guard, k_no, k_I, k_S, k_B, k_N, k_G, k_Y, k_V, k_W, k_O, g0_z, g0_s, gA_z, gA_s, g1_z, g1_s, k_1, k_2, k_n, k_c, k_T, k_L, k_C, k_f1, k_f2, k_App, k_M, k_P, k_3, k_tB, k_tT, k_toB, k_tNo, k_tA, k_tO, k_tY, k_And, k_Or, k_Not, k_eIf, k_nil, k_seq, k_set, k_own, k_drop, k_ret, k_retN, k_retO, k_if, k_fz, fz_z, fz_s, k_gN, k_gsN, k_gsC, k_gT, k_asg, k_for, k_fnil, k_fcons, k_app, oL_z, oL_s, k_par, k_run, k_runN, k_fld, oO_z, k_add, k_addL, k_sub, k_mul, k_div, k_mod, k_pow, k_neg, k_lt, k_le, k_gt, k_ge, k_eqI, k_neI, k_int, k_intB, k_abs, k_lenL, k_lenT, k_lenC, k_tru, k_tupL, k_tupT, k_items_l, k_items_t, k_rng1, k_ixL, k_ixT, k_ixC, k_fldD, ok_nox, ok_ok, ok_bind, List.set_cons_zero, List.set_cons_succ, startS, startN, List.map_cons, List.map_nil, List.cons_append, List.nil_append, List.append_nil, List.length_cons, List.length_nil, List.replicate, Nat.reduceSub, Nat.reduceAdd, Nat.reduceLeDiff, Nat.zero_add, true_and, and_true, false_implies, true_implies, implies_true, forall_const, reduceCtorEq, Bool.not_true, Bool.not_false, Bool.not_eq_true', $ls,*]))
set_option Elab.async false
set_option linter.all false
set_option maxRecDepth 100000
open M PySem L2
def nxt (steps : List T3) (s b : Int) : List Int := (steps.filter fun e => decide (e.1 = s ∧ e.2.1 = b)).map (·.2.2)
def getTu (o : Option D) : List D := match o with | some (.tup xs) => xs | _ => []
def mvStep (z : List (List Key) × List D) (e : T3) : List (List Key) × List D :=
  putL z.1 z.2 [.inl e.1, .inl e.2.1] (.tup (getTu (getL z.1 z.2 [.inl e.1, .inl e.2.1]) ++ [.int e.2.2]))
def mvs (steps : List T3) : List (List Key) × List D := steps.foldl mvStep ([], [])
def mvD (steps : List T3) : D := .dit (mvs steps).1 (mvs steps).2
def supO (size : Int) (steps : List T3) (starts : List Int) : D := .obj 3 [.int size, .tup (steps.map tD), .tup (starts.map .int), mvD steps]
theorem su_0 {size : Int} {steps : List T3} {starts : List Int} : fldD 3 0 (supO size steps starts) = .ok (.int size) := rfl
theorem su_1 {size : Int} {steps : List T3} {starts : List Int} : fldD 3 1 (supO size steps starts) = .ok (.tup (steps.map tD)) := rfl
theorem su_2 {size : Int} {steps : List T3} {starts : List Int} : fldD 3 2 (supO size steps starts) = .ok (.tup (starts.map .int)) := rfl
theorem su_3 {size : Int} {steps : List T3} {starts : List Int} : fldD 3 3 (supO size steps starts) = .ok (mvD steps) := rfl
theorem su_o {size : Int} {steps : List T3} {starts : List Int} : (supO size steps starts).isObj 3 = true := rfl
theorem mvs_snoc (xs : List T3) (e : T3) : mvs (xs ++ [e]) = mvStep (mvs xs) e := by unfold mvs; rw [List.foldl_append]; rfl
theorem nxt_snoc (xs : List T3) (e : T3) (s b : Int) : nxt (xs ++ [e]) s b = nxt xs s b ++ (if e.1 = s ∧ e.2.1 = b then [e.2.2] else []) := by
  unfold nxt
  rw [List.filter_append, List.map_append]
  by_cases h : e.1 = s ∧ e.2.1 = b <;> simp [h]
theorem getL_put {κ : Type} [DecidableEq κ] {q q' : κ} {d : D} : ∀ {ks : List κ} {ds : List D}, ks.length = ds.length → getL (putL ks ds q d).1 (putL ks ds q d).2 q' = if q = q' then some d else getL ks ds q'
  | [], [], _ => by
    show getL [q] [d] q' = _
    simp only [getL]
  | [], _ :: _, h => by simp at h
  | _ :: _, [], h => by simp at h
  | x :: ks, y :: ds, h => by
    have ih := getL_put (q := q) (q' := q') (d := d) (ks := ks) (ds := ds) (by simpa using h)
    unfold putL at ih ⊢
    rw [List.idxOf?_cons]
    by_cases hx : x = q
    · subst hx
      simp only [beq_self_eq_true, if_true]
      show getL (x :: ks) (d :: ds) q' = _
      simp only [getL]
      by_cases h2 : x = q' <;> simp [h2]
    · have hb : (x == q) = false := beq_eq_false_iff_ne.mpr hx
      rw [hb]
      simp only [Bool.false_eq_true, if_false]
      cases hi : ks.idxOf? q with
      | some i =>
        rw [hi] at ih
        simp only [Option.map_some]
        show getL (x :: ks) (y :: ds.set i d) q' = _
        simp only [getL]
        dsimp only at ih
        rw [ih]
        by_cases h2 : x = q'
        · subst h2; rw [if_pos rfl, if_neg (fun z => hx z.symm), if_pos rfl]
        · rw [if_neg h2, if_neg h2]
      | none =>
        rw [hi] at ih
        simp only [Option.map_none]
        show getL (x :: (ks ++ [q])) (y :: (ds ++ [d])) q' = _
        simp only [getL]
        dsimp only at ih
        rw [ih]
        by_cases h2 : x = q'
        · subst h2; rw [if_pos rfl, if_neg (fun z => hx z.symm), if_pos rfl]
        · rw [if_neg h2, if_neg h2]
theorem mvs_len : ∀ xs : List T3, (mvs xs).1.length = (mvs xs).2.length := rev_ind rfl fun xs e ih => by rw [mvs_snoc]; exact putL_len ih
theorem mvs_nd : ∀ xs : List T3, (mvs xs).1.Nodup := rev_ind List.nodup_nil fun xs e ih => by rw [mvs_snoc]; exact putL_nodup ih
theorem mvs_le : ∀ xs : List T3, (mvs xs).1.length ≤ xs.length := rev_ind (Nat.le_refl _) fun xs e ih => by
  rw [mvs_snoc]
  have := putL_le (ks := (mvs xs).1) (ds := (mvs xs).2) (q := [Sum.inl e.1, Sum.inl e.2.1]) (d := .tup (getTu (getL (mvs xs).1 (mvs xs).2 [.inl e.1, .inl e.2.1]) ++ [.int e.2.2]))
  rw [List.length_append]
  unfold mvStep
  simp only [List.length_cons, List.length_nil]
  omega
theorem get_mvs (s b : Int) : ∀ xs : List T3, getL (mvs xs).1 (mvs xs).2 [.inl s, .inl b] = if nxt xs s b = [] then none else some (.tup ((nxt xs s b).map .int)) :=
  rev_ind rfl fun xs e ih => by
    rw [mvs_snoc, nxt_snoc]
    unfold mvStep
    rw [getL_put (mvs_len xs)]
    by_cases h : e.1 = s ∧ e.2.1 = b
    · obtain ⟨rfl, rfl⟩ := h
      have hne : nxt xs e.1 e.2.1 ++ [e.2.2] ≠ [] := by simp
      rw [if_pos rfl, ih]
      simp only [and_self, if_true]
      rw [if_neg hne]
      by_cases h2 : nxt xs e.1 e.2.1 = []
      · rw [if_pos h2, h2]; rfl
      · rw [if_neg h2, List.map_append]; rfl
    · rw [if_neg, if_neg h, List.append_nil, ih]
      intro z
      apply h
      simpa using z
theorem getOr_mv {steps : List T3} {s b : Int} : getOr (mvD steps) (.tup [.int s, .int b]) (.tup []) = .ok (.tup ((nxt steps s b).map .int)) := by
  unfold getOr mvD dlook
  simp only [keyT_2, Option.map_some]
  rw [get_mvs]
  by_cases h : nxt steps s b = []
  · rw [if_pos h, h]; rfl
  · rw [if_neg h]
theorem mv_isD {steps : List T3} : isDct (mvD steps) = true := rfl
theorem p_moves {steps : List T3} (hl : steps.length ≤ 5000) : d_moves_of [.tup (steps.map tD)] = .ok (mvD steps) := by
  have hs := size_ge
  refine Ok.eq ?_
  unfold d_moves_of m_moves_of
  rw [ok_nox]
  refine k_runT ?_
  simp? only []
  refine for_typed tD (fun done S => ∃ a b c, S = [(some (Sl.mk false (.tup (steps.map tD)))), (some (Sl.mk true (mvD done))), a, b, c]) steps _ ⟨none, none, none, rfl⟩ ?_ ?_
  · rintro done x rest S e ⟨a, b, c, rfl⟩
    have hd : done.length < steps.length := by rw [e, List.length_append, List.length_cons]; omega
    simp? only [k_gT3, mv_isD, getOr_mv]
    have hn : (nxt done x.1 x.2.1).length ≤ done.length := by unfold nxt; rw [List.length_map]; exact List.length_filter_le ..
    refine ⟨by omega, ?_⟩
    unfold mvD
    simp? only []
    refine ⟨⟨mvs_nd done, Nat.lt_of_le_of_lt (mvs_le done) (by omega)⟩, (some (Sl.mk false (.int x.1))), (some (Sl.mk false (.int x.2.1))), (some (Sl.mk false (.int x.2.2))), ?_⟩
    rw [mvs_snoc]
    unfold mvStep
    rw [get_mvs]
    by_cases h2 : nxt done x.1 x.2.1 = []
    · rw [if_pos h2, h2]; rfl
    · rw [if_neg h2]; rfl
  · rintro S ⟨a, b, c, rfl⟩
    simp? only []
    exact ⟨_, rfl, rfl⟩
theorem nxt_mem {steps : List T3} {s b x : Int} : x ∈ nxt steps s b ↔ (s, b, x) ∈ steps := by
  unfold nxt
  simp only [List.mem_map, List.mem_filter, decide_eq_true_eq]
  constructor
  · rintro ⟨e, ⟨he, rfl, rfl⟩, rfl⟩; exact he
  · intro h; exact ⟨_, ⟨h, rfl, rfl⟩, rfl⟩
structure SupB (size : Int) (steps : List T3) (starts : List Int) : Prop where
  s1 : 1 ≤ size
  s2 : size ≤ 110
  st0 : starts ≠ []
  stS : starts.Pairwise (· < ·)
  stB : ∀ s ∈ starts, 0 ≤ s ∧ s < size
  tS : steps.Pairwise tlt
  tB : ∀ e ∈ steps, (0 ≤ e.1 ∧ e.1 < size) ∧ (e.2.1 = 0 ∨ e.2.1 = 1) ∧ (0 ≤ e.2.2 ∧ e.2.2 < size)
  tL : steps.length ≤ 300
  tA : ∀ s, 0 ≤ s → s < size → ∃ e ∈ steps, e.1 = s
structure SupV (size : Int) (steps : List T3) (starts : List Int) : Prop where
  s1 : 1 ≤ size
  s2 : size ≤ 40
  st0 : starts ≠ []
  stS : starts.Pairwise (· < ·)
  stB : ∀ s ∈ starts, 0 ≤ s ∧ s < size
  tS : steps.Pairwise tlt
  tB : ∀ e ∈ steps, (0 ≤ e.1 ∧ e.1 < size) ∧ (e.2.1 = 0 ∨ e.2.1 = 1) ∧ (0 ≤ e.2.2 ∧ e.2.2 < size)
  tL : steps.length < 60
  tA : ∀ s, 0 ≤ s → s < size → ∃ e ∈ steps, e.1 = s
theorem SupV.big {size : Int} {steps : List T3} {starts : List Int} (V : SupV size steps starts) : SupB size steps starts := by
  obtain ⟨a, b, c, d, e, f, g, h, i⟩ := V
  exact ⟨a, by omega, c, d, e, f, g, by omega, i⟩
theorem nin01 {b : Int} (h : b = 0 ∨ b = 1) : notInD (.int b) (.tup [.int 0, .int 1]) = .ok (.bl false) := by rcases h with rfl | rfl <;> rfl
theorem strict_le {l : List Int} {n : Int} (h : l.Pairwise (· < ·)) (hb : ∀ s ∈ l, 0 ≤ s ∧ s < n) : (l.length : Int) ≤ max n 0 := by
  have : l.length ≤ ((List.range n.toNat).map fun (i : Nat) => (i : Int)).length := nd_len_le (strict_nd h) fun x hx => by
    have := hb x hx
    refine List.mem_map.mpr ⟨x.toNat, List.mem_range.mpr (by omega), by omega⟩
  rw [List.length_map, List.length_range] at this
  omega
theorem keys_int : ∀ l : List Int, keysD (l.map .int) = some (l.map .inl)
  | [] => rfl
  | x :: l => by rw [List.map_cons, keysD, keys_int l]; rfl
theorem p_checkB {size : Int} {steps : List T3} {starts : List Int} (V : SupB size steps starts) : d_check_supply [.int size, .tup (steps.map tD), .tup (starts.map .int)] = .ok .non := by
  have hs := size_ge
  obtain ⟨s1, s2, st0, stS, stB, tS, tB, tL, tA⟩ := V
  have hne : steps ≠ [] := by
    obtain ⟨e, he, _⟩ := tA 0 (by omega) (by omega)
    exact List.ne_nil_of_mem he
  have hl := strict_le stS stB
  have c1 : decide (1 ≤ size) = true := decide_eq_true s1
  have c2 : decide (size ≤ 5000) = true := decide_eq_true (by omega)
  have e1 := lenSet_i (strict_nd stS) (by omega)
  have e2 := lenSet_T (tstrict_nd tS) tL hne
  have c3 : decide ((starts.length : Int) < starts.length) = false := decide_eq_false (by omega)
  have c4 : decide ((steps.length : Int) < steps.length) = false := decide_eq_false (by omega)
  obtain ⟨x0, h0⟩ := atI_lt (xs := starts) (i := 0) (by omega) (by have := List.length_pos_iff.mpr st0; omega)
  obtain ⟨x1, h1, m1⟩ := atI_last st0
  have b0 := stB x0 (atI_mem h0)
  have b1 := stB x1 m1
  have c5 : decide (x0 < 0) = false := decide_eq_false (by omega)
  have c6 : decide (size ≤ x1) = false := decide_eq_false (by omega)
  have he : ((starts.map D.int).isEmpty) = false := by cases starts with | nil => exact absurd rfl st0 | cons a b => rfl
  have a0 : L2.atI (starts.map D.int) 0 = some (.int x0) := by rw [atI_map, h0]; rfl
  have a1 : L2.atI (starts.map D.int) (-1) = some (.int x1) := by rw [atI_map, h1]; rfl
  refine Ok.eq ?_
  unfold d_check_supply m_check_supply
  rw [k_run]
  simp? only [gv_MOST_STATES, c1, c2, e1, e2, c3, c4, he, a0, a1, c5, c6]
  refine for_typed tD (fun _ S => ∃ a b c, S = [(some (Sl.mk false (.int size))), (some (Sl.mk false (.tup (steps.map tD)))), (some (Sl.mk false (.tup (starts.map .int)))), a, b, c]) steps _ ⟨none, none, none, rfl⟩ ?_ ?_
  · rintro done x rest S e ⟨a, b, c, rfl⟩
    obtain ⟨⟨u0, u1⟩, hb, v0, v1⟩ := tB x (by rw [e]; simp)
    have d1 : decide (0 ≤ x.1) = true := decide_eq_true u0
    have d2 : decide (x.1 < size) = true := decide_eq_true u1
    have d3 : decide (0 ≤ x.2.2) = true := decide_eq_true v0
    have d4 : decide (x.2.2 < size) = true := decide_eq_true v1
    simp? only [k_gT3, d1, d2, d3, d4, nin01 hb]
    exact ⟨_, _, _, rfl⟩
  · rintro S ⟨a, b, c, rfl⟩
    have hn : size.toNat ≤ (nubG (steps.map fun e => (Sum.inl e.1 : Key))).length := by
      have nd : ((List.range size.toNat).map fun (i : Nat) => (Sum.inl (i : Int) : Key)).Nodup := nd_map _ List.nodup_range fun a _ b _ h => by
        injection h with h; omega
      have := nd_len_le nd (b := nubG (steps.map fun e => (Sum.inl e.1 : Key))) fun x hx => by
        obtain ⟨i, hi, rfl⟩ := List.mem_map.mp hx
        have hi := List.mem_range.mp hi
        obtain ⟨e, he, h⟩ := tA i (by omega) (by omega)
        exact (nubG_mem _ _).mpr (List.mem_map.mpr ⟨e, he, by rw [h]⟩)
      simpa using this
    have c7 : decide (((nubG (steps.map fun e => (Sum.inl e.1 : Key))).length : Int) < size) = false := decide_eq_false (by omega)
    have L : lenScK (fun S => (eV 1) S >>= itemsD) (gT 3 (gsC (gN 3) (gsC (gN 4) (gsC (gN 5) gsN)))) tY (eV 3) [3, 4, 5] [(some (Sl.mk false (.int size))), (some (Sl.mk false (.tup (steps.map tD)))), (some (Sl.mk false (.tup (starts.map .int)))), a, b, c] = .ok (.int (nubG (steps.map fun e => (Sum.inl e.1 : Key))).length) := by
      have z1 := lc_typed (ga := gT 3 (gsC (gN 3) (gsC (gN 4) (gsC (gN 5) gsN)))) (t := tY) (fe := eV 3) (S := wipeS [(some (Sl.mk false (.int size))), (some (Sl.mk false (.tup (steps.map tD)))), (some (Sl.mk false (.tup (starts.map .int)))), a, b, c] [3, 4, 5]) tD (fun _ => true) (fun e => .int e.1) steps (fun x hx => by simp? only [k_gT3])
      rw [filter_true fun _ _ => rfl] at z1
      unfold lenScK
      show (if (steps.map tD).length < 900 then _ else _) = _
      rw [if_pos (by rw [List.length_map]; omega), z1, R.ok_bind]
      have : (steps.map fun e => D.int e.1) = (steps.map (·.1)).map .int := by rw [List.map_map]; rfl
      rw [this, keys_int, List.map_map]
      rfl
    simp? only [L, c7]
theorem p_SupplyB {size : Int} {raw : List T3} {begun : List Int} {t1 t2 : Bool} (V : SupB size (raw.mergeSort tle) (begun.mergeSort ile)) : d_Supply [.int size, seqD t1 (raw.map tD), seqD t2 (begun.map .int)] = .ok (supO size (raw.mergeSort tle) (begun.mergeSort ile)) := by
  have hs := size_ge
  have hl := V.tL
  rw [List.length_mergeSort] at hl
  refine Ok.eq ?_
  unfold d_Supply m_Supply
  rw [k_runN]
  have pc := p_checkB V
  have pm := p_moves (steps := raw.mergeSort tle) (by rw [List.length_mergeSort]; omega)
  simp? only []
  refine k_lcM tD tD raw ?_ (by omega) ?_ ?_
  · simp? only []
  · intro x hx
    simp? only [k_tupD]
  · simp? only [k_srtT, pc, pm]
    rfl
set_option Elab.async false
set_option linter.all false
set_option maxRecDepth 100000
open M PySem L2
def aft (steps : List T3) (S : List Int) (b : Int) : List Int := srtN (S.flatMap fun s => nxt steps s b)
theorem aft_mem {steps : List T3} {S : List Int} {b x : Int} : x ∈ aft steps S b ↔ ∃ s ∈ S, (s, b, x) ∈ steps := by
  unfold aft
  rw [srtN_mem, List.mem_flatMap]
  simp only [nxt_mem]
theorem nxt_strict {steps : List T3} (h : steps.Pairwise tlt) (s b : Int) : (nxt steps s b).Pairwise (· < ·) := by
  unfold nxt
  rw [List.pairwise_map]
  refine List.Pairwise.imp_of_mem ?_ (h.filter _)
  intro x y hx hy hlt
  simp only [List.mem_filter, decide_eq_true_eq] at hx hy
  unfold tlt at hlt
  omega
theorem srtEnd_int {l : List Int} (h : l.length ≤ 900) (h2 : (nubI l).length < 64) : srtEnd (l.map .int) = .ok (.lst ((srtN l).map .int)) := by
  unfold srtEnd
  rw [intsD_map]
  dsimp only
  rw [if_pos ⟨h, h2⟩]
theorem aft_congr {a b : List T3} (h : ∀ e, e ∈ a ↔ e ∈ b) (S : List Int) (t : Int) : aft a S t = aft b S t := srtN_congr fun x => by
  have := @aft_mem a S t x; have := @aft_mem b S t x
  simp only [List.mem_flatMap, nxt_mem, h]
theorem aft_sort (raw : List T3) (S : List Int) (b : Int) : aft (raw.mergeSort tle) S b = aft raw S b := aft_congr (fun e => List.mem_mergeSort) S b
set_option Elab.async false
set_option linter.all false
set_option maxRecDepth 100000
open M PySem L2
theorem p_num (ns : List Int) (at_ : Int) (h63 : ns.length ≤ 63) (h0 : 0 ≤ at_) (h1 : at_ < 200) : ∃ v : Int, 0 ≤ v ∧ d__law_number [.scr ns, .int at_] = .ok (.int v) := by
  have hs := size_ge
  suffices h : Ok (d__law_number [.scr ns, .int at_]) fun d => ∃ v : Int, 0 ≤ v ∧ d = .int v by
    obtain ⟨d, e, v, h1, rfl⟩ := h
    exact ⟨v, h1, e⟩
  have abs0 : ∀ z : Int, 0 ≤ (if z < 0 then -z else z) := fun z => by split <;> omega
  have tl : ∀ (r m : Int) (QS : Fl × M.Env → Prop), 0 ≤ r → (∀ r' o, 0 ≤ r' → QS (.nx, [(some (Sl.mk false (.scr ns))), (some (Sl.mk false (.int at_))), (some (Sl.mk false (.int r'))), (some (Sl.mk false (.int m))), o])) →
      Ok (forF (gN 4) (sSet 2 (e2 fdivD (eW 2) (eI 1000003))) (rngL 0 (at_ - ↑ns.length + 1).toNat) [(some (Sl.mk false (.scr ns))), (some (Sl.mk false (.int at_))), (some (Sl.mk false (.int r))), (some (Sl.mk false (.int m))), none]) QS := by
    intro r m QS hr q
    refine for_inv (fun i S => ∃ r' o, 0 ≤ r' ∧ S = [(some (Sl.mk false (.scr ns))), (some (Sl.mk false (.int at_))), (some (Sl.mk false (.int r'))), (some (Sl.mk false (.int m))), o]) _ 0 _ ⟨r, none, hr, rfl⟩ ?_ ?_
    · rintro i d S hd ⟨r', o, hr', rfl⟩
      obtain ⟨hi, rfl⟩ := rngL_get hd
      simp? only []
      exact ⟨div_c (by omega) (by omega), r' / 1000003, ⟨_, Int.ediv_nonneg hr' (by omega), rfl⟩⟩
    · rintro S ⟨r', o, hr', rfl⟩
      exact q r' o hr'
  unfold d__law_number m__law_number
  rw [ok_nox, k_run]
  simp? only []
  refine ⟨fun h => ?_, fun h => ?_⟩
  · obtain ⟨d, hd⟩ := atI_lt (xs := ns) h0 (of_decide_eq_true h)
    exact ⟨d, hd, _, abs0 d, rfl⟩
  have hl := of_decide_eq_false h
  have m7 := fun x : Int => mod_b x (m := 10007) (by omega)
  refine ⟨fun h => ?_, fun h => ?_⟩
  · obtain ⟨d, hd, _⟩ := atI_last (xs := ns) (fun e => by subst e; simp at h)
    refine ⟨d, hd, by omega, mul_r (by omega) (by omega), mul_r (by omega) (by omega), by omega, by omega, ?_⟩
    refine tl _ _ _ (abs0 d) fun r' o hr' => ?_
    have b1 := m7 ((if d < 0 then -d else d) % 10007 * 31 + at_ * 17 + 5)
    generalize ((if d < 0 then -d else d) % 10007 * 31 + at_ * 17 + 5) % 10007 = m at b1 ⊢
    simp? only []
    refine ⟨fun _ => ⟨by omega, _, (mod_b r' (by omega)).1, rfl⟩, fun _ => ⟨mul_r (by omega) (by omega), by omega, ?_⟩⟩
    have b2 := mod_b (m * m + at_) (m := 9973) (by omega)
    generalize (m * m + at_) % 9973 = y at b2 ⊢
    exact ⟨mul_r (by omega) (by omega), by omega, _, (mod_b _ (by omega)).1, rfl⟩
  · refine ⟨by omega, mul_r (by omega) (by omega), mul_r (by omega) (by omega), by omega, by omega, ?_⟩
    refine tl _ _ _ (Int.le_refl 0) fun r' o hr' => ?_
    have b1 := m7 (0 % 10007 * 31 + at_ * 17 + 5)
    generalize (0 % 10007 * 31 + at_ * 17 + 5) % 10007 = m at b1 ⊢
    simp? only []
    refine ⟨fun _ => ⟨by omega, _, (mod_b r' (by omega)).1, rfl⟩, fun _ => ⟨mul_r (by omega) (by omega), by omega, ?_⟩⟩
    have b2 := mod_b (m * m + at_) (m := 9973) (by omega)
    generalize (m * m + at_) % 9973 = y at b2 ⊢
    exact ⟨mul_r (by omega) (by omega), by omega, _, (mod_b _ (by omega)).1, rfl⟩
structure StpB (size : Int) (L : List T3) (k : Int) : Prop where
  nd : L.Nodup
  bd : ∀ e ∈ L, (0 ≤ e.1 ∧ e.1 < k) ∧ (e.2.1 = 0 ∨ e.2.1 = 1) ∧ (0 ≤ e.2.2 ∧ e.2.2 < size)
  ev : ∀ s, 0 ≤ s → s < k → ∃ e ∈ L, e.1 = s
theorem k_neBB {a b : Bool} {Q : D → Prop} : Ok (neD (.bl a) (.bl b)) Q ↔ Q (.bl (a != b)) := by
  have e : neD (.bl a) (.bl b) = .ok (.bl (a != b)) := by cases a <;> cases b <;> rfl
  rw [e, ok_ok]
theorem k_intB {b : Bool} {Q : D → Prop} : Ok (intD (.bl b)) Q ↔ Q (.int (if b then 1 else 0)) := by
  have e : intD (.bl b) = .ok (.int (if b then 1 else 0)) := by cases b <;> rfl
  rw [e, ok_ok]
theorem p_machine (ns : List Int) (first size turns : Int) (flip : Bool) (h63 : ns.length ≤ 63) (f0 : 0 ≤ first) (f1 : first < 100) (s0 : 1 ≤ size) (s1 : size ≤ 6) (t0 : 1 ≤ turns) (t1 : turns ≤ 3) :
    ∃ L, StpB size L size ∧ L.length ≤ 18 ∧ d__law_machine [.scr ns, .int first, .int size, .int turns, .bl flip] = .ok (.lst (L.map tD)) := by
  have hs := size_ge
  suffices h : Ok (d__law_machine [.scr ns, .int first, .int size, .int turns, .bl flip]) fun d => ∃ L, StpB size L size ∧ L.length ≤ 18 ∧ d = .lst (L.map tD) by
    obtain ⟨d, e, L, h1, h2, rfl⟩ := h
    exact ⟨L, h1, h2, e⟩
  unfold d__law_machine m__law_machine
  rw [ok_nox, k_run]
  simp? only []
  refine ⟨by omega, ?_⟩
  refine for_inv (fun i S => ∃ L a b c d e, StpB size L i ∧ (L.length : Int) ≤ i * turns ∧ S = [(some (Sl.mk false (.scr ns))), (some (Sl.mk false (.int first))), (some (Sl.mk false (.int size))), (some (Sl.mk false (.int turns))), (some (Sl.mk false (.bl flip))), (some (Sl.mk true (.lst (L.map tD)))), a, b, c, d, e]) _ 0 _ ⟨[], none, none, none, none, none, ⟨List.nodup_nil, by simp, fun s a b => by omega⟩, by simp, rfl⟩ ?_ ?_
  · rintro i d S hd ⟨L, a, b, c, d', e, B, hl, rfl⟩
    obtain ⟨hi, rfl⟩ := rngL_get hd
    rw [Nat.zero_add] at B hl
    obtain ⟨v, v0, ev⟩ := p_num ns (first + (0 + (i : Int))) h63 (by omega) (by omega)
    simp? only [ev]
    refine ⟨by omega, ?_⟩
    obtain ⟨K, hK⟩ : ∃ K, K = (i : Int) * turns := ⟨_, rfl⟩
    refine for_inv (fun j S => ∃ L r c d e, L.Nodup ∧ (∀ e ∈ L, (0 ≤ e.1 ∧ e.1 < (i : Int) + 1) ∧ (e.2.1 = 0 ∨ e.2.1 = 1) ∧ (0 ≤ e.2.2 ∧ e.2.2 < size)) ∧ (∀ s, 0 ≤ s → s < (i : Int) → ∃ e ∈ L, e.1 = s) ∧ (1 ≤ j → ∃ e ∈ L, e.1 = (i : Int)) ∧ (L.length : Int) ≤ K + j ∧ 0 ≤ r ∧
      S = [(some (Sl.mk false (.scr ns))), (some (Sl.mk false (.int first))), (some (Sl.mk false (.int size))), (some (Sl.mk false (.int turns))), (some (Sl.mk false (.bl flip))), (some (Sl.mk true (.lst (L.map tD)))), (some (Sl.mk false (.int (0 + (i : Int))))), (some (Sl.mk false (.int r))), c, d, e]) _ 0 _ ⟨L, v, c, d', e, B.nd, fun e he => ?_, B.ev, fun z => absurd z (by omega), by omega, v0, rfl⟩ ?_ ?_
    · have := B.bd e he; omega
    · rintro j d S hd ⟨L, r, c, d', e, n1, n2, n3, n4, n5, r0, rfl⟩
      obtain ⟨hj, rfl⟩ := rngL_get hd
      rw [Nat.zero_add] at n4 n5
      have ij : 0 + (j : Int) = j := by omega
      have lb : L.length < sizeLine := by have := Int.mul_le_mul (show (i : Int) ≤ 6 by omega) t1 (by omega) (by omega); omega
      simp? only [k_neBB, k_intB, ij]
      refine ⟨fun h => ?x, fun h => ⟨fun h2 => ?y, fun h2 => ?z⟩⟩
      case z =>
        have := of_decide_eq_false h
        exact ⟨L, r, _, _, _, n1, n2, n3, n4 (by omega), by omega, r0, rfl⟩
      all_goals
        have q1 := mod_b (r % (3 * size) / 3 + (0 + (i : Int)) + 1) (m := size) (by omega)
        have q2 : ∀ b : Bool, (if b = true then (1 : Int) else 0) = 0 ∨ (if b = true then (1 : Int) else 0) = 1 := fun b => by cases b <;> simp
        have q3 := q2 (decide (0 < r % (3 * size) % 3) != flip)
        have q4 : 0 ≤ r / (3 * size) := Int.ediv_nonneg r0 (by omega)
        generalize (r % (3 * size) / 3 + (0 + (i : Int)) + 1) % size = u at q1 ⊢
        generalize (if (decide (0 < r % (3 * size) % 3) != flip) = true then (1 : Int) else 0) = t at q3 ⊢
        generalize r / (3 * size) = r' at q4 ⊢
        refine ⟨mul_l (by omega) (by omega), by omega, mul_l (by omega) (by omega), div_c (by omega) (by omega), by omega, div_c (by omega) (by omega), by omega, ?_⟩
        have et : D.tup [.int (0 + (i : Int)), .int t, .int u] = tD ((i : Int), t, u) := by rw [Int.zero_add]; rfl
        rw [et, k_ninT]
        simp? only []
        refine ⟨fun g => ⟨lb, L ++ [((i : Int), t, u)], r', _, _, _, ?_, ?_, ?_, ⟨_, List.mem_append_right _ (List.mem_singleton.mpr rfl), rfl⟩, ?_, q4, by rw [List.map_append]; rfl⟩, fun g => ⟨L, r', _, _, _, n1, n2, n3, ⟨_, by simpa using g, rfl⟩, by omega, q4, rfl⟩⟩
        · have g' : ((i : Int), t, u) ∉ L := by simpa using g
          exact List.nodup_append.mpr ⟨n1, by simp, fun a ha b hb => by rw [List.mem_singleton] at hb; subst hb; exact fun z => g' (z ▸ ha)⟩
        · intro e he
          rcases List.mem_append.mp he with he | he
          · exact n2 e he
          · rw [List.mem_singleton.mp he]; exact ⟨⟨by omega, by omega⟩, q3, q1⟩
        · intro s a b
          obtain ⟨e, he, h⟩ := n3 s a b
          exact ⟨e, List.mem_append_left _ he, h⟩
        · rw [List.length_append]; simp; omega
    · rintro S ⟨L, r, c, d', e, n1, n2, n3, n4, n5, r0, rfl⟩
      rw [rngL_len, Nat.zero_add] at n4 n5
      refine ⟨L, _, _, _, _, _, ⟨n1, fun e he => ?_, fun s a b => ?_⟩, ?_, rfl⟩
      · have := n2 e he; omega
      · by_cases h : s < i
        · exact n3 s a h
        · obtain rfl : s = i := by omega
          exact n4 (by omega)
      · have : ((i + 1 : Nat) : Int) * turns = K + turns := by rw [hK, show ((i + 1 : Nat) : Int) = i + 1 by omega, Int.add_mul, Int.one_mul]
        omega
  · rintro S ⟨L, a, b, c, d, e, B, hl, rfl⟩
    rw [rngL_len, Nat.zero_add] at B hl
    have e1 : ((size.toNat : Nat) : Int) = size := by omega
    rw [e1] at B hl
    have h18 : size * turns ≤ 18 := by
      have := Int.mul_le_mul s1 t1 (by omega) (by omega)
      omega
    simp? only [k_srtT]
    have pm := List.mergeSort_perm L tle
    exact ⟨L.mergeSort tle, ⟨pm.nodup_iff.mpr B.nd, fun e he => B.bd e (pm.mem_iff.mp he), fun s a b => by
      obtain ⟨e, he, h⟩ := B.ev s a b
      exact ⟨e, pm.mem_iff.mpr he, h⟩⟩, by rw [pm.length_eq]; omega, rfl⟩
theorem k_inI2 {a b c : Int} {Q : D → Prop} : Ok (inD (.int a) (.tup [.int b, .int c])) Q ↔ Q (.bl (decide (a = b ∨ a = c))) := by
  have := k_inIT (x := a) (l := [b, c]) (Q := Q)
  simpa only [List.map_cons, List.map_nil, List.mem_cons, List.not_mem_nil, or_false] using this
theorem StpB.join {size : Int} {L T : List T3} {i : Int} (B : StpB size L i) (i0 : 0 ≤ i) (hT : ∀ e ∈ T, e.1 = i ∧ (e.2.1 = 0 ∨ e.2.1 = 1) ∧ (0 ≤ e.2.2 ∧ e.2.2 < size)) (nd : T.Nodup) (ne : T ≠ []) : StpB size (L ++ T) (i + 1) := by
  refine ⟨List.nodup_append.mpr ⟨B.nd, nd, fun a ha b hb z => ?_⟩, fun e he => ?_, fun s s0 s1 => ?_⟩
  · subst z
    have := (B.bd a ha).1.2
    have := (hT a hb).1
    omega
  · rcases List.mem_append.mp he with he | he
    · have := B.bd e he; omega
    · obtain ⟨a, b, c⟩ := hT e he
      exact ⟨by omega, b, c⟩
  · by_cases h : s < i
    · obtain ⟨e, he, z⟩ := B.ev s s0 h
      exact ⟨e, List.mem_append_left _ he, z⟩
    · obtain ⟨e, he⟩ := List.exists_mem_of_ne_nil _ ne
      exact ⟨e, List.mem_append_right _ he, by have := (hT e he).1; omega⟩
theorem p_ringR {v size : Int} (v0 : 0 ≤ v) (s0 : 1 ≤ size) (s1 : size ≤ 100) :
    ∃ L, StpB size L size ∧ (L.length : Int) ≤ 2 * size ∧ (∀ e ∈ L, e.2.2 = (e.1 + 1) % size) ∧ d__law_ring [.int v, .int size] = .ok (.lst (L.map tD)) := by
  have hs := size_ge
  suffices h : Ok (d__law_ring [.int v, .int size]) fun d => ∃ L, StpB size L size ∧ (L.length : Int) ≤ 2 * size ∧ (∀ e ∈ L, e.2.2 = (e.1 + 1) % size) ∧ d = .lst (L.map tD) by
    obtain ⟨d, e, L, h1, h2, h3, rfl⟩ := h
    exact ⟨L, h1, h2, h3, e⟩
  unfold d__law_ring m__law_ring
  rw [ok_nox, k_run]
  simp? only []
  refine ⟨by omega, ?_⟩
  refine for_inv (fun i S => ∃ L r a b c, StpB size L i ∧ (L.length : Int) ≤ 2 * i ∧ (∀ e ∈ L, e.2.2 = (e.1 + 1) % size) ∧ 0 ≤ r ∧ S = [(some (Sl.mk false (.int v))), (some (Sl.mk false (.int size))), (some (Sl.mk true (.lst (L.map tD)))), (some (Sl.mk false (.int r))), a, b, c]) _ 0 _ ⟨[], v, none, none, none, ⟨List.nodup_nil, by simp, fun s a b => by omega⟩, by simp, by simp, v0, rfl⟩ ?_ ?_
  · rintro i d S hd ⟨L, r, a, b, c, B, hl, rr, r0, rfl⟩
    obtain ⟨hi, rfl⟩ := rngL_get hd
    rw [Nat.zero_add] at B hl
    rw [k_gN]
    simp only [List.set_cons_succ, List.set_cons_zero]
    refine seq_cut (fun S => ∃ g : Int, (g = 0 ∨ g = 1 ∨ g = 2) ∧ S = [(some (Sl.mk false (.int v))), (some (Sl.mk false (.int size))), (some (Sl.mk true (.lst (L.map tD)))), (some (Sl.mk false (.int r))), (some (Sl.mk false (.int (0 + (i : Int))))), (some (Sl.mk false (.int g))), c]) ?_ ?_
    · simp? only []
      have q : (0 + (i : Int)) % 4 = 0 ∨ (0 + (i : Int)) % 4 = 1 ∨ (0 + (i : Int)) % 4 = 2 ∨ (0 + (i : Int)) % 4 = 3 := by omega
      rcases q with q | q | q | q <;> rw [q]
      · exact ⟨by omega, _, rfl, 1, by simp, rfl⟩
      · exact ⟨by omega, _, rfl, 0, by simp, rfl⟩
      · exact ⟨by omega, _, rfl, 1, by simp, rfl⟩
      · exact ⟨by omega, _, rfl, 2, by simp, rfl⟩
    rintro S ⟨g, hg, rfl⟩
    refine seq_cut (fun S => ∃ g r : Int, (g = 0 ∨ g = 1 ∨ g = 2) ∧ 0 ≤ r ∧ S = [(some (Sl.mk false (.int v))), (some (Sl.mk false (.int size))), (some (Sl.mk true (.lst (L.map tD)))), (some (Sl.mk false (.int r))), (some (Sl.mk false (.int (0 + (i : Int))))), (some (Sl.mk false (.int g))), c]) ?_ ?_
    · simp? only []
      exact ⟨fun _ => ⟨by omega, div_c (by omega) (by omega), r % 3, r / 3, by omega, Int.ediv_nonneg r0 (by omega), rfl⟩, fun _ => ⟨g, r, hg, r0, rfl⟩⟩
    rintro S ⟨g, r, hg, r0, rfl⟩
    have q1 := mod_b (0 + (i : Int) + 1) (m := size) (by omega)
    obtain ⟨u, hu⟩ : ∃ u, u = (0 + (i : Int) + 1) % size := ⟨_, rfl⟩
    rw [← hu] at q1
    simp? only []
    refine k_lcT D.int (fun t => decide (g = t ∨ g = 2)) (fun t => tD ((i : Int), t, u)) [0, 1] ?_ (by show 2 ≤ sizeLine; omega) ?_ ?_
    · simp? only []
    · intro x hx
      simp? only [k_inI2]
      exact fun _ => ⟨by omega, by rw [← hu, Int.zero_add]; rfl⟩
    · have et : List.map (fun t => tD ((i : Int), t, u)) (List.filter (fun t => decide (g = t ∨ g = 2)) [0, 1]) = (((List.filter (fun t => decide (g = t ∨ g = 2)) [0, 1]).map fun t => ((i : Int), t, u)) : List T3).map tD := by rw [List.map_map]; rfl
      rw [et]
      have hT : (((List.filter (fun t => decide (g = t ∨ g = 2)) [0, 1]).map fun t => ((i : Int), t, u)) : List T3) = (if g = 0 ∨ g = 2 then [((i : Int), 0, u)] else []) ++ (if g = 1 ∨ g = 2 then [((i : Int), 1, u)] else []) := by
        rcases hg with rfl | rfl | rfl <;> simp
      generalize (((List.filter (fun t => decide (g = t ∨ g = 2)) [0, 1]).map fun t => ((i : Int), t, u)) : List T3) = T at hT ⊢
      have hTl : T.length ≤ 2 ∧ T ≠ [] ∧ T.Nodup ∧ ∀ e ∈ T, e.1 = (i : Int) ∧ (e.2.1 = 0 ∨ e.2.1 = 1) ∧ (0 ≤ e.2.2 ∧ e.2.2 < size) := by
        clear rr
        rcases hg with rfl | rfl | rfl <;> simp at hT <;> subst hT <;> simp <;> omega
      obtain ⟨t1, t2, t3, t4⟩ := hTl
      have t5 : ∀ e ∈ T, e.2.2 = u := by
        clear rr t4 t3 t2 t1
        rcases hg with rfl | rfl | rfl <;> simp at hT <;> subst hT <;> simp
      simp? only []
      refine ⟨_, rfl, by rw [List.length_map]; omega, L ++ T, r, _, _, _, ?_, ?_, fun e he => ?_, r0, by rw [List.map_append]⟩
      · have := B.join (by omega) t4 t3 t2
        simpa using this
      · rw [List.length_append]; omega
      · rcases List.mem_append.mp he with he | he
        · exact rr e he
        · rw [t5 e he, (t4 e he).1, hu, Int.zero_add]
  · rintro S ⟨L, r, a, b, c, B, hl, rr, r0, rfl⟩
    rw [rngL_len, Nat.zero_add] at B hl
    have e1 : ((size.toNat : Nat) : Int) = size := by omega
    rw [e1] at B hl
    simp? only []
    exact ⟨L, B, hl, rr, rfl⟩
theorem p_ring {v size : Int} (v0 : 0 ≤ v) (s0 : 1 ≤ size) (s1 : size ≤ 100) :
    ∃ L, StpB size L size ∧ (L.length : Int) ≤ 2 * size ∧ d__law_ring [.int v, .int size] = .ok (.lst (L.map tD)) := by
  obtain ⟨L, a, b, _, c⟩ := p_ringR v0 s0 s1
  exact ⟨L, a, b, c⟩
set_option Elab.async false
set_option linter.all false
set_option maxRecDepth 100000
open M PySem L2
def unT3 : List D → Option (List T3)
  | [] => some []
  | .tup [.int a, .int b, .int c] :: ds => (unT3 ds).map ((a, b, c) :: ·)
  | _ => none
theorem unT3_eq : ∀ {ds : List D} {L : List T3}, unT3 ds = some L → ds = L.map tD
  | [], L, h => by cases h; rfl
  | d :: ds, L, h => by
    unfold unT3 at h
    split at h
    · rename_i e; cases e
    · rename_i a b c ds' e
      cases e
      obtain ⟨L', h1, rfl⟩ := Option.map_eq_some_iff.mp h
      rw [unT3_eq h1]; rfl
    · cases h
def eqT3 (a b : T3) : Bool := (decide (a.1 = b.1) && decide (a.2.1 = b.2.1)) && decide (a.2.2 = b.2.2)
def ndT3 : List T3 → Bool
  | [] => true
  | x :: xs => (xs.all fun y => !eqT3 x y) && ndT3 xs
theorem ndT3_of : ∀ {L : List T3}, ndT3 L = true → L.Nodup
  | [], _ => List.nodup_nil
  | x :: xs, h => by
    simp only [ndT3, Bool.and_eq_true, List.all_eq_true] at h
    refine List.nodup_cons.mpr ⟨fun z => ?_, ndT3_of h.2⟩
    have := h.1 x z
    simp [eqT3] at this
def bdT3 (size : Int) (e : T3) : Bool := ((decide (0 ≤ e.1) && decide (e.1 < size)) && (decide (e.2.1 = 0) || decide (e.2.1 = 1))) && (decide (0 ≤ e.2.2) && decide (e.2.2 < size))
def stpOk (size : Int) (L : List T3) : Bool := ndT3 L && L.all (bdT3 size) && (List.range size.toNat).all fun s => L.any fun e => decide (e.1 = (s : Int))
theorem stpOk_of {size : Int} {L : List T3} (h : stpOk size L = true) : StpB size L size := by
  simp only [stpOk, Bool.and_eq_true, decide_eq_true_eq, List.all_eq_true, List.any_eq_true, List.mem_range] at h
  refine ⟨ndT3_of h.1.1, fun e he => by
    have := h.1.2 e he
    simp only [bdT3, Bool.and_eq_true, Bool.or_eq_true, decide_eq_true_eq] at this
    exact ⟨this.1.1, this.1.2, this.2⟩, fun s s0 s1 => ?_⟩
  obtain ⟨e, he, z⟩ := h.2 s.toNat (by omega)
  exact ⟨e, he, by omega⟩
def shareR (r : R D) : Bool := match r with
  | .ok (.tup [.int n, .lst ds]) => (match unT3 ds with
    | some L => stpOk n L && decide (1 ≤ n) && decide (n ≤ 40) && decide (L.length ≤ 80)
    | none => false)
  | _ => false
def shareOk (q p : Nat) : Bool := shareR (d__law_share [.int q, .int p])
theorem shareAt_at {p q : Nat} (h : ((List.range (p + 1)).all fun q => shareOk q p) = true) (hq : q ≤ p) : shareOk q p = true := List.all_eq_true.mp h q (List.mem_range.mpr (by omega))
theorem shareR_of {r : R D} (h : shareR r = true) : ∃ n L, StpB n L n ∧ 1 ≤ n ∧ n ≤ 40 ∧ L.length ≤ 80 ∧ r = .ok (.tup [.int n, .lst (L.map tD)]) := by
  unfold shareR at h
  split at h
  · rename_i n ds
    split at h
    · rename_i L hL
      simp only [Bool.and_eq_true, decide_eq_true_eq] at h
      exact ⟨n, L, stpOk_of h.1.1.1, h.1.1.2, h.1.2, h.2, by rw [unT3_eq hL]⟩
    · cases h
  · cases h
def shareAt (p : Nat) : Bool := (List.range (p + 1)).all fun q => shareOk q p
theorem share1 : shareAt 1 = true := by decide +kernel
theorem share2 : shareAt 2 = true := by decide +kernel
theorem share3 : shareAt 3 = true := by decide +kernel
theorem share4 : shareAt 4 = true := by decide +kernel
theorem share5 : shareAt 5 = true := by decide +kernel
theorem share6 : shareAt 6 = true := by decide +kernel
theorem share7 : shareAt 7 = true := by decide +kernel
theorem share8 : shareAt 8 = true := by decide +kernel
theorem p_lshare {q p : Int} (q0 : 0 ≤ q) (q1 : q ≤ p) (p0 : 1 ≤ p) (p1 : p ≤ 8) : ∃ n L, StpB n L n ∧ 1 ≤ n ∧ n ≤ 40 ∧ L.length ≤ 80 ∧ d__law_share [.int q, .int p] = .ok (.tup [.int n, .lst (L.map tD)]) := by
  have hp : shareAt p.toNat = true := by
    have : p.toNat = 1 ∨ p.toNat = 2 ∨ p.toNat = 3 ∨ p.toNat = 4 ∨ p.toNat = 5 ∨ p.toNat = 6 ∨ p.toNat = 7 ∨ p.toNat = 8 := by omega
    rcases this with e | e | e | e | e | e | e | e
    · rw [e]; exact share1
    · rw [e]; exact share2
    · rw [e]; exact share3
    · rw [e]; exact share4
    · rw [e]; exact share5
    · rw [e]; exact share6
    · rw [e]; exact share7
    · rw [e]; exact share8
  unfold shareAt at hp
  have h := shareAt_at hp (q := q.toNat) (by omega)
  unfold shareOk at h
  rw [show ((q.toNat : Nat) : Int) = q by omega, show ((p.toNat : Nat) : Int) = p by omega] at h
  exact shareR_of h
theorem p_begins {v size : Int} (s0 : 1 ≤ size) : ∃ bg : List Int, bg ≠ [] ∧ bg.length ≤ 2 ∧ bg.Pairwise (· < ·) ∧ (∀ x ∈ bg, 0 ≤ x ∧ x < size) ∧ d__law_begins [.int v, .int size] = .ok (.tup (bg.map .int)) := by
  suffices h : Ok (d__law_begins [.int v, .int size]) fun d => ∃ bg : List Int, bg ≠ [] ∧ bg.length ≤ 2 ∧ bg.Pairwise (· < ·) ∧ (∀ x ∈ bg, 0 ≤ x ∧ x < size) ∧ d = .tup (bg.map .int) by
    obtain ⟨d, e, L, h1, h2, h3, h4, rfl⟩ := h
    exact ⟨L, h1, h2, h3, h4, e⟩
  unfold d__law_begins m__law_begins
  rw [ok_nox, k_run]
  simp? only []
  refine ⟨by omega, fun _ => ⟨[size - 1], by simp, by simp, by simp, by simp; omega, rfl⟩, fun _ => ?_⟩
  refine ⟨by omega, fun _ => ⟨fun h => ⟨[0, size - 1], by simp, by simp, by simp at h; simp; omega, by simp; omega, rfl⟩, fun _ => ⟨[0], by simp, by simp, by simp, by simp; omega, rfl⟩⟩, fun _ => ⟨[0], by simp, by simp, by simp, by simp; omega, rfl⟩⟩
structure DrS (size : Int) (L : List T3) (bg : List Int) : Prop where
  s1 : 1 ≤ size
  s2 : size ≤ 101
  st : StpB size L size
  ln : L.length ≤ 202
  b0 : bg ≠ []
  b2 : bg.length ≤ 2
  bS : bg.Pairwise (· < ·)
  bB : ∀ x ∈ bg, 0 ≤ x ∧ x < size
set_option Elab.async false
set_option linter.all false
set_option maxRecDepth 100000
open M PySem L2
abbrev Wd := List Int
def cd (w : Wd) : Nat := w.foldl (fun a b => 2 * a + 1 + b.toNat) 0
def Bw (w : Wd) : Prop := ∀ b ∈ w, b = 0 ∨ b = 1
theorem cd_snoc (w : Wd) (b : Int) : cd (w ++ [b]) = 2 * cd w + 1 + b.toNat := by unfold cd; rw [List.foldl_append]; rfl
theorem Bw.snoc {w : Wd} {b : Int} (h : Bw w) (hb : b = 0 ∨ b = 1) : Bw (w ++ [b]) := fun x hx => by
  rcases List.mem_append.mp hx with hx | hx
  · exact h x hx
  · rw [List.mem_singleton.mp hx]; exact hb
theorem snoc_of {w : Wd} (h : w ≠ []) : ∃ u b, w = u ++ [b] := ⟨w.dropLast, w.getLast h, (List.dropLast_concat_getLast h).symm⟩
theorem cd_len : ∀ (n : Nat) (w : Wd), w.length = n → Bw w → 2 ^ n ≤ cd w + 1 ∧ cd w + 2 ≤ 2 ^ (n + 1)
  | 0, w, h, _ => by
    have : w = [] := List.length_eq_zero_iff.mp h
    subst this
    exact ⟨Nat.le_refl _, Nat.le_refl _⟩
  | n + 1, w, h, hb => by
    obtain ⟨u, b, rfl⟩ := snoc_of (w := w) (fun z => by rw [z] at h; cases h)
    rw [List.length_append] at h
    have ih := cd_len n u (by simpa using h) fun x hx => hb x (List.mem_append_left _ hx)
    have hb1 := hb b (by simp)
    rw [cd_snoc]
    have e1 : 2 ^ (n + 1) = 2 * 2 ^ n := by rw [Nat.pow_succ, Nat.mul_comm]
    have e2 : 2 ^ (n + 1 + 1) = 2 * 2 ^ (n + 1) := by rw [Nat.pow_succ, Nat.mul_comm]
    rcases hb1 with rfl | rfl
    · rw [show (0 : Int).toNat = 0 from rfl]; omega
    · rw [show (1 : Int).toNat = 1 from rfl]; omega
theorem cd_inj : ∀ (n : Nat) (w w' : Wd), w.length = n → Bw w → Bw w' → cd w = cd w' → w = w'
  | 0, w, w', h, _, h', e => by
    have : w = [] := List.length_eq_zero_iff.mp h
    subst this
    by_cases z : w' = []
    · exact z.symm
    · obtain ⟨u, b, rfl⟩ := snoc_of z
      rw [cd_snoc] at e
      have : cd ([] : Wd) = 0 := rfl
      omega
  | n + 1, w, w', h, hb, hb', e => by
    obtain ⟨u, b, rfl⟩ := snoc_of (w := w) (fun z => by rw [z] at h; cases h)
    by_cases z : w' = []
    · subst z
      rw [cd_snoc] at e
      have : cd ([] : Wd) = 0 := rfl
      omega
    · obtain ⟨u', b', rfl⟩ := snoc_of z
      rw [cd_snoc, cd_snoc] at e
      have h1 := hb b (by simp)
      have h2 := hb' b' (by simp)
      have t0 : (0 : Int).toNat = 0 := rfl
      have t1 : (1 : Int).toNat = 1 := rfl
      have hbb : b = b' ∧ cd u = cd u' := by
        rcases h1 with rfl | rfl <;> rcases h2 with rfl | rfl <;> first | exact ⟨rfl, by omega⟩ | (exfalso; omega)
      rw [List.length_append] at h
      rw [hbb.1, cd_inj n u u' (by simpa using h) (fun x hx => hb x (List.mem_append_left _ hx)) (fun x hx => hb' x (List.mem_append_left _ hx)) hbb.2]
structure Sys (σ : Type) where
  R : σ → Int → σ → Prop
  s0 : σ → Prop
  f : List Int → Int → List Int
  y0 : List Int
inductive Rch {σ : Type} (A : Sys σ) : Wd → σ → Prop where
  | nil {s : σ} : A.s0 s → Rch A [] s
  | snoc {w : Wd} {s t : σ} {b : Int} : Rch A w s → A.R s b t → Rch A (w ++ [b]) t
def fw {σ : Type} (A : Sys σ) (w : Wd) : List Int := w.foldl A.f A.y0
theorem fw_snoc {σ : Type} (A : Sys σ) (w : Wd) (b : Int) : fw A (w ++ [b]) = A.f (fw A w) b := by unfold fw; rw [List.foldl_append]; rfl
def Pw {σ : Type} (A : Sys σ) (w : Wd) : Prop := Bw w ∧ (∃ s, Rch A w s) ∧ fw A w = []
structure It (σ : Type) where
  s : σ
  y : List Int
  w : Wd
structure Srch {σ : Type} (A : Sys σ) (WS : List (It σ)) (z : Nat) : Prop where
  b0 : ∀ s, A.s0 s → ⟨s, A.y0, []⟩ ∈ WS
  b1 : ∀ x ∈ WS, Rch A x.w x.s ∧ x.y = fw A x.w ∧ x.y ≠ [] ∧ Bw x.w
  b2 : ∀ x ∈ WS, ∀ c t, (c = 0 ∨ c = 1) → A.R x.s c t → 2 * cd x.w + 1 + c.toNat < z → ∃ v, ⟨t, A.f x.y c, v⟩ ∈ WS ∧ cd v ≤ 2 * cd x.w + 1 + c.toNat
theorem Srch.at {σ : Type} {A : Sys σ} {WS : List (It σ)} {z : Nat} (H : Srch A WS z) {w : Wd} {s : σ} (r : Rch A w s) : Bw w → cd w < z → ∃ v, ⟨s, fw A w, v⟩ ∈ WS ∧ cd v ≤ cd w := by
  induction r with
  | nil h => intro _ _; exact ⟨[], H.b0 _ h, Nat.le_refl _⟩
  | @snoc w s t b r hR ih =>
    intro hb hz
    have hb1 := hb b (by simp)
    rw [cd_snoc] at hz
    obtain ⟨v, hv, hc⟩ := ih (fun x hx => hb x (List.mem_append_left _ hx)) (by omega)
    obtain ⟨v2, h2, h3⟩ := H.b2 _ hv b t hb1 hR (by dsimp only; omega)
    dsimp only at h2 h3
    rw [fw_snoc, cd_snoc]
    exact ⟨v2, h2, by omega⟩
theorem Srch.best {σ : Type} {A : Sys σ} {WS : List (It σ)} {z : Nat} (H : Srch A WS z) {w : Wd} (h : Pw A w) : z ≤ cd w := by
  obtain ⟨hb, ⟨s, r⟩, he⟩ := h
  refine Nat.not_lt.mp fun hz => ?_
  obtain ⟨v, hv, _⟩ := H.at r hb hz
  exact (H.b1 _ hv).2.2.1 he
structure En (σ : Type) where
  w : Wd
  X : List σ
  Y : List Int
def EnOk {σ : Type} (A : Sys σ) (WS : List (It σ)) (e : En σ) : Prop := Bw e.w ∧ e.Y = fw A e.w ∧ e.Y ≠ [] ∧ ∀ s ∈ e.X, ⟨s, e.Y, e.w⟩ ∈ WS
def InE {σ : Type} (x : It σ) (e : En σ) : Prop := e.w = x.w ∧ x.s ∈ e.X ∧ x.y = e.Y
structure BI {σ : Type} (A : Sys σ) (n k : Nat) (WS : List (It σ)) (seen : List (σ × List Int)) (pend lon : List (En σ)) : Prop where
  sr : Srch A WS (2 * k + 1)
  sn : ∀ q ∈ seen, ∃ v, ⟨q.1, q.2, v⟩ ∈ WS
  ci : ∀ x ∈ WS, cd x.w < k ∨ ∃ e ∈ pend ++ lon, InE x e
  pl : ∀ e ∈ pend, e.w.length = n ∧ k ≤ cd e.w
  ll : ∀ e ∈ lon, e.w.length = n + 1 ∧ cd e.w < 2 * k + 1
  ok : ∀ e ∈ pend ++ lon, EnOk A WS e
  as : (pend ++ lon).Pairwise fun a b => cd a.w < cd b.w
  kb : k + 1 ≤ 2 ^ (n + 1)
  wl : ∀ x ∈ WS, x.w.length ≤ n + 1
structure BZ {σ : Type} (A : Sys σ) (n z : Nat) (WS : List (It σ)) (seen : List (σ × List Int)) (e : En σ) (re lon : List (En σ)) : Prop where
  sr : Srch A WS z
  sn : ∀ q ∈ seen, ∃ v, ⟨q.1, q.2, v⟩ ∈ WS
  ci : ∀ x ∈ WS, cd x.w < cd e.w ∨ ∃ e' ∈ e :: (re ++ lon), InE x e'
  en : e.w.length = n
  pl : ∀ e' ∈ re, e'.w.length = n
  ll : ∀ e' ∈ lon, e'.w.length = n + 1 ∧ cd e'.w < z
  ok : ∀ e' ∈ e :: (re ++ lon), EnOk A WS e'
  as : (e :: (re ++ lon)).Pairwise fun a b => cd a.w < cd b.w
  wl : ∀ x ∈ WS, x.w.length ≤ n + 1
theorem BI.take {σ : Type} {A : Sys σ} {n k : Nat} {WS : List (It σ)} {seen : List (σ × List Int)} {e : En σ} {re lon : List (En σ)} (H : BI A n k WS seen (e :: re) lon) : BZ A n (2 * cd e.w + 1) WS seen e re lon := by
  obtain ⟨e1, e2⟩ := H.pl e (List.mem_cons_self ..)
  have as := H.as
  rw [List.cons_append, List.pairwise_cons] at as
  have ge : ∀ e' ∈ e :: (re ++ lon), cd e.w ≤ cd e'.w := fun e' he => by
    rcases List.mem_cons.mp he with rfl | he
    · exact Nat.le_refl _
    · exact Nat.le_of_lt (as.1 e' he)
  refine ⟨⟨H.sr.b0, H.sr.b1, fun x hx c t hc hR hz => ?_⟩, H.sn, fun x hx => ?_, e1, fun e' he => (H.pl e' (List.mem_cons_of_mem _ he)).1, fun e' he => ⟨(H.ll e' he).1, by have := (H.ll e' he).2; omega⟩, H.ok, H.as, H.wl⟩
  · rcases H.ci x hx with h | ⟨e', he, h⟩
    · refine H.sr.b2 x hx c t hc hR ?_
      rcases hc with rfl | rfl
      · rw [show (0 : Int).toNat = 0 from rfl]; omega
      · rw [show (1 : Int).toNat = 1 from rfl]; omega
    · have := ge e' he
      rw [h.1] at this
      omega
  · rcases H.ci x hx with h | h
    · exact .inl (by omega)
    · exact .inr h
theorem BZ.hit {σ : Type} {A : Sys σ} {n z : Nat} {WS : List (It σ)} {seen : List (σ × List Int)} {e : En σ} {re lon : List (En σ)} (H : BZ A n z WS seen e re lon) {d : Int} (hd : d = 0 ∨ d = 1) (hz : z = 2 * cd e.w + 1 + d.toNat) {s t : σ} (hs : s ∈ e.X) (hR : A.R s d t) (hY : A.f e.Y d = []) :
    Pw A (e.w ++ [d]) ∧ ∀ w, Pw A w → cd (e.w ++ [d]) ≤ cd w := by
  obtain ⟨o1, o2, o3, o4⟩ := H.ok e (List.mem_cons_self ..)
  have r := (H.sr.b1 _ (o4 s hs)).1
  refine ⟨⟨o1.snoc hd, ⟨t, .snoc r hR⟩, by rw [fw_snoc, ← o2]; exact hY⟩, fun w hw => ?_⟩
  have := H.sr.best hw
  rw [cd_snoc]
  omega
theorem BZ.bit {σ : Type} {A : Sys σ} {n z : Nat} {WS : List (It σ)} {seen : List (σ × List Int)} {e : En σ} {re lon : List (En σ)} (H : BZ A n z WS seen e re lon) {d : Int} (hd : d = 0 ∨ d = 1) (hz : z = 2 * cd e.w + 1 + d.toNat) {he : List σ}
    (h1 : ∀ t ∈ he, ∃ s ∈ e.X, A.R s d t) (h2 : ∀ s ∈ e.X, ∀ t, A.R s d t → t ∈ he ∨ (t, A.f e.Y d) ∈ seen) (h3 : he ≠ [] → A.f e.Y d ≠ []) :
    BZ A n (z + 1) (WS ++ he.map fun t => ⟨t, A.f e.Y d, e.w ++ [d]⟩) (seen ++ he.map fun t => (t, A.f e.Y d)) e re (lon ++ (if he = [] then [] else [⟨e.w ++ [d], he, A.f e.Y d⟩])) := by
  obtain ⟨o1, o2, o3, o4⟩ := H.ok e (List.mem_cons_self ..)
  have as := H.as
  rw [List.pairwise_cons] at as
  have ez : cd (e.w ++ [d]) = z := by rw [cd_snoc, hz]
  have ew := H.en
  have bw := o1.snoc hd
  have cdl : ∀ x ∈ WS, cd x.w < z := fun x hx => by
    rcases H.ci x hx with h | ⟨e', he', h⟩
    · omega
    · rcases List.mem_cons.mp he' with rfl | he'
      · rw [← h.1]; omega
      · rcases List.mem_append.mp he' with he' | he'
        · have l1 := H.pl e' he'
          have b1 := (H.ok e' (List.mem_cons_of_mem _ (List.mem_append_left _ he'))).1
          have := (cd_len n e'.w l1 b1).2
          have := (cd_len (n + 1) (e.w ++ [d]) (by rw [List.length_append, ew]; rfl) bw).1
          rw [← h.1]; omega
        · rw [← h.1]; exact (H.ll e' he').2
  have old : ∀ x ∈ WS, x ∈ WS ++ he.map fun t => (⟨t, A.f e.Y d, e.w ++ [d]⟩ : It σ) := fun x hx => List.mem_append_left _ hx
  have neu : ∀ t ∈ he, (⟨t, A.f e.Y d, e.w ++ [d]⟩ : It σ) ∈ WS ++ he.map fun t => (⟨t, A.f e.Y d, e.w ++ [d]⟩ : It σ) := fun t ht => List.mem_append_right _ (List.mem_map.mpr ⟨t, ht, rfl⟩)
  refine ⟨⟨fun s hs => old _ (H.sr.b0 s hs), fun x hx => ?_, fun x hx c t hc hR hlt => ?_⟩, fun q hq => ?_, fun x hx => ?_, ew, H.pl, fun e' he' => ?_, fun e' he' => ?_, ?_, fun x hx => ?_⟩
  · rcases List.mem_append.mp hx with hx | hx
    · exact H.sr.b1 x hx
    · obtain ⟨t, ht, rfl⟩ := List.mem_map.mp hx
      obtain ⟨s, hs, hR⟩ := h1 t ht
      exact ⟨.snoc (H.sr.b1 _ (o4 s hs)).1 hR, by dsimp only; rw [fw_snoc, ← o2], h3 (List.ne_nil_of_mem ht), bw⟩
  · rcases List.mem_append.mp hx with hx | hx
    · by_cases q : 2 * cd x.w + 1 + c.toNat < z
      · obtain ⟨v, hv, hc2⟩ := H.sr.b2 x hx c t hc hR q
        exact ⟨v, old _ hv, hc2⟩
      · have t0 : (0 : Int).toNat = 0 := rfl
        have t1 : (1 : Int).toNat = 1 := rfl
        have hcd : c = d ∧ cd x.w = cd e.w := by
          rcases hc with rfl | rfl <;> rcases hd with rfl | rfl <;> first | exact ⟨rfl, by omega⟩ | (exfalso; omega)
        have hw : x.w = e.w := cd_inj _ _ _ rfl (H.sr.b1 x hx).2.2.2 o1 hcd.2
        have hxe : x.s ∈ e.X ∧ x.y = e.Y := by
          rcases H.ci x hx with h | ⟨e', he', h⟩
          · omega
          · rcases List.mem_cons.mp he' with rfl | he'
            · exact h.2
            · have := as.1 e' he'
              rw [h.1] at this
              omega
        rw [hcd.1] at hR ⊢
        rw [hxe.2]
        rcases h2 x.s hxe.1 t hR with h | h
        · exact ⟨e.w ++ [d], neu t h, by rw [ez]; omega⟩
        · obtain ⟨v, hv⟩ := H.sn _ h
          have := cdl _ hv
          exact ⟨v, old _ hv, by dsimp only at this; omega⟩
    · obtain ⟨t', ht, rfl⟩ := List.mem_map.mp hx
      dsimp only at hlt
      rw [ez] at hlt
      have : cd e.w < z := by omega
      omega
  · rcases List.mem_append.mp hq with hq | hq
    · obtain ⟨v, hv⟩ := H.sn q hq
      exact ⟨v, old _ hv⟩
    · obtain ⟨t, ht, rfl⟩ := List.mem_map.mp hq
      exact ⟨_, neu t ht⟩
  · rcases List.mem_append.mp hx with hx | hx
    · rcases H.ci x hx with h | ⟨e', he', h⟩
      · exact .inl h
      · refine .inr ⟨e', ?_, h⟩
        rcases List.mem_cons.mp he' with rfl | he'
        · exact List.mem_cons_self ..
        · refine List.mem_cons_of_mem _ ?_
          rw [← List.append_assoc]
          exact List.mem_append_left _ he'
    · obtain ⟨t, ht, rfl⟩ := List.mem_map.mp hx
      have ne : he ≠ [] := List.ne_nil_of_mem ht
      refine .inr ⟨⟨e.w ++ [d], he, A.f e.Y d⟩, ?_, rfl, ht, rfl⟩
      rw [if_neg ne]
      exact List.mem_cons_of_mem _ (by simp)
  · rcases List.mem_append.mp he' with he' | he'
    · exact ⟨(H.ll e' he').1, by have := (H.ll e' he').2; omega⟩
    · by_cases ne : he = []
      · rw [if_pos ne] at he'; simp at he'
      · rw [if_neg ne] at he'
        rw [List.mem_singleton.mp he']
        exact ⟨by dsimp only; rw [List.length_append, ew]; rfl, by dsimp only; rw [ez]; omega⟩
  · have okOld : ∀ {e' : En σ}, EnOk A WS e' → EnOk A (WS ++ he.map fun t => (⟨t, A.f e.Y d, e.w ++ [d]⟩ : It σ)) e' := fun h => ⟨h.1, h.2.1, h.2.2.1, fun s hs => old _ (h.2.2.2 s hs)⟩
    rcases List.mem_cons.mp he' with rfl | he'
    · exact okOld (H.ok _ (List.mem_cons_self ..))
    · rw [← List.append_assoc] at he'
      rcases List.mem_append.mp he' with he' | he'
      · exact okOld (H.ok e' (List.mem_cons_of_mem _ he'))
      · by_cases ne : he = []
        · rw [if_pos ne] at he'; simp at he'
        · rw [if_neg ne] at he'
          rw [List.mem_singleton.mp he']
          exact ⟨bw, by dsimp only; rw [fw_snoc, ← o2], h3 ne, fun s hs => neu s hs⟩
  · by_cases ne : he = []
    · rw [if_pos ne, List.append_nil]; exact H.as
    · rw [if_neg ne, ← List.append_assoc, ← List.cons_append, List.pairwise_append]
      refine ⟨H.as, by simp, fun a ha b hb => ?_⟩
      rw [List.mem_singleton] at hb
      subst hb
      dsimp only
      rw [ez]
      rcases List.mem_cons.mp ha with rfl | ha
      · omega
      · rcases List.mem_append.mp ha with ha | ha
        · have l1 := H.pl a ha
          have b1 := (H.ok a (List.mem_cons_of_mem _ (List.mem_append_left _ ha))).1
          have := (cd_len n a.w l1 b1).2
          have := (cd_len (n + 1) (e.w ++ [d]) (by rw [List.length_append, ew]; rfl) bw).1
          omega
        · exact (H.ll a ha).2
  · rcases List.mem_append.mp hx with hx | hx
    · exact H.wl x hx
    · obtain ⟨t, ht, rfl⟩ := List.mem_map.mp hx
      dsimp only
      rw [List.length_append, ew]
      exact Nat.le_refl _
theorem BZ.rest {σ : Type} {A : Sys σ} {n : Nat} {WS : List (It σ)} {seen : List (σ × List Int)} {e : En σ} {re lon : List (En σ)} (H : BZ A n (2 * cd e.w + 3) WS seen e re lon) : BI A n (cd e.w + 1) WS seen re lon := by
  have as := H.as
  rw [List.pairwise_cons] at as
  have o1 := (H.ok e (List.mem_cons_self ..)).1
  refine ⟨by rw [show 2 * (cd e.w + 1) + 1 = 2 * cd e.w + 3 by omega]; exact H.sr, H.sn, fun x hx => ?_, fun e' he => ⟨H.pl e' he, as.1 e' (List.mem_append_left _ he)⟩, fun e' he => ⟨(H.ll e' he).1, by have := (H.ll e' he).2; omega⟩, fun e' he => H.ok e' (List.mem_cons_of_mem _ he), as.2, by have := (cd_len n e.w H.en o1).2; omega, H.wl⟩
  rcases H.ci x hx with h | ⟨e', he, h⟩
  · exact .inl (by omega)
  · rcases List.mem_cons.mp he with rfl | he
    · rw [h.1]; exact .inl (Nat.lt_succ_self _)
    · exact .inr ⟨e', he, h⟩
theorem BI.next {σ : Type} {A : Sys σ} {n k : Nat} {WS : List (It σ)} {seen : List (σ × List Int)} {lon : List (En σ)} (H : BI A n k WS seen [] lon) : BI A (n + 1) k WS seen lon [] := by
  have kb := H.kb
  have e1 : 2 ^ (n + 1 + 1) = 2 * 2 ^ (n + 1) := by rw [Nat.pow_succ, Nat.mul_comm]
  refine ⟨H.sr, H.sn, fun x hx => ?_, fun e he => ⟨(H.ll e he).1, ?_⟩, by simp, fun e he => H.ok e (by simpa using he), by simpa using H.as, by omega, fun x hx => Nat.le_succ_of_le (H.wl x hx)⟩
  · rcases H.ci x hx with h | ⟨e, he, h⟩
    · exact .inl h
    · exact .inr ⟨e, by simpa using he, h⟩
  · have := (cd_len (n + 1) e.w (H.ll e he).1 (H.ok e (by simpa using he)).1).1
    omega
theorem BI.none {σ : Type} {A : Sys σ} {n k : Nat} {WS : List (It σ)} {seen : List (σ × List Int)} (H : BI A n k WS seen [] []) (w : Wd) : ¬ Pw A w := fun hw => by
  have H2 : Srch A WS (2 * (k + cd w) + 1) := ⟨H.sr.b0, H.sr.b1, fun x hx c t hc hR hlt => by
    rcases H.ci x hx with h | ⟨e, he, _⟩
    · refine H.sr.b2 x hx c t hc hR ?_
      rcases hc with rfl | rfl
      · rw [show (0 : Int).toNat = 0 from rfl]; omega
      · rw [show (1 : Int).toNat = 1 from rfl]; omega
    · simp at he⟩
  have := H2.best hw
  omega
theorem BI.start {σ : Type} {A : Sys σ} {X : List σ} {seen : List (σ × List Int)} (h0 : ∀ s, A.s0 s ↔ s ∈ X) (hs : ∀ q ∈ seen, q.1 ∈ X ∧ q.2 = A.y0) (hy : A.y0 ≠ []) : BI A 0 0 (X.map fun s => ⟨s, A.y0, []⟩) seen [⟨[], X, A.y0⟩] [] := by
  have mem : ∀ x ∈ X.map fun s => (⟨s, A.y0, []⟩ : It σ), x.s ∈ X ∧ x.y = A.y0 ∧ x.w = [] := fun x hx => by
    obtain ⟨s, hs, rfl⟩ := List.mem_map.mp hx
    exact ⟨hs, rfl, rfl⟩
  refine ⟨⟨fun s hs => List.mem_map.mpr ⟨s, (h0 s).mp hs, rfl⟩, fun x hx => ?_, fun x hx c t hc hR hlt => by omega⟩, fun q hq => ⟨[], List.mem_map.mpr ⟨q.1, (hs q hq).1, by rw [(hs q hq).2]⟩⟩, fun x hx => ?_, fun e he => ?_, by simp, fun e he => ?_, by simp, Nat.le_succ _, fun x hx => by rw [(mem x hx).2.2]; exact Nat.zero_le _⟩
  · obtain ⟨a, b, c⟩ := mem x hx
    rw [b, c]
    exact ⟨.nil ((h0 _).mpr a), rfl, hy, by simp [Bw]⟩
  · obtain ⟨a, b, c⟩ := mem x hx
    exact .inr ⟨_, List.mem_singleton.mpr rfl, c.symm, a, b⟩
  · rw [List.mem_singleton.mp he]; exact ⟨rfl, Nat.zero_le _⟩
  · have he : e ∈ [(⟨[], X, A.y0⟩ : En σ)] := by simpa using he
    rw [List.mem_singleton.mp he]
    exact ⟨by simp [Bw], rfl, hy, fun s hs => List.mem_map.mpr ⟨s, hs, rfl⟩⟩
set_option Elab.async false
set_option linter.all false
set_option maxRecDepth 100000
open M PySem L2
abbrev P2i := Int × Int
def imD (b : Bool) (R : List Int) (g : Int → D) : D := if b then .dkf (R.map .inl) (R.map g) else .dic (R.map .inl) (R.map g)
theorem getL_im {g : Int → D} {x : Int} : ∀ R : List Int, getL (R.map (Sum.inl : Int → Key)) (R.map g) (.inl x) = if x ∈ R then some (g x) else none
  | [] => rfl
  | y :: R => by
    rw [List.map_cons, List.map_cons, getL, getL_im R]
    by_cases h : y = x
    · subst h; simp
    · rw [if_neg (fun z => h (by injection z))]
      by_cases h2 : x ∈ R
      · rw [if_pos h2, if_pos (List.mem_cons_of_mem _ h2)]
      · rw [if_neg h2, if_neg (by simp only [List.mem_cons, not_or]; exact ⟨fun z => h z.symm, h2⟩)]
theorem dlook_im {b : Bool} {R : List Int} {g : Int → D} {x : Int} : dlook (imD b R g) (.int x) = some (if x ∈ R then some (g x) else none) := by
  cases b <;> (show Option.map _ (some (Sum.inl x)) = _; rw [Option.map_some, getL_im])
theorem ix_im {b : Bool} {R : List Int} {g : Int → D} {x : Int} (h : x ∈ R) : ixA (imD b R g) (.int x) = .ok (g x) := by
  unfold ixA; rw [dlook_im, if_pos h]
theorem in_im {b : Bool} {R : List Int} {g : Int → D} {x : Int} : inA (.int x) (imD b R g) = .ok (.bl (decide (x ∈ R))) := by
  unfold inA; rw [dlook_im]
  by_cases h : x ∈ R <;> simp [h]
theorem getOr_im {b : Bool} {R : List Int} {g : Int → D} {x : Int} {z : D} : getOr (imD b R g) (.int x) z = .ok (if x ∈ R then g x else z) := by
  unfold getOr; rw [dlook_im]
  by_cases h : x ∈ R <;> simp [h]
theorem putL_fresh {κ : Type} [DecidableEq κ] {ks : List κ} {ds : List D} {q : κ} {d : D} (h : q ∉ ks) : putL ks ds q d = (ks ++ [q], ds ++ [d]) := by
  unfold putL
  rw [List.idxOf?_eq_none_iff.mpr h]
theorem putL_old {κ : Type} [DecidableEq κ] {ks : List κ} {ds : List D} {q : κ} {d : D} {n : Nat} (nd : ks.Nodup) (h : ks[n]? = some q) : putL ks ds q d = (ks, ds.set n d) := by
  have hn : n < ks.length := (List.getElem?_eq_some_iff.mp h).1
  have ei : ks.idxOf? q = some n := by
    rw [List.idxOf?_eq_some_iff]
    rw [List.getElem?_eq_getElem hn] at h
    injection h with h
    refine ⟨hn, by simp [h], fun j hj => ?_⟩
    subst h
    have : ks[j] ≠ ks[n] := fun z => by
      have := (List.getElem_inj nd).mp z
      omega
    simpa using this
  unfold putL
  rw [ei]
theorem put_im {R : List Int} {g : Int → D} {x : Int} {d : D} (nd : R.Nodup) (hl : R.length < sizeLine) {i : Nat} {S : M.Env} :
    putA i S (imD false R g) d (.int x) = .ok (.nx, S.set i (some ⟨true, imD false (if x ∈ R then R else R ++ [x]) (fun y => if y = x then d else g y)⟩)) := by
  show (if (R.map Sum.inl : List Key).Nodup ∧ (R.map Sum.inl : List Key).length < sizeLine then M.R.ok _ else .fail) = _
  have ni : (R.map (Sum.inl : Int → Key)).Nodup := nd_map _ nd fun a _ b _ h => by injection h
  rw [if_pos ⟨ni, by rw [List.length_map]; exact hl⟩]
  have mem : (Sum.inl x : Key) ∈ R.map (Sum.inl : Int → Key) ↔ x ∈ R := by simp
  by_cases h : x ∈ R
  · rw [if_pos h]
    obtain ⟨n, hn, rfl⟩ := List.getElem_of_mem h
    have ei := putL_old (ks := R.map (Sum.inl : Int → Key)) (ds := R.map g) (d := d) ni (n := n) (q := .inl R[n]) (by simp [hn])
    have es : (R.map g).set n d = R.map (fun y => if y = R[n] then d else g y) := by
      apply List.ext_getElem?
      intro j
      rw [List.getElem?_set]
      by_cases hj : n = j
      · subst hj
        simp [hn]
      · rw [if_neg hj, List.getElem?_map, List.getElem?_map]
        cases e : R[j]? with
        | none => rfl
        | some y =>
          obtain ⟨hj2, rfl⟩ := List.getElem?_eq_some_iff.mp e
          have : R[j] ≠ R[n] := fun z => hj ((List.getElem_inj nd).mp z).symm
          simp [this]
    rw [ei]
    dsimp only
    rw [es]; rfl
  · rw [if_neg h, putL_fresh (fun z => h (mem.mp z))]
    have es : R.map g = R.map (fun y => if y = x then d else g y) := List.map_congr_left fun y hy => by rw [if_neg (fun z : y = x => h (z ▸ hy))]
    show M.R.ok (Fl.nx, S.set i (some ⟨true, .dic (R.map Sum.inl ++ [.inl x]) (R.map g ++ [d])⟩)) = _
    rw [es]
    unfold imD
    rw [if_neg (by decide)]
    simp
set_option Elab.async false
set_option linter.all false
set_option maxRecDepth 100000
open M PySem L2
theorem nd_le : ∀ {a b : List Int}, a.Nodup → (∀ x ∈ a, x ∈ b) → a.length ≤ b.length
  | [], _, _, _ => Nat.zero_le _
  | x :: a, b, h, hs => by
    have hx := hs x (List.mem_cons_self ..)
    have h1 := List.nodup_cons.mp h
    have := nd_le (b := b.erase x) h1.2 fun y hy => (List.mem_erase_of_ne fun z => h1.1 (by subst z; exact hy)).mpr (hs y (List.mem_cons_of_mem _ hy))
    rw [List.length_erase_of_mem hx] at this
    have := List.length_pos_of_mem hx
    rw [List.length_cons]
    omega
theorem nd_leG {α : Type} [DecidableEq α] : ∀ {a b : List α}, a.Nodup → (∀ x ∈ a, x ∈ b) → a.length ≤ b.length
  | [], _, _, _ => Nat.zero_le _
  | x :: a, b, h, hs => by
    have hx := hs x (List.mem_cons_self ..)
    have h1 := List.nodup_cons.mp h
    have := nd_leG (b := b.erase x) h1.2 fun y hy => (List.mem_erase_of_ne fun z => h1.1 (by subst z; exact hy)).mpr (hs y (List.mem_cons_of_mem _ hy))
    rw [List.length_erase_of_mem hx] at this
    have := List.length_pos_of_mem hx
    rw [List.length_cons]
    omega
theorem nd_bdZ {L : List Int} {size : Int} (h : L.Nodup) (hb : ∀ x ∈ L, 0 ≤ x ∧ x < size) : L.length ≤ size.toNat := by
  have := nd_le (b := (List.range size.toNat).map fun i : Nat => (i : Int)) h fun x hx => List.mem_map.mpr ⟨x.toNat, List.mem_range.mpr (by have := hb x hx; omega), by have := hb x hx; omega⟩
  rwa [List.length_map, List.length_range] at this
set_option Elab.async false
set_option linter.all false
set_option maxRecDepth 100000
open M PySem L2
def kP2 (p : P2i) : List Key := [.inl p.1, .inl p.2]
def pmD (K : List P2i) (g : P2i → D) : D := .dit (K.map kP2) (K.map g)
theorem kP2_inj {p q : P2i} (h : kP2 p = kP2 q) : p = q := by
  obtain ⟨a, b⟩ := p
  obtain ⟨c, d⟩ := q
  simpa [kP2] using h
theorem getL_pm {g : P2i → D} {p : P2i} : ∀ L : List P2i, getL (L.map kP2) (L.map g) (kP2 p) = if p ∈ L then some (g p) else none
  | [] => by simp [getL]
  | q :: L => by
    rw [List.map_cons, List.map_cons]
    simp only [getL]
    by_cases h : q = p
    · subst h; simp
    · rw [if_neg (fun e => h (kP2_inj e)), getL_pm L]
      by_cases hp : p ∈ L
      · rw [if_pos hp, if_pos (List.mem_cons_of_mem _ hp)]
      · rw [if_neg hp, if_neg (fun z => (List.mem_cons.mp z).elim (fun e => h e.symm) hp)]
theorem getOr_pm {K : List P2i} {g : P2i → D} {a b : Int} {z : D} : getOr (pmD K g) (.tup [.int a, .int b]) z = .ok (if (a, b) ∈ K then g (a, b) else z) := by
  unfold getOr pmD dlook
  dsimp only
  rw [keyT_2, Option.map_some, show ([.inl a, .inl b] : List Key) = kP2 (a, b) from rfl, getL_pm]
  by_cases h : (a, b) ∈ K <;> simp [h]
theorem put_pm {K : List P2i} {g : P2i → D} {a b : Int} {d : D} (nd : K.Nodup) (hl : K.length < sizeLine) {i : Nat} {S : M.Env} :
    putA i S (pmD K g) d (.tup [.int a, .int b]) = .ok (.nx, S.set i (some ⟨true, pmD (if (a, b) ∈ K then K else K ++ [(a, b)]) (fun y => if y = (a, b) then d else g y)⟩)) := by
  have ni : (K.map kP2).Nodup := nd_map _ nd fun x _ y _ h => kP2_inj h
  have e0 : putA i S (pmD K g) d (.tup [.int a, .int b]) = if (K.map kP2).Nodup ∧ (K.map kP2).length < sizeLine then M.R.ok (.nx, S.set i (some ⟨true, .dit (putL (K.map kP2) (K.map g) (kP2 (a, b)) d).1 (putL (K.map kP2) (K.map g) (kP2 (a, b)) d).2⟩)) else .fail := by
    unfold putA pmD
    simp only [keyT_2]
    rfl
  rw [e0, if_pos ⟨ni, by rw [List.length_map]; exact hl⟩]
  by_cases h : (a, b) ∈ K
  · rw [if_pos h]
    obtain ⟨n, hn, e⟩ := List.getElem_of_mem h
    have ei := putL_old (ks := K.map kP2) (ds := K.map g) (d := d) ni (n := n) (q := kP2 (a, b)) (by simp [hn, e])
    have es : (K.map g).set n d = K.map (fun y => if y = (a, b) then d else g y) := by
      apply List.ext_getElem?
      intro j
      rw [List.getElem?_set]
      by_cases hj : n = j
      · subst hj
        simp [hn, e]
      · rw [if_neg hj, List.getElem?_map, List.getElem?_map]
        cases e2 : K[j]? with
        | none => rfl
        | some y =>
          obtain ⟨hj2, rfl⟩ := List.getElem?_eq_some_iff.mp e2
          have : K[j] ≠ (a, b) := fun z => hj ((List.getElem_inj nd).mp (z.trans e.symm)).symm
          simp [this]
    rw [ei]
    dsimp only
    rw [es]; rfl
  · rw [if_neg h, putL_fresh (fun z => h (by
      obtain ⟨y, hy, e⟩ := List.mem_map.mp z
      rw [← kP2_inj e]; exact hy))]
    have es : K.map g = K.map (fun y => if y = (a, b) then d else g y) := List.map_congr_left fun y hy => by rw [if_neg (fun z : y = (a, b) => h (z ▸ hy))]
    show M.R.ok (Fl.nx, S.set i (some ⟨true, .dit (K.map kP2 ++ [kP2 (a, b)]) (K.map g ++ [d])⟩)) = _
    rw [es]
    unfold pmD
    simp
def thn (L : List T3) (p : P2i) : List Int := (L.filter fun e => decide (e.1 = p.1 ∧ e.2.1 = p.2)).map fun e => e.2.2
theorem thn_mem {L : List T3} {p : P2i} {x : Int} : x ∈ thn L p ↔ (p.1, p.2, x) ∈ L := by
  unfold thn
  simp only [List.mem_map, List.mem_filter, decide_eq_true_eq]
  constructor
  · rintro ⟨⟨a, b, c⟩, ⟨he, h1, h2⟩, rfl⟩
    dsimp only at h1 h2 ⊢
    rw [← h1, ← h2]; exact he
  · intro h; exact ⟨_, ⟨h, rfl, rfl⟩, rfl⟩
theorem thn_snoc (L : List T3) (e : T3) (p : P2i) : thn (L ++ [e]) p = thn L p ++ (if e.1 = p.1 ∧ e.2.1 = p.2 then [e.2.2] else []) := by
  unfold thn
  rw [List.filter_append, List.map_append]
  by_cases h : e.1 = p.1 ∧ e.2.1 = p.2 <;> simp [h]
theorem thn_le (L : List T3) (p : P2i) : (thn L p).length ≤ L.length := by unfold thn; rw [List.length_map]; exact List.length_filter_le ..
structure Mv (L : List T3) (K : List P2i) : Prop where
  nd : K.Nodup
  ln : K.length ≤ L.length
  mem : ∀ p, p ∈ K ↔ ∃ x, (p.1, p.2, x) ∈ L
def movD (L : List T3) (K : List P2i) : D := pmD K fun p => .lst ((thn L p).map .int)
theorem Mv.val {L : List T3} {K : List P2i} (H : Mv L K) (p : P2i) : (if p ∈ K then D.lst ((thn L p).map .int) else .lst []) = .lst ((thn L p).map .int) := by
  by_cases h : p ∈ K
  · rw [if_pos h]
  · rw [if_neg h]
    have : thn L p = [] := List.eq_nil_iff_forall_not_mem.mpr fun x hx => h ((H.mem p).mpr ⟨x, thn_mem.mp hx⟩)
    rw [this]; rfl
theorem p_lmovD {L : List T3} (hl : L.length ≤ 300) : ∃ K, Mv L K ∧ d__law_moves [.lst (L.map tD)] = .ok (movD L K) := by
  have hs := size_ge
  suffices h : Ok (d__law_moves [.lst (L.map tD)]) fun d => ∃ K, Mv L K ∧ d = movD L K by
    obtain ⟨d, e, K, h1, rfl⟩ := h
    exact ⟨K, h1, e⟩
  unfold d__law_moves m__law_moves
  rw [ok_nox, k_run]
  refine seq_cut (fun S => S = [(some (Sl.mk false (.lst (L.map tD)))), (some (Sl.mk true (movD [] []))), none, none, none]) (by simp? only []; rfl) ?_
  rintro S rfl
  refine seq_cut (fun S => ∃ K a b c, Mv L K ∧ S = [(some (Sl.mk false (.lst (L.map tD)))), (some (Sl.mk true (movD L K))), a, b, c]) ?_ ?_
  · simp? only []
    refine for_typed tD (fun done S => ∃ K a b c, Mv done K ∧ S = [(some (Sl.mk false (.lst (L.map tD)))), (some (Sl.mk true (movD done K))), a, b, c]) L _ ⟨[], none, none, none, ⟨List.nodup_nil, Nat.le_refl _, by simp⟩, rfl⟩ ?_ ?_
    · rintro done x rest S eq ⟨K, a, b, c, H, rfl⟩
      have ld : done.length < 300 := by have := congrArg List.length eq; simp at this; omega
      have lk := H.ln
      have hg : getOr (movD done K) (.tup [.int x.1, .int x.2.1]) (.lst []) = .ok (.lst ((thn done (x.1, x.2.1)).map .int)) := by
        unfold movD; rw [getOr_pm, H.val]
      have lt := thn_le done (x.1, x.2.1)
      have isd : isDct (movD done K) = true := rfl
      rw [k_gT3]
      simp? only [isd, hg]
      have hp : putA 1 [(some (Sl.mk false (.lst (L.map tD)))), (some (Sl.mk true (movD done K))), (some (Sl.mk false (.int x.1))), (some (Sl.mk false (.int x.2.1))), (some (Sl.mk false (.int x.2.2)))] (movD done K) (.lst ((thn done (x.1, x.2.1)).map .int ++ [.int x.2.2])) (.tup [.int x.1, .int x.2.1]) = .ok (.nx, [(some (Sl.mk false (.lst (L.map tD)))), (some (Sl.mk true (movD (done ++ [x]) (if (x.1, x.2.1) ∈ K then K else K ++ [(x.1, x.2.1)])))), (some (Sl.mk false (.int x.1))), (some (Sl.mk false (.int x.2.1))), (some (Sl.mk false (.int x.2.2)))]) := by
        unfold movD
        rw [put_pm H.nd (by omega)]
        have ef : (fun y => if y = (x.1, x.2.1) then D.lst ((thn done (x.1, x.2.1)).map .int ++ [.int x.2.2]) else D.lst ((thn done y).map .int)) = fun y => D.lst ((thn (done ++ [x]) y).map .int) := by
          funext y
          rw [thn_snoc]
          by_cases hy : y = (x.1, x.2.1)
          · subst hy; rw [if_pos rfl, if_pos ⟨rfl, rfl⟩, List.map_append]; rfl
          · rw [if_neg hy, if_neg (fun z => hy (by obtain ⟨y1, y2⟩ := y; rw [z.1, z.2])), List.append_nil]
        rw [ef]
        rfl
      refine ⟨by omega, ?_⟩
      simp? only [hp]
      refine ⟨_, _, _, _, ⟨?_, ?_, fun p => ?_⟩, rfl⟩
      · by_cases h : (x.1, x.2.1) ∈ K
        · rw [if_pos h]; exact H.nd
        · rw [if_neg h]; exact List.nodup_append.mpr ⟨H.nd, by simp, fun a ha b hb => by rw [List.mem_singleton] at hb; subst hb; exact fun z => h (z ▸ ha)⟩
      · rw [List.length_append, List.length_singleton]
        split
        · omega
        · rw [List.length_append, List.length_singleton]; omega
      · have key : p ∈ (if (x.1, x.2.1) ∈ K then K else K ++ [(x.1, x.2.1)]) ↔ p ∈ K ∨ p = (x.1, x.2.1) := by
          by_cases g : (x.1, x.2.1) ∈ K
          · rw [if_pos g]; exact ⟨.inl, fun z => z.elim id fun z => z ▸ g⟩
          · rw [if_neg g]; simp
        rw [key, H.mem]
        constructor
        · rintro (⟨y, hy⟩ | rfl)
          · exact ⟨y, List.mem_append_left _ hy⟩
          · exact ⟨x.2.2, by simp⟩
        · rintro ⟨y, hy⟩
          rcases List.mem_append.mp hy with hy | hy
          · exact .inl ⟨y, hy⟩
          · have := List.mem_singleton.mp hy
            exact .inr (by rw [← this])
    · rintro S ⟨K, a, b, c, H, rfl⟩
      exact ⟨rfl, K, a, b, c, H, rfl⟩
  rintro S ⟨K, a, b, c, H, rfl⟩
  simp? only []
  exact ⟨K, H, rfl⟩
theorem p_laftE {L : List T3} {K : List P2i} (hl : L.length ≤ 300) (H : Mv L K) (X : List Int) (b : Int) : d__law_after [movD L K, .tup (X.map .int), .int b] = .ok (.tup ((srtN (X.flatMap fun s => thn L (s, b))).map .int)) := by
  have hs := size_ge
  refine Ok.eq ?_
  unfold d__law_after m__law_after
  rw [ok_nox, k_run]
  refine seq_cut (fun S => S = [(some (Sl.mk false (movD L K))), (some (Sl.mk false (.tup (X.map .int)))), (some (Sl.mk false (.int b))), (some (Sl.mk true (.lst (([] : List Int).map .int)))), none, none]) (by simp? only []) ?_
  rintro S rfl
  have lb : ∀ F : List Int, F.Nodup → (∀ y ∈ F, ∃ s, (s, b, y) ∈ L) → F.length < sizeLine := fun F nd h => by
    have := nd_le (b := L.map fun e => e.2.2) nd fun y hy => by
      obtain ⟨s, hs⟩ := h y hy
      exact List.mem_map.mpr ⟨_, hs, rfl⟩
    rw [List.length_map] at this
    omega
  refine seq_cut (fun S => ∃ (F : List Int) (d e : Option Sl), F.Nodup ∧ (∀ y, y ∈ F ↔ ∃ s ∈ X, (s, b, y) ∈ L) ∧ S = [(some (Sl.mk false (movD L K))), (some (Sl.mk false (.tup (X.map .int)))), (some (Sl.mk false (.int b))), (some (Sl.mk true (.lst (F.map .int)))), d, e]) ?_ ?_
  · simp? only []
    refine for_typed D.int (fun done S => ∃ (F : List Int) (d e : Option Sl), F.Nodup ∧ (∀ y, y ∈ F ↔ ∃ s ∈ done, (s, b, y) ∈ L) ∧ S = [(some (Sl.mk false (movD L K))), (some (Sl.mk false (.tup (X.map .int)))), (some (Sl.mk false (.int b))), (some (Sl.mk true (.lst (F.map .int)))), d, e]) X _ ⟨[], none, none, List.nodup_nil, by simp, rfl⟩ ?_ ?_
    · rintro done x rest S eq ⟨F, d, e, nd, hF, rfl⟩
      have hg : getOr (movD L K) (.tup [.int x, .int b]) (.lst []) = .ok (.lst ((thn L (x, b)).map .int)) := by
        unfold movD; rw [getOr_pm, H.val]
      have isd : isDct (movD L K) = true := rfl
      simp? only [isd, hg]
      refine for_typed D.int (fun dn S => ∃ (F : List Int) (e : Option Sl), F.Nodup ∧ (∀ y, y ∈ F ↔ (∃ s ∈ done, (s, b, y) ∈ L) ∨ y ∈ dn) ∧ S = [(some (Sl.mk false (movD L K))), (some (Sl.mk false (.tup (X.map .int)))), (some (Sl.mk false (.int b))), (some (Sl.mk true (.lst (F.map .int)))), (some (Sl.mk false (.int x))), e]) (thn L (x, b)) _ ⟨F, e, nd, fun y => by rw [hF]; simp, rfl⟩ ?_ ?_
      · rintro dn y rest2 S eq2 ⟨F, e, nd, hF, rfl⟩
        have hy : (x, b, y) ∈ L := thn_mem.mp (by rw [eq2]; simp : y ∈ thn L (x, b))
        have bd := lb F nd fun z hz => by
          rcases (hF z).mp hz with ⟨s, _, h⟩ | h
          · exact ⟨s, h⟩
          · exact ⟨x, thn_mem.mp (by rw [eq2]; exact List.mem_append_left _ h : z ∈ thn L (x, b))⟩
        rw [k_gN]
        simp only [List.set_cons_succ, List.set_cons_zero]
        have e0 : Ok (tB' (e2 notInA (eW 5) (eW 3)) [(some (Sl.mk false (movD L K))), (some (Sl.mk false (.tup (X.map .int)))), (some (Sl.mk false (.int b))), (some (Sl.mk true (.lst (F.map .int)))), (some (Sl.mk false (.int x))), (some (Sl.mk false (.int y)))]) fun b => b = !decide (y ∈ F) := by simp? only [k_ninI]
        rw [k_if]
        refine e0.mono ?_
        rintro _ rfl
        refine ⟨fun h => ?_, fun h => ?_⟩
        · have hn : y ∉ F := by simpa using h
          simp? only []
          refine ⟨by omega, F ++ [y], (some (Sl.mk false (.int y))), List.nodup_append.mpr ⟨nd, by simp, fun a ha b hb => by rw [List.mem_singleton] at hb; subst hb; exact fun z => hn (z ▸ ha)⟩, fun z => ?_, by rw [List.map_append]; rfl⟩
          rw [List.mem_append, List.mem_append, hF]
          simp [or_assoc]
        · have hn : y ∈ F := by simpa using h
          refine ok_ok.mpr ⟨F, _, nd, fun z => ?_, rfl⟩
          rw [List.mem_append, hF]
          constructor
          · rintro (h | h)
            · exact .inl h
            · exact .inr (.inl h)
          · rintro (h | h | h)
            · exact .inl h
            · exact .inr h
            · rw [List.mem_singleton.mp h]; exact (hF y).mp hn
      · rintro S ⟨F, e, nd, hF, rfl⟩
        refine ⟨F, _, e, nd, fun y => ?_, rfl⟩
        rw [hF]
        constructor
        · rintro (⟨s, h1, h2⟩ | h)
          · exact ⟨s, List.mem_append_left _ h1, h2⟩
          · exact ⟨x, by simp, thn_mem.mp h⟩
        · rintro ⟨s, h1, h2⟩
          rcases List.mem_append.mp h1 with h1 | h1
          · exact .inl ⟨s, h1, h2⟩
          · rw [List.mem_singleton.mp h1] at h2; exact .inr (thn_mem.mpr h2)
    · rintro S ⟨F, d, e, nd, hF, rfl⟩
      exact ⟨rfl, F, d, e, nd, hF, rfl⟩
  rintro S ⟨F, d, e, nd, hF, rfl⟩
  simp? only [k_srtI]
  have : F.mergeSort ile = srtN (X.flatMap fun s => thn L (s, b)) := by
    rw [← srtN_nd nd]
    refine srtN_congr fun y => ?_
    rw [hF, List.mem_flatMap]
    simp only [thn_mem]
  rw [this]
theorem p_is_word {xs : List P2i} (h : ∀ p ∈ xs, p.2 = 0 ∨ p.2 = 1) : d__law_is_word [.tup (xs.map fun p => .int p.2)] = .ok (.bl true) := by
  refine Ok.eq ?_
  unfold d__law_is_word m__law_is_word
  rw [ok_nox, k_run]
  have i1 : isiD (.tup (xs.map fun p => .int p.2)) (.ty "tuple") = .ok (.bl true) := rfl
  refine seq_cut (fun S => S = [(some (Sl.mk false (.tup (xs.map fun p => .int p.2)))), none]) (by simp? only [i1]) ?_
  rintro S rfl
  refine seq_cut (fun S => ∃ a, S = [(some (Sl.mk false (.tup (xs.map fun p => .int p.2)))), a]) ?_ ?_
  · simp? only []
    refine for_typed (fun p : P2i => D.int p.2) (fun _ S => ∃ a, S = [(some (Sl.mk false (.tup (xs.map fun p => .int p.2)))), a]) xs _ ⟨none, rfl⟩ ?_ ?_
    · rintro done x rest S eq ⟨a, rfl⟩
      have hx := h x (by rw [eq]; simp)
      have i2 : isiD (.int x.2) (.ty "int") = .ok (.bl true) := rfl
      have i3 : isiD (.int x.2) (.ty "bool") = .ok (.bl false) := rfl
      have i4 : notInD (.int x.2) (.tup [.int 0, .int 1]) = .ok (.bl false) := by rcases hx with e | e <;> rw [e] <;> rfl
      simp? only [i2, i3, i4]
      exact ⟨_, rfl⟩
    · rintro S ⟨a, rfl⟩
      exact ⟨rfl, _, rfl⟩
  rintro S ⟨a, rfl⟩
  simp? only []
set_option Elab.async false
set_option linter.all false
set_option maxRecDepth 100000
open M PySem L2
theorem p_afterB {size : Int} {steps : List T3} {starts S : List Int} {b : Int} (tS : steps.Pairwise tlt) (hf : (S.flatMap fun s => nxt steps s b).length ≤ 900) (hn : (nubI (S.flatMap fun s => nxt steps s b)).length < 64) :
    d_Supply_after [supO size steps starts, .tup (S.map .int), .int b] = .ok (.tup ((aft steps S b).map .int)) := by
  have hs := size_ge
  refine Ok.eq ?_
  unfold d_Supply_after m_Supply_after
  rw [ok_nox, k_run]
  simp? only [su_3, mv_isD]
  refine ⟨fun h => ?_, fun h => ?_⟩
  · have h := of_decide_eq_true h
    match S, h with
    | [s], _ =>
      simp? only [atI_0, getOr_mv]
      unfold aft
      rw [List.flatMap_cons, List.flatMap_nil, List.append_nil, srtN_id (nxt_strict tS s b)]
  · have L : srtSc2E (fun S => (eV 1) S >>= itemsD) (gN 3) tY (fun S => (eGet2 (e1 (fldD 3 3) (eW 0)) (eT (aC (eV 3) (aC (eV 2) aN))) (eT aN)) S >>= itemsD) (gN 4) tY (eV 4) [3, 4] [4] [(some (Sl.mk false (supO size steps starts))), (some (Sl.mk false (.tup (S.map .int)))), (some (Sl.mk false (.int b))), none, none] = .ok (.lst ((aft steps S b).map .int)) := by
      have z := lc2_typed (ga := gN 3) (t := tY) (fi1 := fun S => (eGet2 (e1 (fldD 3 3) (eW 0)) (eT (aC (eV 3) (aC (eV 2) aN))) (eT aN)) S >>= itemsD) (ga1 := gN 4) (t1 := tY) (fe := eV 4) (vs := [3, 4]) (vs1 := [4]) (S := wipeS [(some (Sl.mk false (supO size steps starts))), (some (Sl.mk false (.tup (S.map .int)))), (some (Sl.mk false (.int b))), none, none] [3, 4]) D.int D.int (fun s => nxt steps s b) (fun _ => true) (fun _ _ => true) (fun _ y => .int y) S (fun x _ => by
        simp? only [su_3, mv_isD, getOr_mv]
        rfl)
      have e : itemsD (.tup (S.map .int)) = .ok (S.map .int) := rfl
      show ((itemsD (.tup (S.map .int))) >>= fun ds => lc2F _ _ _ _ _ _ _ _ _ ds >>= fun ys => srtEnd ys) = _
      rw [e, R.ok_bind, z, R.ok_bind]
      have e2 : (List.flatMap (fun x => ((nxt steps x b).filter fun _ => true).map fun y => D.int y) (S.filter fun _ => true)) = (S.flatMap fun s => nxt steps s b).map .int := by
        rw [filter_true fun _ _ => rfl, List.map_flatMap]
        congr 1
        funext x
        rw [filter_true fun _ _ => rfl]
      rw [e2, srtEnd_int hf hn]
      rfl
    simp? only [L]
theorem flat_nd : ∀ (S : List Int), S.Nodup → ∀ (L : List T3) (b : Int), (S.flatMap fun s => nxt L s b).length ≤ L.length
  | [], _, L, _ => Nat.zero_le _
  | s :: S, nd, L, b => by
    have h1 := List.nodup_cons.mp nd
    have ih := flat_nd S h1.2 (L.filter fun e => !decide (e.1 = s)) b
    have e1 : (S.flatMap fun y => nxt L y b) = S.flatMap fun y => nxt (L.filter fun e => !decide (e.1 = s)) y b := by
      rw [List.flatMap_def, List.flatMap_def]
      congr 1
      refine List.map_congr_left fun y hy => ?_
      have hne : y ≠ s := fun z => h1.1 (by rw [← z]; exact hy)
      unfold nxt
      rw [List.filter_filter]
      congr 2
      funext e
      by_cases h : e.1 = y
      · simp [h, hne]
      · simp [h]
    have e2 : (nxt L s b).length ≤ (L.filter fun e => decide (e.1 = s)).length := by
      unfold nxt
      rw [List.length_map]
      rw [← List.countP_eq_length_filter, ← List.countP_eq_length_filter]
      refine List.countP_mono_left fun e _ h => ?_
      simp only [decide_eq_true_eq] at h ⊢
      exact h.1
    have e3 : L.length = (L.filter fun e => decide (e.1 = s)).length + (L.filter fun e => !decide (e.1 = s)).length := by
      have := List.length_eq_countP_add_countP (p := fun e : T3 => decide (e.1 = s)) (l := L)
      rw [List.countP_eq_length_filter, List.countP_eq_length_filter] at this
      rw [this]
      congr 2
      refine List.filter_congr fun e _ => ?_
      by_cases h : e.1 = s <;> simp [h]
    rw [List.flatMap_cons, List.length_append, e1]
    omega
structure SpO (n : Int) (L : List T3) (g : List Int) : Prop where
  n1 : 1 ≤ n
  n2 : n ≤ 60
  tS : L.Pairwise tlt
  ln : L.length ≤ 300
  bd : ∀ e ∈ L, 0 ≤ e.2.2 ∧ e.2.2 < n
  gS : g.Pairwise (· < ·)
  gB : ∀ x ∈ g, 0 ≤ x ∧ x < n
  g0 : g ≠ []
theorem SpO.after {n : Int} {L : List T3} {g : List Int} (V : SpO n L g) {S : List Int} (nd : S.Nodup) (b : Int) : d_Supply_after [supO n L g, .tup (S.map .int), .int b] = .ok (.tup ((aft L S b).map .int)) := by
  refine p_afterB V.tS ?_ ?_
  · have := flat_nd S nd L b; have := V.ln; omega
  · have := nd_bdZ (nubI_nodup (S.flatMap fun s => nxt L s b)) (size := n) fun x hx => by
      rw [nubI_mem, List.mem_flatMap] at hx
      obtain ⟨s, _, h⟩ := hx
      exact V.bd _ (nxt_mem.mp h)
    have := V.n2
    omega
theorem aft_strict (L : List T3) (S : List Int) (b : Int) : (aft L S b).Pairwise (· < ·) := srtN_strict _
theorem SpO.aft_b {n : Int} {L : List T3} {g : List Int} (V : SpO n L g) (S : List Int) (b : Int) : ∀ x ∈ aft L S b, 0 ≤ x ∧ x < n := fun x hx => by
  obtain ⟨s, _, h⟩ := aft_mem.mp hx
  exact V.bd _ h
structure SpW (n : Int) (L : List T3) (g : List Int) : Prop where
  n1 : 1 ≤ n
  n2 : n ≤ 102
  tS : L.Pairwise tlt
  ln : L.length ≤ 300
  bd : ∀ e ∈ L, 0 ≤ e.2.2 ∧ e.2.2 < n
  gS : g.Pairwise (· < ·)
  gB : ∀ x ∈ g, 0 ≤ x ∧ x < n
  g0 : g ≠ []
  gl : g.length ≤ 60
  wd : ∀ S b, S.Nodup → S.length ≤ 60 → (aft L S b).length ≤ 60
theorem SpW.aft_b {n : Int} {L : List T3} {g : List Int} (V : SpW n L g) (S : List Int) (b : Int) : ∀ x ∈ aft L S b, 0 ≤ x ∧ x < n := fun x hx => by
  obtain ⟨s, _, h⟩ := aft_mem.mp hx
  exact V.bd _ h
theorem SpW.after {n : Int} {L : List T3} {g : List Int} (V : SpW n L g) {S : List Int} (nd : S.Nodup) (hl : S.length ≤ 60) (b : Int) : d_Supply_after [supO n L g, .tup (S.map .int), .int b] = .ok (.tup ((aft L S b).map .int)) := by
  refine p_afterB V.tS ?_ ?_
  · have := flat_nd S nd L b; have := V.ln; omega
  · have h := V.wd S b nd hl
    unfold aft srtN at h
    rw [List.length_mergeSort] at h
    omega
def kNk (q : Int × List Int) : NestedKey := .tup [.num q.1, .tup (q.2.map .num)]
def nsD (K : List (Int × List Int)) : D := .dig (K.map kNk) (K.map fun _ => .bl true)
theorem num_inj : ∀ {a b : List Int}, a.map NestedKey.num = b.map NestedKey.num → a = b
  | [], [], _ => rfl
  | [], _ :: _, h => by simp at h
  | _ :: _, [], h => by simp at h
  | x :: a, y :: b, h => by
    rw [List.map_cons, List.map_cons] at h
    injection h with h1 h2
    injection h1 with h1
    rw [h1, num_inj h2]
theorem kNk_inj {p q : Int × List Int} (h : kNk p = kNk q) : p = q := by
  obtain ⟨a, b⟩ := p
  obtain ⟨c, d⟩ := q
  unfold kNk at h
  injection h with h
  injection h with h1 h2
  injection h2 with h2 _
  injection h1 with h1
  injection h2 with h2
  dsimp only at h1 h2
  rw [h1, num_inj h2]
theorem nkDs_int : ∀ l : List Int, nkDs (l.map .int) = some (l.map .num)
  | [] => rfl
  | x :: l => by
    rw [List.map_cons, List.map_cons]
    simp only [nkDs]
    rw [nkDs_int l]
    rfl
theorem depth_int : ∀ l : List Int, NestedKey.depthAll (l.map .num) = 0
  | [] => rfl
  | x :: l => by
    rw [List.map_cons]
    simp only [NestedKey.depthAll]
    rw [depth_int l]
    rfl
theorem keyN_q (s : Int) (Y : List Int) : keyN (.tup [.int s, .tup (Y.map .int)]) = some (kNk (s, Y)) := by
  have e : nkD (.tup [.int s, .tup (Y.map .int)]) = some (kNk (s, Y)) := by
    simp only [nkD, nkDs, nkDs_int]
    rfl
  unfold keyN
  rw [e]
  unfold kNk
  dsimp only
  rw [if_pos]
  simp only [NestedKey.depth, NestedKey.depthAll, depth_int]
  decide
theorem kNk_mem {q : Int × List Int} {K : List (Int × List Int)} : kNk q ∈ K.map kNk ↔ q ∈ K := by
  rw [List.mem_map]
  exact ⟨fun ⟨p, hp, e⟩ => by rw [← kNk_inj e]; exact hp, fun h => ⟨q, h, rfl⟩⟩
theorem notin_ns {s : Int} {Y : List Int} {K : List (Int × List Int)} : notInN (.tup [.int s, .tup (Y.map .int)]) (nsD K) = .ok (.bl (!decide ((s, Y) ∈ K))) := by
  unfold notInN nsD
  dsimp only
  rw [keyN_q]
  dsimp only
  rw [decide_eq_decide.mpr kNk_mem]
theorem put_ns {s : Int} {Y : List Int} {K : List (Int × List Int)} (h : (s, Y) ∉ K) (hl : K.length < sizeLine) {i : Nat} {S : M.Env} : putN i S (nsD K) (.bl true) (.tup [.int s, .tup (Y.map .int)]) = .ok (.nx, S.set i (some ⟨true, nsD (K ++ [(s, Y)])⟩)) := by
  unfold putN nsD
  dsimp only
  rw [keyN_q]
  dsimp only
  rw [if_pos ⟨fun z => h (kNk_mem.mp z), by rw [List.length_map]; exact hl⟩, List.map_append, List.map_append]
  rfl
theorem k_putN {i : Nat} {fy f : FE} {S : M.Env} {QS : Fl × M.Env → Prop} : Ok (sPutN i fy f S) QS ↔ Ok (ownD i S) fun m => Ok (f S) fun d => Ok (fy S) fun y => Ok (putN i S m d y) QS := by
  unfold sPutN; simp only [ok_bind]
set_option Elab.async false
set_option linter.all false
set_option maxRecDepth 100000
open M PySem L2
structure Fam (L : List T3) (g : List Int) (FB : List (List Int)) : Prop where
  g : g ∈ FB
  cl : ∀ Y ∈ FB, ∀ c, aft L Y c ≠ [] → aft L Y c ∈ FB
  st : ∀ Y ∈ FB, Y.Nodup
def sysP (L1 : List T3) (g1 : List Int) (L2 : List T3) (g2 : List Int) : Sys Int := ⟨fun s c t => (s, c, t) ∈ L1, fun s => s ∈ g1, aft L2, g2⟩
def KOk (n : Int) (FB : List (List Int)) (K : List (Int × List Int)) : Prop := K.Nodup ∧ ∀ q ∈ K, (0 ≤ q.1 ∧ q.1 < n) ∧ q.2 ∈ FB
theorem KOk.le {n : Int} {FB : List (List Int)} {K : List (Int × List Int)} (h : KOk n FB K) : K.length ≤ n.toNat * FB.length := by
  have := nd_leG (b := (List.range n.toNat).flatMap fun i : Nat => FB.map fun Y => ((i : Int), Y)) h.1 fun q hq => by
    obtain ⟨a, b⟩ := h.2 q hq
    rw [List.mem_flatMap]
    exact ⟨q.1.toNat, List.mem_range.mpr (by omega), List.mem_map.mpr ⟨q.2, b, by rw [show ((q.1.toNat : Nat) : Int) = q.1 by omega]⟩⟩
  refine Nat.le_trans this ?_
  rw [List.length_flatMap]
  have e : ∀ m : Nat, ((List.range m).map fun i : Nat => (FB.map fun Y => ((i : Int), Y)).length).sum = m * FB.length := by
    intro m
    induction m with
    | zero => simp
    | succ m ih => rw [List.range_succ, List.map_append, List.sum_append, ih]; simp [Nat.succ_mul]
  rw [e]
  exact Nat.le_refl _
def enD (e : En Int) : D := .tup [.tup (e.w.map .int), .tup (e.X.map .int), .tup (e.Y.map .int)]
theorem k_gTe {e : En Int} {a b c : Nat} {S : M.Env} {QE : M.Env → Prop} : Ok (gT 3 (gsC (gN a) (gsC (gN b) (gsC (gN c) gsN))) (enD e) S) QE ↔ QE (((S.set a (some ⟨false, .tup (e.w.map .int)⟩)).set b (some ⟨false, .tup (e.X.map .int)⟩)).set c (some ⟨false, .tup (e.Y.map .int)⟩)) := by
  unfold enD
  simp? only []
def EX (FB : List (List Int)) (e : En Int) : Prop := (e.X.Nodup ∧ e.X.length ≤ 60) ∧ e.Y ∈ FB
theorem seq_rt {QS : Fl × M.Env → Prop} {S : M.Env} {s r : FS} (P : M.Env → Prop) (B : D → Prop) (h : Ok (s S) fun z => (z.1 = .nx ∧ P z.2) ∨ ∃ d, z.1 = .rt d ∧ B d) (k : ∀ S', P S' → Ok (r S') QS) (kb : ∀ d S', B d → QS (.rt d, S')) : Ok (sSeq s r S) QS := by
  rw [k_seq]
  refine h.mono fun z hz => ?_
  obtain ⟨fl, S'⟩ := z
  rcases hz with ⟨rfl, hp⟩ | ⟨d, rfl, hp⟩
  · exact k S' hp
  · exact kb d S' hp
def Best {σ : Type} (A : Sys σ) (d : D) : Prop := ∃ w, (Pw A w ∧ ∀ w', Pw A w' → cd w ≤ cd w') ∧ w.length ≤ 4950 ∧ d = .tup (w.map .int)
theorem p_parting {n1 n2 : Int} {L1 L2 : List T3} {g1 g2 : List Int} {FB : List (List Int)} (V1 : SpW n1 L1 g1) (V2 : SpO n2 L2 g2) (F : Fam L2 g2 FB) (cap : n1.toNat * FB.length ≤ 4900) :
    Ok (d_parting [supO n1 L1 g1, supO n2 L2 g2]) fun d => Best (sysP L1 g1 L2 g2) d ∨ ((∀ w, ¬ Pw (sysP L1 g1 L2 g2) w) ∧ d = .non) := by
  have hs := size_ge
  have nd1 : g1.Nodup := strict_nd V1.gS
  have l1 : g1.length ≤ 60 := V1.gl
  unfold d_parting m_parting
  rw [ok_nox, k_run]
  refine seq_cut (fun S => S = [(some (Sl.mk false (supO n1 L1 g1))), (some (Sl.mk false (supO n2 L2 g2))), (some (Sl.mk true (nsD []))), none, none, none, none, none, none, none, none, none]) (by simp? only []; rfl) ?_
  rintro S rfl
  refine seq_cut (fun S => ∃ a, S = [(some (Sl.mk false (supO n1 L1 g1))), (some (Sl.mk false (supO n2 L2 g2))), (some (Sl.mk true (nsD (g1.map fun s => (s, g2))))), a, none, none, none, none, none, none, none, none]) ?_ ?_
  · simp? only [su_2]
    refine for_typed D.int (fun done S => ∃ a, S = [(some (Sl.mk false (supO n1 L1 g1))), (some (Sl.mk false (supO n2 L2 g2))), (some (Sl.mk true (nsD (done.map fun s => (s, g2))))), a, none, none, none, none, none, none, none, none]) g1 _ ⟨none, rfl⟩ ?_ ?_
    · rintro done x rest S eq ⟨a, rfl⟩
      have nd := nd1
      rw [eq] at nd
      have nx : x ∉ done := fun z => (List.nodup_append.mp nd).2.2 x z x (by simp) rfl
      have ld : done.length < 60 := by have := congrArg List.length eq; simp at this; omega
      have fr : (x, g2) ∉ done.map fun s => (s, g2) := fun z => by
        obtain ⟨y, hy, e⟩ := List.mem_map.mp z
        injection e with e
        exact nx (e ▸ hy)
      rw [k_gN]
      simp only [List.set_cons_succ, List.set_cons_zero]
      simp? only [k_putN, su_2, put_ns fr (by rw [List.length_map]; omega)]
      exact ⟨_, by rw [List.map_append]; rfl⟩
    · rintro S ⟨a, rfl⟩
      exact ⟨rfl, _, rfl⟩
  rintro S ⟨a3, rfl⟩
  refine seq_cut (fun S => S = [(some (Sl.mk false (supO n1 L1 g1))), (some (Sl.mk false (supO n2 L2 g2))), (some (Sl.mk true (nsD (g1.map fun s => (s, g2))))), a3, (some (Sl.mk false (.lst ([(⟨[], g1, g2⟩ : En Int)].map enD)))), none, none, none, none, none, none, none]) (by simp? only [su_2]; rfl) ?_
  rintro S rfl
  have B0 : BI (sysP L1 g1 L2 g2) 0 0 (g1.map fun s => ⟨s, g2, []⟩) (g1.map fun s => (s, g2)) [⟨[], g1, g2⟩] [] := BI.start (A := sysP L1 g1 L2 g2) (fun s => Iff.rfl) (fun q hq => by
    obtain ⟨s, hs, rfl⟩ := List.mem_map.mp hq
    exact ⟨hs, rfl⟩) V2.g0
  have K0 : KOk n1 FB (g1.map fun s => (s, g2)) := ⟨nd_map _ nd1 fun a _ b _ h => by injection h, fun q hq => by
    obtain ⟨s, hs, rfl⟩ := List.mem_map.mp hq
    exact ⟨V1.gB s hs, F.g⟩⟩
  generalize hWS : (g1.map fun s => (⟨s, g2, []⟩ : It Int)) = WS0 at B0
  generalize hK : (g1.map fun s => (s, g2)) = Kq0 at B0 K0 ⊢
  have k1 : 1 ≤ Kq0.length := by rw [← hK, List.length_map]; exact List.length_pos_iff.mpr V1.g0
  have E0 : ∀ e ∈ [(⟨[], g1, g2⟩ : En Int)], EX FB e := fun e he => by rw [List.mem_singleton.mp he]; exact ⟨⟨nd1, l1⟩, F.g⟩
  generalize hlv : [(⟨[], g1, g2⟩ : En Int)] = lv0 at B0 E0 ⊢
  have lv1 : lv0 ≠ [] := by rw [← hlv]; simp
  have lv2 : lv0.length ≤ 5000 := by rw [← hlv]; exact Nat.le_of_ble_eq_true rfl
  refine seq_rt (fun S => ∀ w, ¬ Pw (sysP L1 g1 L2 g2) w) (fun d => Best (sysP L1 g1 L2 g2) d) ?_ ?_ ?_
  rotate_left
  · intro S h
    simp? only []
    exact .inr h
  · intro d S h
    exact .inl h
  refine while_inv (fun w S => ∃ (n k : Nat) (WS : List (It Int)) (K : List (Int × List Int)) (lv : List (En Int)) (o : Bool) (a b c d e f g h : Option Sl), BI (sysP L1 g1 L2 g2) n k WS K lv [] ∧ KOk n1 FB K ∧ (lv ≠ [] → n + 1 ≤ K.length) ∧ (∀ e ∈ lv, EX FB e) ∧ lv.length ≤ 5000 ∧ w = 2 * (4900 - K.length) + (if lv = [] then 0 else 1) ∧
    S = [(some (Sl.mk false (supO n1 L1 g1))), (some (Sl.mk false (supO n2 L2 g2))), (some (Sl.mk true (nsD K))), a, some ⟨o, .lst (lv.map enD)⟩, b, c, d, e, f, g, h]) (2 * (4900 - Kq0.length) + 1) 20000 _ (by omega) ⟨0, 0, WS0, Kq0, lv0, false, a3, none, none, none, none, none, none, none, B0, K0, fun _ => k1, E0, lv2, by rw [if_neg lv1], rfl⟩ ?_
  rintro w S ⟨n, k, WS, K, lv, o, a, b, c, d, e, f, g, h, B, KO, hn, hE, hlen, rfl, rfl⟩
  have lK := Nat.le_trans KO.le cap
  have e0 : Ok (tT' (eW 4) [(some (Sl.mk false (supO n1 L1 g1))), (some (Sl.mk false (supO n2 L2 g2))), (some (Sl.mk true (nsD K))), a, some ⟨o, .lst (lv.map enD)⟩, b, c, d, e, f, g, h]) fun b => b = !(lv.map enD).isEmpty := by simp? only []
  refine e0.mono ?_
  rintro _ rfl
  refine ⟨fun hb => ?_, fun hb => ?_⟩
  rotate_left
  · have hv : lv = [] := by cases lv with | nil => rfl | cons x r => cases hb
    subst hv
    exact .inl ⟨rfl, B.none⟩
  have hv : lv ≠ [] := fun z => by subst z; cases hb
  have hn := hn hv
  refine seq_cut (fun S => S = [(some (Sl.mk false (supO n1 L1 g1))), (some (Sl.mk false (supO n2 L2 g2))), (some (Sl.mk true (nsD K))), a, some ⟨o, .lst (lv.map enD)⟩, (some (Sl.mk true (.lst (([] : List (En Int)).map enD)))), c, d, e, f, g, h]) (by simp? only []) ?_
  rintro S rfl
  refine seq_rt (fun S => ∃ (k : Nat) (WS : List (It Int)) (K' : List (Int × List Int)) (lon : List (En Int)) (a c d e f g h : Option Sl), BI (sysP L1 g1 L2 g2) n k WS K' [] lon ∧ KOk n1 FB K' ∧ (∀ e ∈ lon, EX FB e) ∧ K.length + lon.length ≤ K'.length ∧
    S = [(some (Sl.mk false (supO n1 L1 g1))), (some (Sl.mk false (supO n2 L2 g2))), (some (Sl.mk true (nsD K'))), a, some ⟨o, .lst (lv.map enD)⟩, (some (Sl.mk true (.lst (lon.map enD)))), c, d, e, f, g, h]) (fun d => Best (sysP L1 g1 L2 g2) d) ?_ ?_ ?_
  rotate_left
  · rintro S ⟨k, WS, K', lon, a, c, d, e, f, g, h, B, KO', hE', hl, rfl⟩
    have lK' := Nat.le_trans KO'.le cap
    simp? only []
    refine ⟨2 * (4900 - K'.length) + (if lon = [] then 0 else 1), ?_, n + 1, k, WS, K', lon, _, _, _, _, _, _, _, _, _, B.next, KO', fun ne => ?_, hE', by omega, rfl, rfl⟩
    · rw [if_neg hv]
      by_cases z : lon = []
      · rw [if_pos z]; omega
      · rw [if_neg z]
        have := List.length_pos_iff.mpr z
        omega
    · have := List.length_pos_iff.mpr ne
      omega
  · intro d S h
    exact .inr ⟨d, rfl, h⟩
  rw [k_for]
  have ei : Ok ((fun S => (eC (f1 lstD) (aC (eW 4) aN)) S >>= itemsD) [(some (Sl.mk false (supO n1 L1 g1))), (some (Sl.mk false (supO n2 L2 g2))), (some (Sl.mk true (nsD K))), a, some ⟨o, .lst (lv.map enD)⟩, (some (Sl.mk true (.lst (([] : List (En Int)).map enD)))), c, d, e, f, g, h]) fun ds => ds = lv.map enD := by simp? only []
  refine ei.mono ?_
  rintro ds rfl
  refine for_typed enD (fun done S => ∃ (re : List (En Int)) (k : Nat) (WS : List (It Int)) (K' : List (Int × List Int)) (lon : List (En Int)) (a c d e f g h : Option Sl), lv = done ++ re ∧ BI (sysP L1 g1 L2 g2) n k WS K' re lon ∧ KOk n1 FB K' ∧ (∀ e ∈ lon, EX FB e) ∧ K.length + lon.length ≤ K'.length ∧
    S = [(some (Sl.mk false (supO n1 L1 g1))), (some (Sl.mk false (supO n2 L2 g2))), (some (Sl.mk true (nsD K'))), a, some ⟨o, .lst (lv.map enD)⟩, (some (Sl.mk true (.lst (lon.map enD)))), c, d, e, f, g, h]) lv _ ⟨lv, k, WS, K, [], a, c, d, e, f, g, h, rfl, B, KO, by simp, by simp, rfl⟩ ?_ ?_
  rotate_left
  · rintro S ⟨re, k, WS, K', lon, a, c, d, e, f, g, h, hr, B, KO', hE', hl, rfl⟩
    have : re = [] := by simpa using hr
    subst this
    exact .inl ⟨rfl, k, WS, K', lon, a, c, d, e, f, g, h, B, KO', hE', hl, rfl⟩
  rintro done en rest S eq ⟨re, k, WS, K', lon, a, c, d, e, f, g, h, hr, B, KO', hE', hl, rfl⟩
  have hre : re = en :: rest := by rw [eq] at hr; exact (List.append_cancel_left hr).symm
  subst hre
  have ENX := hE en (by rw [eq]; simp)
  have Z0 := B.take
  rw [k_gTe]
  simp only [List.set_cons_succ, List.set_cons_zero]
  rw [k_for]
  have eb : Ok ((fun S => (eT (aC (eI (0)) (aC (eI (1)) aN))) S >>= itemsD) [(some (Sl.mk false (supO n1 L1 g1))), (some (Sl.mk false (supO n2 L2 g2))), (some (Sl.mk true (nsD K'))), a, some ⟨o, .lst (lv.map enD)⟩, (some (Sl.mk true (.lst (lon.map enD)))), (some (Sl.mk false (.tup (en.w.map .int)))), (some (Sl.mk false (.tup (en.X.map .int)))), (some (Sl.mk false (.tup (en.Y.map .int)))), f, g, h]) fun ds => ds = [0, 1].map D.int := by
    simp? only []
  refine eb.mono ?_
  rintro ds rfl
  refine for_typed D.int (fun dn S => ∃ (WS : List (It Int)) (K' : List (Int × List Int)) (lon : List (En Int)) (a f g h : Option Sl), BZ (sysP L1 g1 L2 g2) n (2 * cd en.w + 1 + dn.length) WS K' en rest lon ∧ KOk n1 FB K' ∧ (∀ e ∈ lon, EX FB e) ∧ K.length + lon.length ≤ K'.length ∧
    S = [(some (Sl.mk false (supO n1 L1 g1))), (some (Sl.mk false (supO n2 L2 g2))), (some (Sl.mk true (nsD K'))), a, some ⟨o, .lst (lv.map enD)⟩, (some (Sl.mk true (.lst (lon.map enD)))), (some (Sl.mk false (.tup (en.w.map .int)))), (some (Sl.mk false (.tup (en.X.map .int)))), (some (Sl.mk false (.tup (en.Y.map .int)))), f, g, h]) [0, 1] _ ⟨WS, K', lon, a, f, g, h, Z0, KO', hE', hl, rfl⟩ ?_ ?_
  rotate_left
  · rintro S ⟨WS, K', lon, a, f, g, h, Z, KO', hE', hl, rfl⟩
    exact ⟨rest, _, WS, K', lon, a, _, _, _, _, _, _, by rw [eq]; simp, Z.rest, KO', hE', hl, rfl⟩
  rintro dn bt rs S eq3 ⟨WS, K', lon, a, f, g, h, Z, KO', hE', hl, rfl⟩
  have hbt : (bt = 0 ∧ dn.length = 0) ∨ (bt = 1 ∧ dn.length = 1) := by
    match dn, eq3 with
    | [], e => injection e with e1 e2; exact .inl ⟨e1.symm, rfl⟩
    | [x], e => injection e with e1 e2; injection e2 with e2 e3; exact .inr ⟨e2.symm, rfl⟩
    | x :: y :: r, e =>
      have := congrArg List.length e
      simp at this
  have hd : bt = 0 ∨ bt = 1 := by omega
  have hz : 2 * cd en.w + 1 + dn.length = 2 * cd en.w + 1 + bt.toNat := by omega
  have lK' := Nat.le_trans KO'.le cap
  have ew := Z.en
  have eA2 := V2.after (F.st _ ENX.2) bt
  have eA1 := V1.after ENX.1.1 ENX.1.2 bt
  have hY : (sysP L1 g1 L2 g2).f en.Y bt = aft L2 en.Y bt := rfl
  rw [k_gN]
  simp only [List.set_cons_succ, List.set_cons_zero]
  refine seq_cut (fun S => S = [(some (Sl.mk false (supO n1 L1 g1))), (some (Sl.mk false (supO n2 L2 g2))), (some (Sl.mk true (nsD K'))), a, some ⟨o, .lst (lv.map enD)⟩, (some (Sl.mk true (.lst (lon.map enD)))), (some (Sl.mk false (.tup (en.w.map .int)))), (some (Sl.mk false (.tup (en.X.map .int)))), (some (Sl.mk false (.tup (en.Y.map .int)))), (some (Sl.mk false (.int bt))), (some (Sl.mk false (.tup ((aft L2 en.Y bt).map .int)))), h]) (by simp? only [eA2, su_o]) ?_
  rintro S rfl
  have hhe : ∀ t ∈ (aft L1 en.X bt).filter (fun t => !decide ((t, aft L2 en.Y bt) ∈ K')), t ∈ aft L1 en.X bt ∧ (t, aft L2 en.Y bt) ∉ K' := fun t ht => by
    obtain ⟨a, b⟩ := List.mem_filter.mp ht
    exact ⟨a, by simpa using b⟩
  have ndhe : ((aft L1 en.X bt).filter fun t => !decide ((t, aft L2 en.Y bt) ∈ K')).Nodup := (strict_nd (aft_strict L1 en.X bt)).sublist List.filter_sublist
  have h1 : ∀ t ∈ (aft L1 en.X bt).filter (fun t => !decide ((t, aft L2 en.Y bt) ∈ K')), ∃ s ∈ en.X, (sysP L1 g1 L2 g2).R s bt t := fun t ht => aft_mem.mp (hhe t ht).1
  have h2 : ∀ s ∈ en.X, ∀ t, (sysP L1 g1 L2 g2).R s bt t → t ∈ (aft L1 en.X bt).filter (fun t => !decide ((t, aft L2 en.Y bt) ∈ K')) ∨ (t, (sysP L1 g1 L2 g2).f en.Y bt) ∈ K' := fun s hs t hR => by
    by_cases q : (t, aft L2 en.Y bt) ∈ K'
    · exact .inr q
    · exact .inl (List.mem_filter.mpr ⟨aft_mem.mpr ⟨s, hs, hR⟩, by simpa using q⟩)
  refine seq_cut (fun S => ∃ a, S = [(some (Sl.mk false (supO n1 L1 g1))), (some (Sl.mk false (supO n2 L2 g2))), (some (Sl.mk true (nsD K'))), a, some ⟨o, .lst (lv.map enD)⟩, (some (Sl.mk true (.lst (lon.map enD)))), (some (Sl.mk false (.tup (en.w.map .int)))), (some (Sl.mk false (.tup (en.X.map .int)))), (some (Sl.mk false (.tup (en.Y.map .int)))), (some (Sl.mk false (.int bt))), (some (Sl.mk false (.tup ((aft L2 en.Y bt).map .int)))), (some (Sl.mk false (.tup (((aft L1 en.X bt).filter (fun t => !decide ((t, aft L2 en.Y bt) ∈ K'))).map .int))))]) ?_ ?_
  · simp? only []
    refine k_lcT D.int (fun t => !decide ((t, aft L2 en.Y bt) ∈ K')) D.int (aft L1 en.X bt) ?_ ?_ ?_ ?_
    · simp? only [eA1, su_o]
    · have := nd_bdZ (strict_nd (aft_strict L1 en.X bt)) (V1.aft_b en.X bt)
      have := V1.n2
      omega
    · intro t ht
      simp? only [wipeS, notin_ns]
    · simp? only []
      exact ⟨_, rfl⟩
  rintro S ⟨a, rfl⟩
  generalize hq : (aft L1 en.X bt).filter (fun t => !decide ((t, aft L2 en.Y bt) ∈ K')) = he at hhe ndhe h1 h2
  have lhe : he.length ≤ 60 := by
    rw [← hq]
    exact Nat.le_trans (List.length_filter_le ..) (V1.wd en.X bt ENX.1.1 ENX.1.2)
  have cY : he ≠ [] → aft L2 en.Y bt ≠ [] → aft L2 en.Y bt ∈ FB := fun _ h => F.cl _ ENX.2 _ h
  have hitB := fun (t : Int) (ht : t ∈ he) (hy : aft L2 en.Y bt = []) => (h1 t ht).elim fun s hs => Z.hit hd hz hs.1 hs.2 hy
  have stepB := Z.bit hd hz h1 h2
  rw [hY] at stepB
  have tb : ∀ t ∈ he, 0 ≤ t ∧ t < n1 := fun t ht => V1.aft_b en.X bt t (hhe t ht).1
  generalize aft L2 en.Y bt = Y' at hhe h2 cY hitB stepB ⊢
  have et : Ok (tA (tT' (eW 11)) (tNo (tT' (eW 10))) [(some (Sl.mk false (supO n1 L1 g1))), (some (Sl.mk false (supO n2 L2 g2))), (some (Sl.mk true (nsD K'))), a, some ⟨o, .lst (lv.map enD)⟩, (some (Sl.mk true (.lst (lon.map enD)))), (some (Sl.mk false (.tup (en.w.map .int)))), (some (Sl.mk false (.tup (en.X.map .int)))), (some (Sl.mk false (.tup (en.Y.map .int)))), (some (Sl.mk false (.int bt))), (some (Sl.mk false (.tup (Y'.map .int)))), (some (Sl.mk false (.tup (he.map .int))))]) fun b => b = (!he.isEmpty && Y'.isEmpty) := by
    cases he <;> cases Y' <;> simp? only [] <;> simp
  rw [k_seq, k_if]
  refine et.mono ?_
  rintro _ rfl
  have lw : en.w.length + 1 ≤ 4900 := by omega
  refine ⟨fun hb => ?_, fun hb => ?_⟩
  · rw [Bool.and_eq_true] at hb
    have hy : Y' = [] := by simpa using hb.2
    obtain ⟨t, ht⟩ := List.exists_mem_of_ne_nil he (fun z => by rw [z] at hb; exact absurd hb.1 (by simp))
    have hB := hitB t ht hy
    simp? only []
    refine ⟨by omega, ?_⟩
    exact .inr ⟨_, rfl, en.w ++ [bt], hB, by rw [List.length_append]; simp; omega, by rw [List.map_append]; rfl⟩
  · have h3 : he ≠ [] → Y' ≠ [] := fun n1 n2 => by
      subst n2
      cases he with
      | nil => exact n1 rfl
      | cons x r => simp at hb
    rw [k_nil]
    refine seq_cut (fun S => ∃ a, S = [(some (Sl.mk false (supO n1 L1 g1))), (some (Sl.mk false (supO n2 L2 g2))), (some (Sl.mk true (nsD (K' ++ he.map fun t => (t, Y'))))), a, some ⟨o, .lst (lv.map enD)⟩, (some (Sl.mk true (.lst (lon.map enD)))), (some (Sl.mk false (.tup (en.w.map .int)))), (some (Sl.mk false (.tup (en.X.map .int)))), (some (Sl.mk false (.tup (en.Y.map .int)))), (some (Sl.mk false (.int bt))), (some (Sl.mk false (.tup (Y'.map .int)))), (some (Sl.mk false (.tup (he.map .int))))]) ?_ ?_
    · simp? only []
      refine for_typed D.int (fun dn S => ∃ a, S = [(some (Sl.mk false (supO n1 L1 g1))), (some (Sl.mk false (supO n2 L2 g2))), (some (Sl.mk true (nsD (K' ++ dn.map fun t => (t, Y'))))), a, some ⟨o, .lst (lv.map enD)⟩, (some (Sl.mk true (.lst (lon.map enD)))), (some (Sl.mk false (.tup (en.w.map .int)))), (some (Sl.mk false (.tup (en.X.map .int)))), (some (Sl.mk false (.tup (en.Y.map .int)))), (some (Sl.mk false (.int bt))), (some (Sl.mk false (.tup (Y'.map .int)))), (some (Sl.mk false (.tup (he.map .int))))]) he _ ⟨a, by rw [List.map_nil, List.append_nil]⟩ ?_ ?_
      · rintro dn x rest S eq ⟨a, rfl⟩
        have hx := hhe x (by rw [eq]; simp)
        have nd := ndhe
        rw [eq] at nd
        have nx : x ∉ dn := fun z => (List.nodup_append.mp nd).2.2 x z x (by simp) rfl
        have ld : dn.length < 60 := by have := congrArg List.length eq; simp at this; omega
        have fr : (x, Y') ∉ K' ++ dn.map fun t => (t, Y') := fun z => by
          rcases List.mem_append.mp z with z | z
          · exact hx.2 z
          · obtain ⟨y, hy, e⟩ := List.mem_map.mp z
            injection e with e
            exact nx (e ▸ hy)
        rw [k_gN]
        simp only [List.set_cons_succ, List.set_cons_zero]
        simp? only [k_putN, put_ns fr (by rw [List.length_append, List.length_map]; omega)]
        exact ⟨_, by rw [List.map_append, List.append_assoc]; rfl⟩
      · rintro S ⟨a, rfl⟩
        exact ⟨rfl, _, rfl⟩
    rintro S ⟨a, rfl⟩
    have e1 : Ok (tT' (eW 11) [(some (Sl.mk false (supO n1 L1 g1))), (some (Sl.mk false (supO n2 L2 g2))), (some (Sl.mk true (nsD (K' ++ he.map fun t => (t, Y'))))), a, some ⟨o, .lst (lv.map enD)⟩, (some (Sl.mk true (.lst (lon.map enD)))), (some (Sl.mk false (.tup (en.w.map .int)))), (some (Sl.mk false (.tup (en.X.map .int)))), (some (Sl.mk false (.tup (en.Y.map .int)))), (some (Sl.mk false (.int bt))), (some (Sl.mk false (.tup (Y'.map .int)))), (some (Sl.mk false (.tup (he.map .int))))]) fun b => b = !he.isEmpty := by
      cases he <;> simp? only [] <;> simp
    rw [k_if]
    refine e1.mono ?_
    rintro _ rfl
    have KO2 : KOk n1 FB (K' ++ he.map fun t => (t, Y')) := by
      refine ⟨List.nodup_append.mpr ⟨KO'.1, nd_map _ ndhe fun a _ b _ h => by injection h, fun q hq p hp e => ?_⟩, fun q hq => ?_⟩
      · obtain ⟨t, ht, rfl⟩ := List.mem_map.mp hp
        exact (hhe t ht).2 (e ▸ hq)
      · rcases List.mem_append.mp hq with hq | hq
        · exact KO'.2 q hq
        · obtain ⟨t, ht, rfl⟩ := List.mem_map.mp hq
          have ne := List.ne_nil_of_mem ht
          exact ⟨tb t ht, cY ne (h3 ne)⟩
    have stB := stepB h3
    have hlen2 : 2 * cd en.w + 1 + (dn ++ [bt]).length = 2 * cd en.w + 1 + dn.length + 1 := by rw [List.length_append]; rfl
    rw [hlen2]
    refine ⟨fun hb => ?_, fun hb => ?_⟩
    · have ne : he ≠ [] := fun z => by subst z; cases hb
      rw [if_neg ne] at stB
      have := List.length_pos_iff.mpr ne
      have lKK := KO2.le
      rw [List.length_append, List.length_map] at lKK
      simp? only []
      refine ⟨by omega, by omega, _, _, lon ++ [⟨en.w ++ [bt], he, Y'⟩], a, (some (Sl.mk false (.int bt))), (some (Sl.mk false (.tup (Y'.map .int)))), (some (Sl.mk false (.tup (he.map .int)))), stB, KO2, fun e he2 => ?_, by rw [List.length_append, List.length_append, List.length_map, List.length_singleton]; omega, ?_⟩
      · rcases List.mem_append.mp he2 with he2 | he2
        · exact hE' e he2
        · rw [List.mem_singleton.mp he2]; exact ⟨⟨ndhe, lhe⟩, cY ne (h3 ne)⟩
      · rw [List.map_append]
        have ee : enD ⟨en.w ++ [bt], he, Y'⟩ = .tup [.tup (en.w.map .int ++ [.int bt]), .tup (he.map .int), .tup (Y'.map .int)] := by unfold enD; rw [List.map_append]; rfl
        rw [List.map_singleton, ee]
    · have ne : he = [] := by cases he with | nil => rfl | cons x r => cases hb
      rw [if_pos ne, List.append_nil] at stB
      refine ok_ok.mpr ⟨_, _, lon, a, _, _, _, stB, KO2, hE', by rw [List.length_append]; omega, rfl⟩
set_option Elab.async false
set_option linter.all false
set_option maxRecDepth 100000
open M PySem L2
theorem BI.short {σ : Type} {A : Sys σ} {n k : Nat} {WS : List (It σ)} {seen : List (σ × List Int)} {lv : List (En σ)} (H : BI A n k WS seen lv []) {w : Wd} (hw : Pw A w) : n < w.length := by
  refine Nat.not_le.mp fun hl => ?_
  have p1 : 1 ≤ 2 ^ n := Nat.one_le_two_pow
  have H2 : Srch A WS (2 * (2 ^ n - 1) + 1) := ⟨H.sr.b0, H.sr.b1, fun x hx c t hc hR hlt => by
    have hk : cd x.w < k := by
      rcases H.ci x hx with h | ⟨e, he, h⟩
      · exact h
      · have he : e ∈ lv := by simpa using he
        have := (cd_len n e.w (H.pl e he).1 (H.ok e (by simpa using he)).1).1
        rw [h.1] at this
        omega
    refine H.sr.b2 x hx c t hc hR ?_
    rcases hc with rfl | rfl
    · rw [show (0 : Int).toNat = 0 from rfl]; omega
    · rw [show (1 : Int).toNat = 1 from rfl]; omega⟩
  have b := H2.best hw
  have c := (cd_len w.length w rfl hw.1).2
  have e1 : 2 ^ (w.length + 1) ≤ 2 ^ (n + 1) := Nat.pow_le_pow_right (by omega) (by omega)
  have e2 : 2 ^ (n + 1) = 2 * 2 ^ n := by rw [Nat.pow_succ, Nat.mul_comm]
  omega
def sysL (L1 : List T3) (g1 : List Int) (L2 : List T3) (g2 : List Int) : Sys (List Int) := ⟨fun X c X' => X' = aft L1 X c ∧ X' ≠ [], fun X => X = g1, aft L2, g2⟩
def kNl (q : List Int × List Int) : NestedKey := .tup [.tup (q.1.map .num), .tup (q.2.map .num)]
def nlD (K : List (List Int × List Int)) : D := .dig (K.map kNl) (K.map fun _ => .bl true)
theorem kNl_inj {p q : List Int × List Int} (h : kNl p = kNl q) : p = q := by
  obtain ⟨a, b⟩ := p
  obtain ⟨c, d⟩ := q
  unfold kNl at h
  injection h with h
  injection h with h1 h2
  injection h2 with h2 _
  injection h1 with h1
  injection h2 with h2
  dsimp only at h1 h2
  rw [num_inj h1, num_inj h2]
theorem keyN_l (X Y : List Int) : keyN (.tup [.tup (X.map .int), .tup (Y.map .int)]) = some (kNl (X, Y)) := by
  have e : nkD (.tup [.tup (X.map .int), .tup (Y.map .int)]) = some (kNl (X, Y)) := by
    simp only [nkD, nkDs, nkDs_int]
    rfl
  unfold keyN
  rw [e]
  unfold kNl
  dsimp only
  rw [if_pos]
  simp only [NestedKey.depth, NestedKey.depthAll, depth_int]
  decide
theorem kNl_mem {q : List Int × List Int} {K : List (List Int × List Int)} : kNl q ∈ K.map kNl ↔ q ∈ K := by
  rw [List.mem_map]
  exact ⟨fun ⟨p, hp, e⟩ => by rw [← kNl_inj e]; exact hp, fun h => ⟨q, h, rfl⟩⟩
theorem notin_nl {X Y : List Int} {K : List (List Int × List Int)} : notInN (.tup [.tup (X.map .int), .tup (Y.map .int)]) (nlD K) = .ok (.bl (!decide ((X, Y) ∈ K))) := by
  unfold notInN nlD
  dsimp only
  rw [keyN_l]
  dsimp only
  rw [decide_eq_decide.mpr kNl_mem]
theorem put_nl {X Y : List Int} {K : List (List Int × List Int)} (h : (X, Y) ∉ K) (hl : K.length < sizeLine) {i : Nat} {S : M.Env} : putN i S (nlD K) (.bl true) (.tup [.tup (X.map .int), .tup (Y.map .int)]) = .ok (.nx, S.set i (some ⟨true, nlD (K ++ [(X, Y)])⟩)) := by
  unfold putN nlD
  dsimp only
  rw [keyN_l]
  dsimp only
  rw [if_pos ⟨fun z => h (kNl_mem.mp z), by rw [List.length_map]; exact hl⟩, List.map_append, List.map_append]
  rfl
def KLk (FA FB : List (List Int)) (K : List (List Int × List Int)) : Prop := K.Nodup ∧ ∀ q ∈ K, q.1 ∈ FA ∧ q.2 ∈ FB
theorem KLk.le {FA FB : List (List Int)} {K : List (List Int × List Int)} (h : KLk FA FB K) : K.length ≤ FA.length * FB.length := by
  have := nd_leG (b := FA.flatMap fun X => FB.map fun Y => (X, Y)) h.1 fun q hq => by
    obtain ⟨a, b⟩ := h.2 q hq
    rw [List.mem_flatMap]
    exact ⟨q.1, a, List.mem_map.mpr ⟨q.2, b, rfl⟩⟩
  refine Nat.le_trans this ?_
  rw [List.length_flatMap]
  have e : ∀ l : List (List Int), (l.map fun X => (FB.map fun Y => (X, Y)).length).sum = l.length * FB.length := by
    intro l
    induction l with
    | nil => simp
    | cons x l ih => rw [List.map_cons, List.sum_cons, ih, List.length_cons, Nat.succ_mul, List.length_map]; omega
  rw [e]
  exact Nat.le_refl _
def hdX (e : En (List Int)) : List Int := e.X.headD []
def enL (e : En (List Int)) : D := .tup [.tup (e.w.map .int), .tup ((hdX e).map .int), .tup (e.Y.map .int)]
def EL (FA FB : List (List Int)) (e : En (List Int)) : Prop := e.X = [hdX e] ∧ hdX e ∈ FA ∧ e.Y ∈ FB
theorem k_gTl {e : En (List Int)} {a b c : Nat} {S : M.Env} {QE : M.Env → Prop} : Ok (gT 3 (gsC (gN a) (gsC (gN b) (gsC (gN c) gsN))) (enL e) S) QE ↔ QE (((S.set a (some ⟨false, .tup (e.w.map .int)⟩)).set b (some ⟨false, .tup ((hdX e).map .int)⟩)).set c (some ⟨false, .tup (e.Y.map .int)⟩)) := by
  unfold enL
  simp? only []
theorem laft_eq (L : List T3) (X : List Int) (b : Int) : srtN (X.flatMap fun s => thn L (s, b)) = aft L X b := srtN_congr fun y => by
  simp only [List.mem_flatMap, thn_mem, nxt_mem]
def rowL (n : Int) (L : List T3) (g : List Int) : D := .tup [.int n, .lst (L.map tD), .tup (g.map .int)]
theorem p_lparting {n1 n2 : Int} {L1 L2 : List T3} {h1 h2 g1 g2 : List Int} {FA FB : List (List Int)} (q1e : h1.mergeSort ile = g1) (q2e : h2.mergeSort ile = g2) (l1 : L1.length ≤ 300) (l2 : L2.length ≤ 300) (n1' : g1 ≠ []) (n2' : g2 ≠ []) (FF : Fam L1 g1 FA) (F : Fam L2 g2 FB) (cab : FA.length * FB.length ≤ 1000000) :
    Ok (d__law_parting [rowL n1 L1 h1, rowL n2 L2 h2]) fun d => (∃ w, (Pw (sysL L1 g1 L2 g2) w ∧ ∀ w', Pw (sysL L1 g1 L2 g2) w' → cd w ≤ cd w') ∧ d = .tup (w.map .int)) ∨ ((∀ w, Pw (sysL L1 g1 L2 g2) w → 4999 < w.length) ∧ d = .non) := by
  have hs := size_ge
  obtain ⟨KA, hKA, eMA⟩ := p_lmovD l1
  obtain ⟨KB, hKB, eMB⟩ := p_lmovD l2
  have cap : ∀ K, KLk FA FB K → K.length ≤ 1000000 := fun K h => Nat.le_trans h.le cab
  have i1 : ixN' (rowL n1 L1 h1) (.int 1) = .ok (.lst (L1.map tD)) := rfl
  have i2 : ixN' (rowL n2 L2 h2) (.int 1) = .ok (.lst (L2.map tD)) := rfl
  have i3 : ixN' (rowL n1 L1 h1) (.int 2) = .ok (.tup (h1.map .int)) := rfl
  have i4 : ixN' (rowL n2 L2 h2) (.int 2) = .ok (.tup (h2.map .int)) := rfl
  unfold d__law_parting m__law_parting
  rw [ok_nox, k_run]
  generalize rowL n1 L1 h1 = r1 at i1 i3 ⊢
  generalize rowL n2 L2 h2 = r2 at i2 i4 ⊢
  refine seq_cut (fun S => S = [(some (Sl.mk false (r1))), (some (Sl.mk false (r2))), (some (Sl.mk false (movD L1 KA))), none, none, none, none, none, none, none, none, none, none, none]) (by simp? only [i1, eMA]) ?_
  rintro S rfl
  refine seq_cut (fun S => S = [(some (Sl.mk false (r1))), (some (Sl.mk false (r2))), (some (Sl.mk false (movD L1 KA))), (some (Sl.mk false (movD L2 KB))), none, none, none, none, none, none, none, none, none, none]) (by simp? only [i2, eMB]) ?_
  rintro S rfl
  refine seq_cut (fun S => S = [(some (Sl.mk false (r1))), (some (Sl.mk false (r2))), (some (Sl.mk false (movD L1 KA))), (some (Sl.mk false (movD L2 KB))), (some (Sl.mk false (.lst ([(⟨[], [g1], g2⟩ : En (List Int))].map enL)))), none, none, none, none, none, none, none, none, none]) (by simp? only [i3, i4, k_srtIT, q1e, q2e]; rfl) ?_
  rintro S rfl
  refine seq_cut (fun S => S = [(some (Sl.mk false (r1))), (some (Sl.mk false (r2))), (some (Sl.mk false (movD L1 KA))), (some (Sl.mk false (movD L2 KB))), (some (Sl.mk false (.lst ([(⟨[], [g1], g2⟩ : En (List Int))].map enL)))), (some (Sl.mk true (nlD []))), none, none, none, none, none, none, none, none]) (by simp? only []; rfl) ?_
  rintro S rfl
  have B0 : BI (sysL L1 g1 L2 g2) 0 0 ([g1].map fun s => ⟨s, g2, []⟩) [] [⟨[], [g1], g2⟩] [] := BI.start (A := sysL L1 g1 L2 g2) (fun s => (List.mem_singleton).symm) (by simp) n2'
  have K0 : KLk FA FB [] := ⟨List.nodup_nil, by simp⟩
  generalize ([g1].map fun s => (⟨s, g2, []⟩ : It (List Int))) = WS0 at B0
  have E0 : ∀ e ∈ [(⟨[], [g1], g2⟩ : En (List Int))], EL FA FB e := fun e he => by rw [List.mem_singleton.mp he]; exact ⟨rfl, FF.g, F.g⟩
  generalize hlv : [(⟨[], [g1], g2⟩ : En (List Int))] = lv0 at B0 E0 ⊢
  have lv2 : lv0.length ≤ 1000001 := by rw [← hlv]; exact Nat.le_of_ble_eq_true rfl
  refine seq_rt (fun S => ∀ w, Pw (sysL L1 g1 L2 g2) w → 4999 < w.length) (fun d => (∃ w, (Pw (sysL L1 g1 L2 g2) w ∧ ∀ w', Pw (sysL L1 g1 L2 g2) w' → cd w ≤ cd w') ∧ d = .tup (w.map .int)) ∨ ((∀ w, Pw (sysL L1 g1 L2 g2) w → 4999 < w.length) ∧ d = .non)) ?_ ?_ ?_
  rotate_left
  · intro S h
    simp? only []
    exact .inr h
  · intro d S h
    exact h
  rw [k_for]
  have er : Ok ((fun S => (aC (eI (5000)) aN) S >>= rng1) [(some (Sl.mk false (r1))), (some (Sl.mk false (r2))), (some (Sl.mk false (movD L1 KA))), (some (Sl.mk false (movD L2 KB))), (some (Sl.mk false (.lst (lv0.map enL)))), (some (Sl.mk true (nlD []))), none, none, none, none, none, none, none, none]) fun ds => ds = rngL 0 5000 := by
    simp? only []
    refine ⟨by omega, ?_⟩
    rfl
  refine er.mono ?_
  rintro ds rfl
  refine for_inv (fun i S => ∃ (k : Nat) (WS : List (It (List Int))) (K : List (List Int × List Int)) (lv : List (En (List Int))) (o : Bool) (b c d e f g h a : Option Sl), BI (sysL L1 g1 L2 g2) i k WS K lv [] ∧ KLk FA FB K ∧ (∀ e ∈ lv, EL FA FB e) ∧ lv.length ≤ 1000001 ∧
    S = [(some (Sl.mk false (r1))), (some (Sl.mk false (r2))), (some (Sl.mk false (movD L1 KA))), (some (Sl.mk false (movD L2 KB))), some ⟨o, .lst (lv.map enL)⟩, (some (Sl.mk true (nlD K))), a, b, c, d, e, f, g, h]) _ 0 _ ⟨0, WS0, [], lv0, false, none, none, none, none, none, none, none, none, B0, K0, E0, lv2, rfl⟩ ?_ ?_
  rotate_left
  · rintro S ⟨k, WS, K, lv, o, b, c, d, e, f, g, h, a, B, _, _, _, rfl⟩
    rw [rngL_len, Nat.zero_add] at B
    exact .inl ⟨rfl, fun w hw => by have := B.short hw; omega⟩
  rintro i d0 S hd ⟨k, WS, K, lv, o, b, c, d, e, f, g, h, a, B, KO, hE, hlen, rfl⟩
  obtain ⟨hi, rfl⟩ := rngL_get hd
  rw [Nat.zero_add] at B ⊢
  have lK := cap K KO
  rw [k_gN]
  simp only [List.set_cons_succ, List.set_cons_zero]
  refine seq_cut (fun S => S = [(some (Sl.mk false (r1))), (some (Sl.mk false (r2))), (some (Sl.mk false (movD L1 KA))), (some (Sl.mk false (movD L2 KB))), some ⟨o, .lst (lv.map enL)⟩, (some (Sl.mk true (nlD K))), (some (Sl.mk false (.int (0 + (i : Int))))), (some (Sl.mk true (.lst (([] : List (En (List Int))).map enL)))), c, d, e, f, g, h]) (by simp? only []) ?_
  rintro S rfl
  refine seq_rt (fun S => ∃ (k : Nat) (WS : List (It (List Int))) (K' : List (List Int × List Int)) (lon : List (En (List Int))) (c d e f g h : Option Sl), BI (sysL L1 g1 L2 g2) i k WS K' [] lon ∧ KLk FA FB K' ∧ (∀ e ∈ lon, EL FA FB e) ∧ lon.length ≤ K'.length ∧
    S = [(some (Sl.mk false (r1))), (some (Sl.mk false (r2))), (some (Sl.mk false (movD L1 KA))), (some (Sl.mk false (movD L2 KB))), some ⟨o, .lst (lv.map enL)⟩, (some (Sl.mk true (nlD K'))), (some (Sl.mk false (.int (0 + (i : Int))))), (some (Sl.mk true (.lst (lon.map enL)))), c, d, e, f, g, h]) (fun d => ∃ w, (Pw (sysL L1 g1 L2 g2) w ∧ ∀ w', Pw (sysL L1 g1 L2 g2) w' → cd w ≤ cd w') ∧ d = .tup (w.map .int)) ?_ ?_ ?_
  rotate_left
  · rintro S ⟨k, WS, K', lon, c, d, e, f, g, h, B, KO', hE', hl, rfl⟩
    have lK' := cap K' KO'
    by_cases z : lon = []
    · subst z
      simp? only []
      exact ⟨fun _ => .inr ⟨_, rfl, .inr ⟨fun w hw => absurd hw (B.none w), rfl⟩⟩, fun h => absurd (of_decide_eq_false h) (by simp)⟩
    · have hz : (lon.length : Int) ≠ 0 := by have := List.length_pos_iff.mpr z; omega
      refine seq_cut (fun S => S = [(some (Sl.mk false (r1))), (some (Sl.mk false (r2))), (some (Sl.mk false (movD L1 KA))), (some (Sl.mk false (movD L2 KB))), some ⟨o, .lst (lv.map enL)⟩, (some (Sl.mk true (nlD K'))), (some (Sl.mk false (.int (0 + (i : Int))))), (some (Sl.mk true (.lst (lon.map enL)))), c, d, e, f, g, h]) ?_ ?_
      · simp? only []
        exact fun h => absurd (of_decide_eq_true h) hz
      rintro S rfl
      simp? only []
      exact ⟨_, WS, K', lon, _, _, _, _, _, _, _, _, _, B.next, KO', hE', by omega, rfl⟩
  · intro d S h
    exact .inr ⟨d, rfl, .inl h⟩
  rw [k_for]
  have ei : Ok ((fun S => (eC (f1 lstD) (aC (eW 4) aN)) S >>= itemsD) [(some (Sl.mk false (r1))), (some (Sl.mk false (r2))), (some (Sl.mk false (movD L1 KA))), (some (Sl.mk false (movD L2 KB))), some ⟨o, .lst (lv.map enL)⟩, (some (Sl.mk true (nlD K))), (some (Sl.mk false (.int (0 + (i : Int))))), (some (Sl.mk true (.lst (([] : List (En (List Int))).map enL)))), c, d, e, f, g, h]) fun ds => ds = lv.map enL := by simp? only []
  refine ei.mono ?_
  rintro ds rfl
  refine for_typed enL (fun done S => ∃ (re : List (En (List Int))) (k : Nat) (WS : List (It (List Int))) (K' : List (List Int × List Int)) (lon : List (En (List Int))) (c d e f g h : Option Sl), lv = done ++ re ∧ BI (sysL L1 g1 L2 g2) i k WS K' re lon ∧ KLk FA FB K' ∧ (∀ e ∈ lon, EL FA FB e) ∧ lon.length ≤ K'.length ∧
    S = [(some (Sl.mk false (r1))), (some (Sl.mk false (r2))), (some (Sl.mk false (movD L1 KA))), (some (Sl.mk false (movD L2 KB))), some ⟨o, .lst (lv.map enL)⟩, (some (Sl.mk true (nlD K'))), (some (Sl.mk false (.int (0 + (i : Int))))), (some (Sl.mk true (.lst (lon.map enL)))), c, d, e, f, g, h]) lv _ ⟨lv, k, WS, K, [], c, d, e, f, g, h, rfl, B, KO, by simp, by simp, rfl⟩ ?_ ?_
  rotate_left
  · rintro S ⟨re, k, WS, K', lon, c, d, e, f, g, h, hr, B, KO', hE', hl, rfl⟩
    have : re = [] := by simpa using hr
    subst this
    exact .inl ⟨rfl, k, WS, K', lon, c, d, e, f, g, h, B, KO', hE', hl, rfl⟩
  rintro done en rest S eq ⟨re, k, WS, K', lon, c, d, e, f, g, h, hr, B, KO', hE', hl, rfl⟩
  have hre : re = en :: rest := by rw [eq] at hr; exact (List.append_cancel_left hr).symm
  subst hre
  have ENX := hE en (by rw [eq]; simp)
  have Z0 := B.take
  rw [k_gTl]
  simp only [List.set_cons_succ, List.set_cons_zero]
  rw [k_for]
  have eb : Ok ((fun S => (eT (aC (eI (0)) (aC (eI (1)) aN))) S >>= itemsD) [(some (Sl.mk false (r1))), (some (Sl.mk false (r2))), (some (Sl.mk false (movD L1 KA))), (some (Sl.mk false (movD L2 KB))), some ⟨o, .lst (lv.map enL)⟩, (some (Sl.mk true (nlD K'))), (some (Sl.mk false (.int (0 + (i : Int))))), (some (Sl.mk true (.lst (lon.map enL)))), (some (Sl.mk false (.tup (en.w.map .int)))), (some (Sl.mk false (.tup ((hdX en).map .int)))), (some (Sl.mk false (.tup (en.Y.map .int)))), f, g, h]) fun ds => ds = [0, 1].map D.int := by
    simp? only []
    try rfl
  refine eb.mono ?_
  rintro ds rfl
  refine for_typed D.int (fun dn S => ∃ (WS : List (It (List Int))) (K' : List (List Int × List Int)) (lon : List (En (List Int))) (f g h : Option Sl), BZ (sysL L1 g1 L2 g2) i (2 * cd en.w + 1 + dn.length) WS K' en rest lon ∧ KLk FA FB K' ∧ (∀ e ∈ lon, EL FA FB e) ∧ lon.length ≤ K'.length ∧
    S = [(some (Sl.mk false (r1))), (some (Sl.mk false (r2))), (some (Sl.mk false (movD L1 KA))), (some (Sl.mk false (movD L2 KB))), some ⟨o, .lst (lv.map enL)⟩, (some (Sl.mk true (nlD K'))), (some (Sl.mk false (.int (0 + (i : Int))))), (some (Sl.mk true (.lst (lon.map enL)))), (some (Sl.mk false (.tup (en.w.map .int)))), (some (Sl.mk false (.tup ((hdX en).map .int)))), (some (Sl.mk false (.tup (en.Y.map .int)))), f, g, h]) [0, 1] _ ⟨WS, K', lon, f, g, h, Z0, KO', hE', hl, rfl⟩ ?_ ?_
  rotate_left
  · rintro S ⟨WS, K', lon, f, g, h, Z, KO', hE', hl, rfl⟩
    exact ⟨rest, _, WS, K', lon, _, _, _, _, _, _, by rw [eq]; simp, Z.rest, KO', hE', hl, rfl⟩
  rintro dn bt rs S eq3 ⟨WS, K', lon, f, g, h, Z, KO', hE', hl, rfl⟩
  have hbt : (bt = 0 ∧ dn.length = 0) ∨ (bt = 1 ∧ dn.length = 1) := by
    match dn, eq3 with
    | [], e => injection e with e1 e2; exact .inl ⟨e1.symm, rfl⟩
    | [x], e => injection e with e1 e2; injection e2 with e2 e3; exact .inr ⟨e2.symm, rfl⟩
    | x :: y :: r, e =>
      have := congrArg List.length e
      simp at this
  have hd : bt = 0 ∨ bt = 1 := by omega
  have hz : 2 * cd en.w + 1 + dn.length = 2 * cd en.w + 1 + bt.toNat := by omega
  have lK' := cap K' KO'
  have ew := Z.en
  have a1 := p_laftE l1 hKA (hdX en) bt
  have a2 := p_laftE l2 hKB en.Y bt
  rw [laft_eq] at a1 a2
  have ok1 := Z.ok en (List.mem_cons_self ..)
  have cX := FF.cl _ ENX.2.1 bt
  have cY := F.cl _ ENX.2.2 bt
  have hsx : hdX en ∈ en.X := by rw [ENX.1]; exact List.mem_singleton.mpr rfl
  have h1 : ∀ t, t = aft L1 (hdX en) bt → t ≠ [] → ∃ s ∈ en.X, (sysL L1 g1 L2 g2).R s bt t := fun t e ne => ⟨hdX en, hsx, e, ne⟩
  have h2 : ∀ s ∈ en.X, ∀ t, (sysL L1 g1 L2 g2).R s bt t → t = aft L1 (hdX en) bt ∧ t ≠ [] := fun s hs t hR => by
    rw [ENX.1] at hs
    have hs := List.mem_singleton.mp hs
    subst hs
    exact hR
  have hitB := fun (hx : aft L1 (hdX en) bt ≠ []) (hy : aft L2 en.Y bt = []) => Z.hit hd hz hsx (show (sysL L1 g1 L2 g2).R (hdX en) bt (aft L1 (hdX en) bt) from ⟨rfl, hx⟩) hy
  have stepB := fun (he : List (List Int)) => Z.bit hd hz (he := he)
  have hY : (sysL L1 g1 L2 g2).f en.Y bt = aft L2 en.Y bt := rfl
  rw [hY] at stepB
  generalize aft L1 (hdX en) bt = X' at a1 cX h1 h2 hitB stepB
  generalize aft L2 en.Y bt = Y' at a2 cY hitB stepB
  rw [k_gN]
  simp only [List.set_cons_succ, List.set_cons_zero]
  refine seq_cut (fun S => S = [(some (Sl.mk false (r1))), (some (Sl.mk false (r2))), (some (Sl.mk false (movD L1 KA))), (some (Sl.mk false (movD L2 KB))), some ⟨o, .lst (lv.map enL)⟩, (some (Sl.mk true (nlD K'))), (some (Sl.mk false (.int (0 + (i : Int))))), (some (Sl.mk true (.lst (lon.map enL)))), (some (Sl.mk false (.tup (en.w.map .int)))), (some (Sl.mk false (.tup ((hdX en).map .int)))), (some (Sl.mk false (.tup (en.Y.map .int)))), (some (Sl.mk false (.int bt))), (some (Sl.mk false (.tup (X'.map .int)))), h]) (by simp? only [a1]) ?_
  rintro S rfl
  refine seq_cut (fun S => S = [(some (Sl.mk false (r1))), (some (Sl.mk false (r2))), (some (Sl.mk false (movD L1 KA))), (some (Sl.mk false (movD L2 KB))), some ⟨o, .lst (lv.map enL)⟩, (some (Sl.mk true (nlD K'))), (some (Sl.mk false (.int (0 + (i : Int))))), (some (Sl.mk true (.lst (lon.map enL)))), (some (Sl.mk false (.tup (en.w.map .int)))), (some (Sl.mk false (.tup ((hdX en).map .int)))), (some (Sl.mk false (.tup (en.Y.map .int)))), (some (Sl.mk false (.int bt))), (some (Sl.mk false (.tup (X'.map .int)))), (some (Sl.mk false (.tup (Y'.map .int))))]) (by simp? only [a2]) ?_
  rintro S rfl
  have et : Ok (tA (tB' (M.e2 gtD (eC (f1 lenD) (aC (eW 12) aN)) (eI 0))) (tB' (M.e2 eqD (eC (f1 lenD) (aC (eW 13) aN)) (eI 0))) [(some (Sl.mk false (r1))), (some (Sl.mk false (r2))), (some (Sl.mk false (movD L1 KA))), (some (Sl.mk false (movD L2 KB))), some ⟨o, .lst (lv.map enL)⟩, (some (Sl.mk true (nlD K'))), (some (Sl.mk false (.int (0 + (i : Int))))), (some (Sl.mk true (.lst (lon.map enL)))), (some (Sl.mk false (.tup (en.w.map .int)))), (some (Sl.mk false (.tup ((hdX en).map .int)))), (some (Sl.mk false (.tup (en.Y.map .int)))), (some (Sl.mk false (.int bt))), (some (Sl.mk false (.tup (X'.map .int)))), (some (Sl.mk false (.tup (Y'.map .int))))]) fun b => b = (!X'.isEmpty && Y'.isEmpty) := by
    cases X' <;> cases Y' <;> simp? only [] <;> simp <;> omega
  rw [k_seq, k_if]
  refine et.mono ?_
  rintro _ rfl
  refine ⟨fun hb => ?_, fun hb => ?_⟩
  · rw [Bool.and_eq_true] at hb
    have hy : Y' = [] := by simpa using hb.2
    have hx : X' ≠ [] := fun z => by rw [z] at hb; exact absurd hb.1 (by simp)
    have hB := hitB hx hy
    simp? only []
    refine ⟨by omega, ?_⟩
    exact .inr ⟨_, rfl, en.w ++ [bt], hB, by rw [List.map_append]; rfl⟩
  · rw [k_nil]
    have h3 : X' ≠ [] → Y' ≠ [] := fun n1 n2 => by
      subst n2
      cases X' with
      | nil => exact n1 rfl
      | cons x r => simp at hb
    have eu : Ok (tA (tB' (M.e2 gtD (eC (f1 lenD) (aC (eW 12) aN)) (eI 0))) (tB' (M.e2 notInN (eT (aC (eV 12) (aC (eV 13) aN))) (eW 5))) [(some (Sl.mk false (r1))), (some (Sl.mk false (r2))), (some (Sl.mk false (movD L1 KA))), (some (Sl.mk false (movD L2 KB))), some ⟨o, .lst (lv.map enL)⟩, (some (Sl.mk true (nlD K'))), (some (Sl.mk false (.int (0 + (i : Int))))), (some (Sl.mk true (.lst (lon.map enL)))), (some (Sl.mk false (.tup (en.w.map .int)))), (some (Sl.mk false (.tup ((hdX en).map .int)))), (some (Sl.mk false (.tup (en.Y.map .int)))), (some (Sl.mk false (.int bt))), (some (Sl.mk false (.tup (X'.map .int)))), (some (Sl.mk false (.tup (Y'.map .int))))]) fun b => b = (!X'.isEmpty && !decide ((X', Y') ∈ K')) := by
      cases X' with
      | nil => simp? only []; simp
      | cons x r =>
        have := notin_nl (X := x :: r) (Y := Y') (K := K')
        rw [List.map_cons] at this
        simp? only [this]
        simp
        try omega
    have hlen2 : 2 * cd en.w + 1 + (dn ++ [bt]).length = 2 * cd en.w + 1 + dn.length + 1 := by rw [List.length_append]; rfl
    rw [hlen2]
    rw [k_if]
    refine eu.mono ?_
    rintro _ rfl
    refine ⟨fun hb2 => ?_, fun hb2 => ?_⟩
    · rw [Bool.and_eq_true] at hb2
      have hx : X' ≠ [] := fun z => by rw [z] at hb2; exact absurd hb2.1 (by simp)
      have hk : (X', Y') ∉ K' := by simpa using hb2.2
      have KO2 : KLk FA FB (K' ++ [(X', Y')]) := by
        refine ⟨List.nodup_append.mpr ⟨KO'.1, by simp, fun q hq p hp e => ?_⟩, fun q hq => ?_⟩
        · rw [List.mem_singleton.mp hp] at e
          exact hk (e ▸ hq)
        · rcases List.mem_append.mp hq with hq | hq
          · exact KO'.2 q hq
          · rw [List.mem_singleton.mp hq]; exact ⟨cX hx, cY (h3 hx)⟩
      have stB := stepB [X'] (fun t ht => h1 t (List.mem_singleton.mp ht) (by rw [List.mem_singleton.mp ht]; exact hx)) (fun s hs t hR => .inl (by rw [(h2 s hs t hR).1]; simp)) (fun _ => h3 hx)
      rw [if_neg (by simp)] at stB
      refine seq_cut (fun S => S = [(some (Sl.mk false (r1))), (some (Sl.mk false (r2))), (some (Sl.mk false (movD L1 KA))), (some (Sl.mk false (movD L2 KB))), some ⟨o, .lst (lv.map enL)⟩, (some (Sl.mk true (nlD (K' ++ [(X', Y')])))), (some (Sl.mk false (.int (0 + (i : Int))))), (some (Sl.mk true (.lst (lon.map enL)))), (some (Sl.mk false (.tup (en.w.map .int)))), (some (Sl.mk false (.tup ((hdX en).map .int)))), (some (Sl.mk false (.tup (en.Y.map .int)))), (some (Sl.mk false (.int bt))), (some (Sl.mk false (.tup (X'.map .int)))), (some (Sl.mk false (.tup (Y'.map .int))))]) (by simp? only [k_putN, put_nl hk (by omega)]) ?_
      rintro S rfl
      simp? only []
      refine ⟨by omega, by omega, _, _, lon ++ [⟨en.w ++ [bt], [X'], Y'⟩], (some (Sl.mk false (.int bt))), (some (Sl.mk false (.tup (X'.map .int)))), (some (Sl.mk false (.tup (Y'.map .int)))), stB, KO2, fun e he2 => ?_, by rw [List.length_append, List.length_append, List.length_singleton, List.length_singleton]; omega, ?_⟩
      · rcases List.mem_append.mp he2 with he2 | he2
        · exact hE' e he2
        · rw [List.mem_singleton.mp he2]; exact ⟨rfl, cX hx, cY (h3 hx)⟩
      · rw [List.map_append]
        have ee : enL ⟨en.w ++ [bt], [X'], Y'⟩ = .tup [.tup (en.w.map .int ++ [.int bt]), .tup (X'.map .int), .tup (Y'.map .int)] := by unfold enL hdX; rw [List.map_append]; rfl
        rw [List.map_singleton, ee]
    · have hno : X' ≠ [] → (X', Y') ∈ K' := fun hx => by
        cases X' with
        | nil => exact absurd rfl hx
        | cons x r => simpa using hb2
      have stB := stepB [] (by simp) (fun s hs t hR => by
        obtain ⟨e, ne⟩ := h2 s hs t hR
        subst e
        exact .inr (hno ne)) (by simp)
      rw [if_pos rfl, List.append_nil, List.map_nil, List.append_nil, List.map_nil, List.append_nil] at stB
      exact ok_ok.mpr ⟨_, _, lon, _, _, _, stB, KO', hE', hl, rfl⟩
set_option Elab.async false
set_option linter.all false
set_option maxRecDepth 100000
open M PySem L2
theorem rchP {L1 L2 : List T3} {g1 g2 : List Int} {w : Wd} {s : Int} (r : Rch (sysP L1 g1 L2 g2) w s) : s ∈ w.foldl (aft L1) g1 := by
  induction r with
  | nil h => exact h
  | @snoc w s t b r hR ih => rw [List.foldl_append]; exact aft_mem.mpr ⟨s, ih, hR⟩
theorem rchP' {L1 L2 : List T3} {g1 g2 : List Int} : ∀ (n : Nat) (w : Wd), w.length = n → ∀ s ∈ w.foldl (aft L1) g1, Rch (sysP L1 g1 L2 g2) w s
  | 0, w, h, s, hs => by
    have : w = [] := List.length_eq_zero_iff.mp h
    subst this
    exact .nil hs
  | n + 1, w, h, s, hs => by
    obtain ⟨u, b, rfl⟩ := snoc_of (w := w) (fun z => by rw [z] at h; cases h)
    rw [List.foldl_append] at hs
    obtain ⟨x, hx, hR⟩ := aft_mem.mp (show s ∈ aft L1 (u.foldl (aft L1) g1) b from hs)
    exact .snoc (rchP' n u (by rw [List.length_append] at h; simpa using h) x hx) hR
theorem rchL {L1 L2 : List T3} {g1 g2 : List Int} (h0 : g1 ≠ []) {w : Wd} {X : List Int} (r : Rch (sysL L1 g1 L2 g2) w X) : X = w.foldl (aft L1) g1 ∧ X ≠ [] := by
  induction r with
  | @nil s h => have h : s = g1 := h; subst h; exact ⟨rfl, h0⟩
  | @snoc w s t b r hR ih => rw [List.foldl_append, ← ih.1]; exact hR
theorem rchL' {L1 L2 : List T3} {g1 g2 : List Int} : ∀ (n : Nat) (w : Wd), w.length = n → w.foldl (aft L1) g1 ≠ [] → Rch (sysL L1 g1 L2 g2) w (w.foldl (aft L1) g1)
  | 0, w, h, hs => by
    have : w = [] := List.length_eq_zero_iff.mp h
    subst this
    exact .nil rfl
  | n + 1, w, h, hs => by
    obtain ⟨u, b, rfl⟩ := snoc_of (w := w) (fun z => by rw [z] at h; cases h)
    rw [List.foldl_append] at hs ⊢
    have hs : aft L1 (u.foldl (aft L1) g1) b ≠ [] := hs
    have hu : u.foldl (aft L1) g1 ≠ [] := fun z => hs (List.eq_nil_iff_forall_not_mem.mpr fun x hx => by
      obtain ⟨y, hy, _⟩ := aft_mem.mp hx
      rw [z] at hy
      simp at hy)
    exact .snoc (rchL' n u (by rw [List.length_append] at h; simpa using h) hu) ⟨rfl, hs⟩
theorem pw_iff {L1 L2 : List T3} {g1 g2 : List Int} (h0 : g1 ≠ []) (w : Wd) : Pw (sysP L1 g1 L2 g2) w ↔ Pw (sysL L1 g1 L2 g2) w := by
  have e : fw (sysP L1 g1 L2 g2) w = fw (sysL L1 g1 L2 g2) w := rfl
  constructor
  · rintro ⟨a, ⟨s, r⟩, c⟩
    exact ⟨a, ⟨_, rchL' _ w rfl (List.ne_nil_of_mem (rchP r))⟩, e ▸ c⟩
  · rintro ⟨a, ⟨X, r⟩, c⟩
    obtain ⟨e1, ne⟩ := rchL h0 r
    obtain ⟨s, hs⟩ := List.exists_mem_of_ne_nil _ ne
    exact ⟨a, ⟨s, rchP' _ w rfl s (e1 ▸ hs)⟩, e ▸ c⟩
inductive Tld (A : Sys Int) : D → Prop where
  | non : (∀ w, ¬ Pw A w) → Tld A .non
  | word {w : Wd} : Pw A w → Tld A (.tup (w.map .int))
theorem aft_fun {a b : List T3} (h : ∀ e, e ∈ a ↔ e ∈ b) : aft a = aft b := funext fun S => funext fun t => aft_congr h S t
theorem p_both {n1 n2 : Int} {L1 L2 R1 R2 : List T3} {h1 h2 g1 g2 : List Int} {FA FB : List (List Int)} (V1 : SpW n1 L1 g1) (V2 : SpO n2 L2 g2) (m1 : ∀ e, e ∈ L1 ↔ e ∈ R1) (m2 : ∀ e, e ∈ L2 ↔ e ∈ R2) (r1 : R1.length ≤ 300) (r2 : R2.length ≤ 300)
    (q1 : h1.mergeSort ile = g1) (q2 : h2.mergeSort ile = g2) (FF : Fam L1 g1 FA) (F : Fam L2 g2 FB) (cab : FA.length * FB.length ≤ 1000000) (cap : n1.toNat * FB.length ≤ 4900) :
    ∃ d, Tld (sysP L1 g1 L2 g2) d ∧ d_parting [supO n1 L1 g1, supO n2 L2 g2] = .ok d ∧ d__law_parting [rowL n1 R1 h1, rowL n2 R2 h2] = .ok d := by
  have ea := aft_fun m1
  have eb := aft_fun m2
  have FF' : Fam R1 g1 FA := ⟨FF.g, fun Y hY c => by rw [← ea]; exact FF.cl Y hY c, FF.st⟩
  have F' : Fam R2 g2 FB := ⟨F.g, fun Y hY c => by rw [← eb]; exact F.cl Y hY c, F.st⟩
  obtain ⟨d, ed, hd⟩ := p_parting V1 V2 F cap
  obtain ⟨d', ed', hd'⟩ := p_lparting (n1 := n1) (n2 := n2) q1 q2 r1 r2 V1.g0 V2.g0 FF' F' cab
  have es : sysL R1 g1 R2 g2 = sysL L1 g1 L2 g2 := by unfold sysL; rw [ea, eb]
  rw [es] at hd'
  have pi := fun w => pw_iff (L1 := L1) (L2 := L2) (g1 := g1) (g2 := g2) V1.g0 w
  have key : d' = d ∧ Tld (sysP L1 g1 L2 g2) d := by
    rcases hd with ⟨w, ⟨h1, h2⟩, hl, rfl⟩ | ⟨h1, rfl⟩
    · rcases hd' with ⟨w', ⟨h3, h4⟩, rfl⟩ | ⟨h3, rfl⟩
      · have c1 := h2 w' ((pi w').mpr h3)
        have c2 := h4 w ((pi w).mp h1)
        have : w = w' := cd_inj _ _ _ rfl h1.1 h3.1 (by omega)
        subst this
        exact ⟨rfl, .word h1⟩
      · have := h3 w ((pi w).mp h1)
        omega
    · rcases hd' with ⟨w', ⟨h3, h4⟩, rfl⟩ | ⟨h3, rfl⟩
      · exact absurd ((pi w').mpr h3) (h1 w')
      · exact ⟨rfl, .non h1⟩
  rw [key.1] at ed'
  exact ⟨d, key.2, ed, ed'⟩
set_option Elab.async false
set_option linter.all false
set_option maxRecDepth 100000
open M PySem L2
def pw1 : List Int → List (List Int)
  | [] => []
  | x :: xs => pw1 xs ++ ([x] :: (pw1 xs).map (x :: ·))
theorem pw1_len : ∀ l : List Int, (pw1 l).length + 1 = 2 ^ l.length
  | [] => rfl
  | x :: xs => by
    have := pw1_len xs
    unfold pw1
    rw [List.length_append, List.length_cons, List.length_map, List.length_cons, Nat.pow_succ]
    omega
theorem pw1_mem : ∀ {l Y : List Int}, Y.Sublist l → Y ≠ [] → Y ∈ pw1 l
  | [], Y, h, ne => absurd (List.sublist_nil.mp h) ne
  | x :: l, Y, h, ne => by
    unfold pw1
    cases h with
    | cons _ h => exact List.mem_append_left _ (pw1_mem h ne)
    | @cons_cons Z _ _ h =>
      refine List.mem_append_right _ ?_
      by_cases z : Z = []
      · subst z; exact List.mem_cons_self ..
      · exact List.mem_cons_of_mem _ (List.mem_map.mpr ⟨Z, pw1_mem h z, rfl⟩)
theorem pw1_sub : ∀ {l Y : List Int}, Y ∈ pw1 l → Y.Sublist l
  | [], Y, h => by simp [pw1] at h
  | x :: l, Y, h => by
    unfold pw1 at h
    rcases List.mem_append.mp h with h | h
    · exact (pw1_sub h).cons x
    · rcases List.mem_cons.mp h with rfl | h
      · exact (List.nil_sublist l).cons_cons x
      · obtain ⟨Z, hz, rfl⟩ := List.mem_map.mp h
        exact (pw1_sub hz).cons_cons x
theorem strict_sub {Y R : List Int} (hy : Y.Pairwise (· < ·)) (hr : R.Pairwise (· < ·)) (h : ∀ x ∈ Y, x ∈ R) : Y.Sublist R := by
  have e : Y = R.filter fun x => decide (x ∈ Y) := by
    rw [← srtN_id hy, ← srtN_id (hr.filter fun x => decide (x ∈ srtN Y))]
    refine srtN_congr fun x => ?_
    rw [List.mem_filter, decide_eq_true_eq, srtN_mem]
    exact ⟨fun z => ⟨h x z, z⟩, fun z => z.2⟩
  rw [e]
  exact List.filter_sublist
theorem rng_strict (n : Nat) : ((List.range n).map fun i : Nat => (i : Int)).Pairwise (· < ·) := by
  rw [List.pairwise_map]
  exact List.pairwise_lt_range.imp fun h => by omega
structure FamB (n : Int) (L : List T3) (g : List Int) : Prop where
  bd : ∀ e ∈ L, (0 ≤ e.1 ∧ e.1 < n) ∧ (0 ≤ e.2.2 ∧ e.2.2 < n)
  gS : g.Pairwise (· < ·)
  gB : ∀ x ∈ g, 0 ≤ x ∧ x < n
  g0 : g ≠ []
theorem FamB.aft_b {n : Int} {L : List T3} {g : List Int} (V : FamB n L g) (S : List Int) (b : Int) : ∀ x ∈ aft L S b, 0 ≤ x ∧ x < n := fun x hx => by
  obtain ⟨s, _, h⟩ := aft_mem.mp hx
  exact (V.bd _ h).2
theorem fam_small {n : Int} {L : List T3} {g : List Int} (V : FamB n L g) (hn : n ≤ 5) : ∃ FB, Fam L g FB ∧ FB.length ≤ 120 := by
  have inF : ∀ Y : List Int, Y.Pairwise (· < ·) → (∀ x ∈ Y, 0 ≤ x ∧ x < n) → Y ≠ [] → Y ∈ pw1 ((List.range n.toNat).map fun i : Nat => (i : Int)) := fun Y hy hb ne => pw1_mem (strict_sub hy (rng_strict _) fun x hx => List.mem_map.mpr ⟨x.toNat, List.mem_range.mpr (by have := hb x hx; omega), by have := hb x hx; omega⟩) ne
  refine ⟨_, ⟨inF g V.gS V.gB V.g0, fun Y _ c ne => inF _ (aft_strict L Y c) (V.aft_b Y c) ne, fun Y hY => strict_nd ((rng_strict n.toNat).sublist (pw1_sub hY))⟩, ?_⟩
  have := pw1_len ((List.range n.toNat).map fun i : Nat => (i : Int))
  rw [List.length_map, List.length_range] at this
  have h5 : 2 ^ n.toNat ≤ 2 ^ 5 := Nat.pow_le_pow_right (by omega) (by omega)
  have : (2 : Nat) ^ 5 = 32 := rfl
  omega
theorem fam_det {n : Int} {L : List T3} {g : List Int} (V : FamB n L g) (hn : n ≤ 40) (hd : ∀ a ∈ L, ∀ b ∈ L, a.1 = b.1 → a.2.1 = b.2.1 → a.2.2 = b.2.2) (hg : g.length ≤ 1) : ∃ FB, Fam L g FB ∧ FB.length ≤ 40 := by
  have one : ∀ Y : List Int, Y.Nodup → (∀ x ∈ Y, 0 ≤ x ∧ x < n) → Y ≠ [] → (∀ x ∈ Y, ∀ y ∈ Y, x = y) → Y ∈ (List.range n.toNat).map fun i : Nat => [(i : Int)] := fun Y nd hb ne he => by
    match Y, ne with
    | [x], _ => exact List.mem_map.mpr ⟨x.toNat, List.mem_range.mpr (by have := hb x (by simp); omega), by have := hb x (by simp); rw [show ((x.toNat : Nat) : Int) = x by omega]⟩
    | x :: y :: r, _ =>
      have := he x (by simp) y (by simp)
      subst this
      exact absurd nd (by simp)
  have gs : ∀ x ∈ g, ∀ y ∈ g, x = y := fun x hx y hy => by
    match g, hg with
    | [], _ => simp at hx
    | [a], _ =>
      rw [List.mem_singleton.mp hx, List.mem_singleton.mp hy]
  refine ⟨_, ⟨one g (strict_nd V.gS) V.gB V.g0 gs, fun Y hY c ne => ?_, fun Y hY => ?_⟩, ?_⟩
  · obtain ⟨i, _, rfl⟩ := List.mem_map.mp hY
    refine one _ (strict_nd (aft_strict L _ c)) (V.aft_b _ c) ne fun x hx y hy => ?_
    obtain ⟨s, hs, h1⟩ := aft_mem.mp hx
    obtain ⟨t, ht, h2⟩ := aft_mem.mp hy
    rw [List.mem_singleton.mp hs] at h1
    rw [List.mem_singleton.mp ht] at h2
    exact hd _ h1 _ h2 rfl rfl
  · obtain ⟨i, _, rfl⟩ := List.mem_map.mp hY
    simp
  · rw [List.length_map, List.length_range]; omega
def shT (n : Int) (g : List Int) (t : Nat) : List Int := srtN (g.map fun s => (s + t) % n)
theorem fam_ring {n : Int} {L : List T3} {g : List Int} (V : FamB n L g) (n1 : 1 ≤ n) (hn : n ≤ 40) (hr : ∀ e ∈ L, e.2.2 = (e.1 + 1) % n) (hg : g.length ≤ 2) : ∃ FB, Fam L g FB ∧ FB.length ≤ 120 := by
  have inF : ∀ (t : Nat) (Y : List Int), t < n.toNat → Y.Pairwise (· < ·) → (∀ x ∈ Y, x ∈ shT n g t) → Y ≠ [] → Y ∈ (List.range n.toNat).flatMap fun t => pw1 (shT n g t) := fun t Y ht hy hx ne => List.mem_flatMap.mpr ⟨t, List.mem_range.mpr ht, pw1_mem (strict_sub hy (srtN_strict _) hx) ne⟩
  refine ⟨_, ⟨inF 0 g (by omega) V.gS (fun x hx => ?_) V.g0, fun Y hY c ne => ?_, fun Y hY => ?_⟩, ?_⟩
  · unfold shT
    rw [srtN_mem, List.mem_map]
    have := V.gB x hx
    exact ⟨x, hx, by rw [show ((0 : Nat) : Int) = 0 from rfl, Int.add_zero]; exact Int.emod_eq_of_lt this.1 this.2⟩
  · obtain ⟨t, ht, hY⟩ := List.mem_flatMap.mp hY
    have ht := List.mem_range.mp ht
    have key : ∀ x ∈ aft L Y c, ∃ s ∈ g, x = (s + t + 1) % n := fun x hx => by
      obtain ⟨y, hy, h⟩ := aft_mem.mp hx
      have := (pw1_sub hY).subset hy
      unfold shT at this
      rw [srtN_mem, List.mem_map] at this
      obtain ⟨s, hs, e⟩ := this
      refine ⟨s, hs, ?_⟩
      have := hr _ h
      dsimp only at this
      rw [this, ← e, Int.emod_add_emod]
    by_cases hl : t + 1 < n.toNat
    · refine inF (t + 1) _ hl (aft_strict L Y c) (fun x hx => ?_) ne
      obtain ⟨s, hs, e⟩ := key x hx
      unfold shT
      rw [srtN_mem, List.mem_map]
      exact ⟨s, hs, by rw [e, show ((t + 1 : Nat) : Int) = (t : Int) + 1 by omega, Int.add_assoc]⟩
    · refine inF 0 _ (by omega) (aft_strict L Y c) (fun x hx => ?_) ne
      obtain ⟨s, hs, e⟩ := key x hx
      unfold shT
      rw [srtN_mem, List.mem_map]
      have en : (t : Int) + 1 = n := by omega
      exact ⟨s, hs, by rw [e, Int.add_assoc, en, Int.add_emod_right, show ((0 : Nat) : Int) = 0 from rfl, Int.add_zero]⟩
  · obtain ⟨t, _, hY⟩ := List.mem_flatMap.mp hY
    exact strict_nd ((srtN_strict _).sublist (pw1_sub hY))
  · rw [List.length_flatMap]
    have b3 : ∀ t : Nat, (pw1 (shT n g t)).length ≤ 3 := fun t => by
      have h1 := pw1_len (shT n g t)
      have h2 : (shT n g t).length ≤ 2 := by
        have := nd_le (b := g.map fun s => (s + t) % n) (strict_nd (srtN_strict (g.map fun s => (s + t) % n))) fun x hx => (srtN_mem _).mp hx
        rw [List.length_map] at this
        unfold shT
        omega
      have h5 : 2 ^ (shT n g t).length ≤ 2 ^ 2 := Nat.pow_le_pow_right (by omega) h2
      have : (2 : Nat) ^ 2 = 4 := rfl
      omega
    have e : ∀ m : Nat, ((List.range m).map fun t => (pw1 (shT n g t)).length).sum ≤ 3 * m := by
      intro m
      induction m with
      | zero => simp
      | succ m ih =>
        rw [List.range_succ, List.map_append, List.sum_append, List.map_singleton, List.sum_singleton]
        have := b3 m
        omega
    have := e n.toNat
    omega
set_option Elab.async false
set_option linter.all false
set_option maxRecDepth 100000
open M PySem L2
def DetL (L : List T3) : Prop := ∀ a ∈ L, ∀ b ∈ L, a.1 = b.1 → a.2.1 = b.2.1 → a.2.2 = b.2.2
structure Row (n : Int) (L : List T3) (h : List Int) : Prop where
  n1 : 1 ≤ n
  n2 : n ≤ 40
  st : StpB n L n
  ln : L.length ≤ 200
  hn : h.Nodup
  h0 : h ≠ []
  hb : ∀ x ∈ h, 0 ≤ x ∧ x < n
  kd : n ≤ 5 ∨ ((∀ e ∈ L, e.2.2 = (e.1 + 1) % n) ∧ h.length ≤ 2) ∨ (DetL L ∧ h.length ≤ 1)
theorem ms_tm {L : List T3} {e : T3} : e ∈ L.mergeSort tle ↔ e ∈ L := (List.mergeSort_perm L tle).mem_iff
theorem ms_im {l : List Int} {x : Int} : x ∈ l.mergeSort ile ↔ x ∈ l := (List.mergeSort_perm l ile).mem_iff
theorem ms_ne {l : List Int} (h : l ≠ []) : l.mergeSort ile ≠ [] := by
  obtain ⟨x, hx⟩ := List.exists_mem_of_ne_nil _ h
  exact List.ne_nil_of_mem (ms_im.mpr hx)
theorem ms_srt {l : List Int} (h : l.Nodup) : (l.mergeSort ile).Pairwise (· < ·) := by rw [← srtN_nd h]; exact srtN_strict l
theorem Row.sup {n : Int} {L : List T3} {h : List Int} (V : Row n L h) : SupB n (L.mergeSort tle) (h.mergeSort ile) where
  s1 := V.n1
  s2 := by have := V.n2; omega
  st0 := ms_ne V.h0
  stS := ms_srt V.hn
  stB := fun x hx => V.hb x (ms_im.mp hx)
  tS := tst_strict V.st.nd
  tB := fun e he => V.st.bd e (ms_tm.mp he)
  tL := by have := V.ln; rw [List.length_mergeSort]; omega
  tA := fun s a b => by
    obtain ⟨e, he, h⟩ := V.st.ev s a b
    exact ⟨e, ms_tm.mpr he, h⟩
theorem Row.spo {n : Int} {L : List T3} {h : List Int} (V : Row n L h) : SpO n (L.mergeSort tle) (h.mergeSort ile) where
  n1 := V.n1
  n2 := by have := V.n2; omega
  tS := tst_strict V.st.nd
  ln := by have := V.ln; rw [List.length_mergeSort]; omega
  bd := fun e he => (V.st.bd e (ms_tm.mp he)).2.2
  gS := ms_srt V.hn
  gB := fun x hx => V.hb x (ms_im.mp hx)
  g0 := ms_ne V.h0
theorem Row.made {n : Int} {L : List T3} {h : List Int} (V : Row n L h) : d_Supply [.int n, .lst (L.map tD), .tup (h.map .int)] = .ok (supO n (L.mergeSort tle) (h.mergeSort ile)) :=
  p_SupplyB (size := n) (raw := L) (begun := h) (t1 := false) (t2 := true) V.sup
theorem Row.fam {n : Int} {L : List T3} {h : List Int} (V : Row n L h) : ∃ FB, Fam (L.mergeSort tle) (h.mergeSort ile) FB ∧ FB.length ≤ 120 := by
  have B : FamB n (L.mergeSort tle) (h.mergeSort ile) := ⟨fun e he => by
    have := V.st.bd e (ms_tm.mp he)
    exact ⟨this.1, this.2.2⟩, ms_srt V.hn, fun x hx => V.hb x (ms_im.mp hx), ms_ne V.h0⟩
  have hl : (h.mergeSort ile).length = h.length := List.length_mergeSort ..
  rcases V.kd with k | ⟨k, k2⟩ | ⟨k, k2⟩
  · exact fam_small B k
  · exact fam_ring B V.n1 V.n2 (fun e he => k e (ms_tm.mp he)) (by omega)
  · obtain ⟨FB, h1, h2⟩ := fam_det B V.n2 (fun a ha b hb => k a (ms_tm.mp ha) b (ms_tm.mp hb)) (by omega)
    exact ⟨FB, h1, by omega⟩
def detT3 (L : List T3) : Bool := L.all fun a => L.all fun b => !(decide (a.1 = b.1) && decide (a.2.1 = b.2.1)) || decide (a.2.2 = b.2.2)
theorem detT3_of {L : List T3} (h : detT3 L = true) : DetL L := fun a ha b hb e1 e2 => by
  unfold detT3 at h
  rw [List.all_eq_true] at h
  have := h a ha
  rw [List.all_eq_true] at this
  have := this b hb
  simp only [Bool.or_eq_true, Bool.not_eq_true', Bool.and_eq_false_imp, decide_eq_true_eq, decide_eq_false_iff_not] at this
  rcases this with z | z
  · exact absurd e2 (z e1)
  · exact z
theorem unT3_map : ∀ L : List T3, unT3 (L.map tD) = some L
  | [] => rfl
  | (a, b, c) :: L => by
    show (unT3 (L.map tD)).map ((a, b, c) :: ·) = _
    rw [unT3_map L]; rfl
def shareRD (r : R D) : Bool := match r with
  | .ok (.tup [.int _, .lst ds]) => (match unT3 ds with
    | some L => detT3 L
    | none => false)
  | _ => false
def shareDAt (p : Nat) : Bool := (List.range (p + 1)).all fun q => shareRD (d__law_share [.int (q : Nat), .int p])
theorem shareD1 : shareDAt 1 = true := by decide +kernel
theorem shareD2 : shareDAt 2 = true := by decide +kernel
theorem shareD3 : shareDAt 3 = true := by decide +kernel
theorem shareD4 : shareDAt 4 = true := by decide +kernel
theorem shareD5 : shareDAt 5 = true := by decide +kernel
theorem shareD6 : shareDAt 6 = true := by decide +kernel
theorem shareD7 : shareDAt 7 = true := by decide +kernel
theorem shareD8 : shareDAt 8 = true := by decide +kernel
theorem p_lshareDD {q p : Int} (q0 : 0 ≤ q) (q1 : q ≤ p) (p0 : 1 ≤ p) (p1 : p ≤ 8) : ∃ n L, Row n L [0] ∧ DetL L ∧ d__law_share [.int q, .int p] = .ok (.tup [.int n, .lst (L.map tD)]) := by
  obtain ⟨n, L, B, n1, n2, l1, e⟩ := p_lshare q0 q1 p0 p1
  have hp : shareDAt p.toNat = true := by
    have : p.toNat = 1 ∨ p.toNat = 2 ∨ p.toNat = 3 ∨ p.toNat = 4 ∨ p.toNat = 5 ∨ p.toNat = 6 ∨ p.toNat = 7 ∨ p.toNat = 8 := by omega
    rcases this with e | e | e | e | e | e | e | e
    · rw [e]; exact shareD1
    · rw [e]; exact shareD2
    · rw [e]; exact shareD3
    · rw [e]; exact shareD4
    · rw [e]; exact shareD5
    · rw [e]; exact shareD6
    · rw [e]; exact shareD7
    · rw [e]; exact shareD8
  have h : shareRD (d__law_share [.int (q.toNat : Nat), .int (p.toNat : Nat)]) = true := List.all_eq_true.mp hp q.toNat (List.mem_range.mpr (by omega))
  rw [show ((q.toNat : Nat) : Int) = q by omega, show ((p.toNat : Nat) : Int) = p by omega, e] at h
  have h : (match unT3 (L.map tD) with | some L => detT3 L | none => false) = true := h
  rw [unT3_map] at h
  exact ⟨n, L, ⟨n1, n2, B, by omega, by simp, by simp, fun x hx => by rw [List.mem_singleton.mp hx]; omega, .inr (.inr ⟨detT3_of h, Nat.le_refl _⟩)⟩, detT3_of h, e⟩
set_option Elab.async false
set_option linter.all false
set_option maxRecDepth 100000
open M PySem L2
def shB : FS :=
    (sSeq (sSet 5 (lc2E (fun S => (aC (eW 2) aN) S >>= rng1) (gN 3) tY (fun S => (aC (e2 addD (eC (f2 min2D) (aC (eW 3) (aC (eW 1) aN))) (eI (1))) aN) S >>= rng1) (gN 4) (tB' (e2 leD (e2 subD (eW 1) (eW 4)) (e2 subD (eW 2) (eW 3)))) (eT (aC (eV 3) (aC (eV 4) aN))) [3, 4] [4]))
    (sSeq (sSet 6 (dcE dkT (fun S => (aC (eV 5) aN) S >>= enumerateF) (gT 2 (gsC (gN 10) (gsC (gN 11) gsN))) tY (eV 11) (eV 10) [10, 11]))
    (sSeq (sOwn 7 (eL aN))
    (sFor (fun S => (eV 5) S >>= itemsD) (gT 2 (gsC (gN 3) (gsC (gN 4) gsN))) (sFor (fun S => (eT (aC (eI (0)) (aC (eI (1)) aN))) S >>= itemsD) (gN 8) (sSeq (sSet 9 (eT (aC (e2 addD (eW 3) (eI (1))) (aC (eC (f2 min2D) (aC (e2 addD (eW 4) (eW 8)) (aC (eW 1) aN))) aN))))
    (sSeq (sIf (tB' (e2 eqD (eW 9) (eT (aC (eV 2) (aC (eV 1) aN))))) (sSet 9 (eT (aC (eI (0)) (aC (eI (0)) aN)))) sNil)
    (sIf (tB' (e2 inA (eW 9) (eW 6))) (sApp 7 (eT (aC (e2 ixA (eW 6) (eT (aC (eV 3) (aC (eV 4) aN)))) (aC (eV 8) (aC (e2 ixA (eW 6) (eW 9)) aN))))) sNil))))))))
def shA : FS := (sIf (tO (tNo (tB' (e3 leD leD (eI (1)) (eW 2) (eG gv_LONGEST_PERIOD)))) (tNo (tB' (e3 leD leD (eI (0)) (eW 1) (eW 2))))) (sExc0 202) sNil)
def shC : FS := (sFz 7 (sRet (eCXL 0 3 [.tup [.int 0]] d_Supply (aC (eC (f1 lenD) (aC (eW 5) aN)) (aC (eV 7) aN)))))
theorem seq_assoc (a b c : FS) : sSeq (sSeq a b) c = sSeq a (sSeq b c) := by
  funext S
  unfold sSeq
  cases a S with
  | ok z => obtain ⟨f, S1⟩ := z; cases f <;> rfl
  | exc x => rfl
  | fail => rfl
theorem share_parts : m_Supply_share = sSeq shA (sSeq shB shC) := by
  unfold m_Supply_share shB
  rw [seq_assoc, seq_assoc, seq_assoc]
  rfl
def shS0 (q p : Int) : M.Env := startS 12 [.cls 3, .int q, .int p]
def prs (q p : Nat) : List (Nat × Nat) := (List.range p).flatMap fun i => ((List.range (min i q + 1)).filter fun k => decide (q - k ≤ p - i)).map fun k => (i, k)
def plc (i c : Nat) : List (Nat × Nat) → Nat
  | [] => 0
  | x :: xs => if decide (x.1 = i) && decide (x.2 = c) then 0 else plc i c xs + 1
def num (q p i c : Nat) : Int := (plc i c (prs q p) : Nat)
def led (q p i c b : Nat) : List Int := if i + 1 = p then (if q ≤ c + b then [0] else []) else if q - min (c + b) q ≤ p - (i + 1) then [num q p (i + 1) (min (c + b) q)] else []
def tabOk (q p : Nat) (L : List T3) : Bool := decide (num q p 0 0 = 0) && (List.range p).all fun i => (List.range (min i q + 1)).all fun c => !(decide (q - c ≤ p - i)) || ([0, 1].all fun b : Nat => decide (nxt L (num q p i c) (b : Int) = led q p i c b))
def shLst (r : R (Fl × M.Env)) : Option (List D × List D) := match r with
  | .ok (.nx, [some ⟨false, .cls 3⟩, _, _, _, _, some ⟨false, .lst ps⟩, _, some ⟨true, .lst st⟩, _, _, _, _]) => some (ps, st)
  | _ => none
def shNx (r : R (Fl × M.Env)) : Bool := match r with
  | .ok (.nx, _) => true
  | _ => false
def shRow (r : R D) : Option (Int × List D) := match r with
  | .ok (.tup [.int n, .lst ds]) => some (n, ds)
  | _ => none
def shJn (q p : Nat) (a : Option (Int × List D)) (b : Option (List D × List D)) : Bool := match a, b with
  | some x, some y => (match unT3 x.2, unT3 y.2 with
    | some L, some L' => (decide ((y.1.length : Int) = x.1) && decide (L = L')) && tabOk q p L
    | _, _ => false)
  | _, _ => false
def shOk (q p : Nat) : Bool := shNx (shA (shS0 q p)) && shJn q p (shRow (d__law_share [.int (q : Nat), .int (p : Nat)])) (shLst (shB (shS0 q p)))
def shAt (p : Nat) : Bool := (List.range (p + 1)).all fun q => shOk q p
theorem shc1 : shAt 1 = true := by decide +kernel
theorem shc2 : shAt 2 = true := by decide +kernel
theorem shc3 : shAt 3 = true := by decide +kernel
theorem shc4 : shAt 4 = true := by decide +kernel
theorem shc5 : shAt 5 = true := by decide +kernel
theorem shc6 : shAt 6 = true := by decide +kernel
theorem shc7 : shAt 7 = true := by decide +kernel
theorem shc8 : shAt 8 = true := by decide +kernel
set_option Elab.async false
set_option linter.all false
set_option maxRecDepth 100000
open M PySem L2
theorem shA_same {S S' : M.Env} (h : shA S = .ok (.nx, S')) : S' = S := by
  unfold shA sIf at h
  cases e : (tO (tNo (tB' (e3 leD leD (eI (1)) (eW 2) (eG gv_LONGEST_PERIOD)))) (tNo (tB' (e3 leD leD (eI (0)) (eW 1) (eW 2))))) S with
  | exc x => rw [e] at h; cases h
  | fail => rw [e] at h; cases h
  | ok b =>
    rw [e, R.ok_bind] at h
    cases b with
    | true => cases h
    | false => cases h; rfl
theorem shC_ok {n : Int} {l ps : List D} {a1 a2 a3 a4 a6 a8 a9 a10 a11 : Option Sl} {d : D} (hn : (ps.length : Int) = n) (h : d_Supply [.int n, .lst l, .tup [.int 0]] = .ok d) :
    endF true (shC [(some (Sl.mk false (.cls 3))), a1, a2, a3, a4, (some (Sl.mk false (.lst ps))), a6, (some (Sl.mk true (.lst l))), a8, a9, a10, a11]) = .ok d := by
  have e : shC [(some (Sl.mk false (.cls 3))), a1, a2, a3, a4, (some (Sl.mk false (.lst ps))), a6, (some (Sl.mk true (.lst l))), a8, a9, a10, a11] = (d_Supply [.int ps.length, .lst l, .tup [.int 0]] >>= fun d => .ok (.rt d, [(some (Sl.mk false (.cls 3))), a1, a2, a3, a4, (some (Sl.mk false (.lst ps))), a6, (some (Sl.mk false (.lst l))), a8, a9, a10, a11])) := rfl
  rw [e, hn, h]; rfl
structure ShF (q p : Nat) (n : Int) (L : List T3) : Prop where
  row : Row n L [0]
  det : DetL L
  law : d__law_share [.int (q : Nat), .int (p : Nat)] = .ok (.tup [.int n, .lst (L.map tD)])
  own : d_Supply_share [.cls 3, .int (q : Nat), .int (p : Nat)] = .ok (supO n (L.mergeSort tle) [0])
  n00 : num q p 0 0 = 0
  tab : ∀ i c, i < p → c ≤ min i q → q - c ≤ p - i → ∀ b, b = 0 ∨ b = 1 → aft (L.mergeSort tle) [num q p i c] (b : Nat) = led q p i c b
theorem led_id {q p i c b : Nat} : (led q p i c b).Pairwise (· < ·) := by
  unfold led
  split
  · split <;> simp
  · split <;> simp
theorem sh_own {q p : Nat} {n : Int} {S : M.Env} {l ps : List D} {a1 a2 a3 a4 a6 a8 a9 a10 a11 : Option Sl} {d : D} (e2 : shA (shS0 q p) = .ok (.nx, S)) (e3 : shB (shS0 q p) = .ok (.nx, [(some (Sl.mk false (.cls 3))), a1, a2, a3, a4, (some (Sl.mk false (.lst ps))), a6, (some (Sl.mk true (.lst l))), a8, a9, a10, a11]))
    (hn : (ps.length : Int) = n) (h : d_Supply [.int n, .lst l, .tup [.int 0]] = .ok d) : d_Supply_share [.cls 3, .int (q : Nat), .int (p : Nat)] = .ok d := by
  unfold d_Supply_share runF
  rw [share_parts]
  have := shA_same e2
  subst this
  have e4 : sSeq shA (sSeq shB shC) (startS 12 [.cls 3, .int q, .int p]) = shC [(some (Sl.mk false (.cls 3))), a1, a2, a3, a4, (some (Sl.mk false (.lst ps))), a6, (some (Sl.mk true (.lst l))), a8, a9, a10, a11] := by
    show sSeq shA (sSeq shB shC) (shS0 q p) = _
    have s1 : sSeq shA (sSeq shB shC) (shS0 q p) = (shA (shS0 q p) >>= fun z => match z.1 with | .nx => sSeq shB shC z.2 | _ => .ok z) := rfl
    rw [s1, e2, R.ok_bind]
    have s2 : sSeq shB shC (shS0 q p) = (shB (shS0 q p) >>= fun z => match z.1 with | .nx => shC z.2 | _ => .ok z) := rfl
    show sSeq shB shC (shS0 q p) = _
    rw [s2, e3, R.ok_bind]
  rw [e4]
  exact shC_ok hn h
theorem sh_tab {q p : Nat} {L : List T3} (h : tabOk q p L = true) : num q p 0 0 = 0 ∧ ∀ i c, i < p → c ≤ min i q → q - c ≤ p - i → ∀ b, b = 0 ∨ b = 1 → aft (L.mergeSort tle) [num q p i c] (b : Nat) = led q p i c b := by
  unfold tabOk at h
  rw [Bool.and_eq_true, decide_eq_true_eq] at h
  obtain ⟨h1, h2⟩ := h
  refine ⟨h1, fun i c hi hc hcp b hb => ?_⟩
  rw [List.all_eq_true] at h2
  have h5 := h2 i (List.mem_range.mpr hi)
  rw [List.all_eq_true] at h5
  have h6 := h5 c (List.mem_range.mpr (by omega))
  rw [decide_eq_true hcp, Bool.not_true, Bool.false_or, List.all_eq_true] at h6
  have h7 := of_decide_eq_true (h6 b (by rcases hb with rfl | rfl <;> simp))
  rw [aft_sort]
  unfold aft
  rw [List.flatMap_cons, List.flatMap_nil, List.append_nil, h7]
  exact srtN_id led_id
theorem shLst_of {r : R (Fl × M.Env)} {ps st : List D} (h : shLst r = some (ps, st)) : ∃ a1 a2 a3 a4 a6 a8 a9 a10 a11, r = .ok (.nx, [(some (Sl.mk false (.cls 3))), a1, a2, a3, a4, (some (Sl.mk false (.lst ps))), a6, (some (Sl.mk true (.lst st))), a8, a9, a10, a11]) := by
  unfold shLst at h
  split at h
  · injection h with h
    injection h with h1 h2
    subst h1
    subst h2
    exact ⟨_, _, _, _, _, _, _, _, _, rfl⟩
  · cases h
theorem shNx_of {r : R (Fl × M.Env)} (h : shNx r = true) : ∃ S, r = .ok (.nx, S) := by
  unfold shNx at h
  split at h
  · exact ⟨_, rfl⟩
  · cases h
theorem shJn_of {q p : Nat} {n : Int} {L : List T3} {b : Option (List D × List D)} (h : shJn q p (some (n, L.map tD)) b = true) : ∃ ps, b = some (ps, L.map tD) ∧ (ps.length : Int) = n ∧ tabOk q p L = true := by
  cases b with
  | none => cases h
  | some y =>
    have h : (match unT3 (L.map tD), unT3 y.2 with
      | some L, some L' => (decide ((y.1.length : Int) = n) && decide (L = L')) && tabOk q p L
      | _, _ => false) = true := h
    rw [unT3_map] at h
    cases u : unT3 y.2 with
    | none => rw [u] at h; cases h
    | some L' =>
      rw [u] at h
      have h : ((decide ((y.1.length : Int) = n) && decide (L = L')) && tabOk q p L) = true := h
      rw [Bool.and_eq_true, Bool.and_eq_true] at h
      have e5 := of_decide_eq_true h.1.2
      subst e5
      have est := unT3_eq u
      refine ⟨y.1, ?_, of_decide_eq_true h.1.1, h.2⟩
      rw [← est]
theorem sh_cut {q p : Nat} {n : Int} {L : List T3} (eL : d__law_share [.int (q : Nat), .int (p : Nat)] = .ok (.tup [.int n, .lst (L.map tD)])) (h : shOk q p = true) :
    ∃ S a1 a2 a3 a4 ps a6 a8 a9 a10 a11, shA (shS0 q p) = .ok (.nx, S) ∧ shB (shS0 q p) = .ok (.nx, [(some (Sl.mk false (.cls 3))), a1, a2, a3, a4, (some (Sl.mk false (.lst ps))), a6, (some (Sl.mk true (.lst (L.map tD)))), a8, a9, a10, a11]) ∧ (ps.length : Int) = n ∧ tabOk q p L = true := by
  unfold shOk at h
  rw [Bool.and_eq_true, eL] at h
  obtain ⟨S, e1⟩ := shNx_of h.1
  obtain ⟨ps, e2, e3, e4⟩ := shJn_of (n := n) (L := L) h.2
  obtain ⟨a1, a2, a3, a4, a6, a8, a9, a10, a11, e5⟩ := shLst_of e2
  exact ⟨S, a1, a2, a3, a4, ps, a6, a8, a9, a10, a11, e1, e5, e3, e4⟩
theorem shF_of {q p : Nat} (hq : q ≤ p) (p0 : 1 ≤ p) (p1 : p ≤ 8) (h : shOk q p = true) : ∃ n L, ShF q p n L := by
  obtain ⟨n, L, RW, DT, eL⟩ := p_lshareDD (q := q) (p := p) (by omega) (by omega) (by omega) (by omega)
  obtain ⟨S, b1, b2, b3, b4, ps, b6, b8, b9, b10, b11, e2, e3, h1, h3⟩ := sh_cut eL h
  have mk := RW.made
  rw [show [(0 : Int)].mergeSort ile = [0] from List.mergeSort_singleton _] at mk
  exact ⟨n, L, RW, DT, eL, sh_own e2 e3 h1 mk, (sh_tab h3).1, (sh_tab h3).2⟩
theorem p_shF {q p : Nat} (hq : q ≤ p) (p0 : 1 ≤ p) (p1 : p ≤ 8) : ∃ n L, ShF q p n L := by
  refine shF_of hq p0 p1 ?_
  have hp : shAt p = true := by
    have : p = 1 ∨ p = 2 ∨ p = 3 ∨ p = 4 ∨ p = 5 ∨ p = 6 ∨ p = 7 ∨ p = 8 := by omega
    rcases this with rfl | rfl | rfl | rfl | rfl | rfl | rfl | rfl
    · exact shc1
    · exact shc2
    · exact shc3
    · exact shc4
    · exact shc5
    · exact shc6
    · exact shc7
    · exact shc8
  exact List.all_eq_true.mp hp q (List.mem_range.mpr (by omega))
set_option Elab.async false
set_option linter.all false
set_option maxRecDepth 100000
open M PySem L2
set_option Elab.async false
set_option linter.all false
set_option maxRecDepth 100000
open M PySem L2
theorem ms_id {l : List Int} (h : l.Pairwise (· < ·)) : l.mergeSort ile = l := by rw [← srtN_nd (strict_nd h), srtN_id h]
theorem DrS.sup {size : Int} {L : List T3} {bg : List Int} (V : DrS size L bg) : SupB size (L.mergeSort tle) bg where
  s1 := V.s1
  s2 := by have := V.s2; omega
  st0 := V.b0
  stS := V.bS
  stB := V.bB
  tS := tst_strict V.st.nd
  tB := fun e he => V.st.bd e ((List.mergeSort_perm L tle).mem_iff.mp he)
  tL := by have := V.ln; rw [List.length_mergeSort]; omega
  tA := fun s a b => by
    obtain ⟨e, he, h⟩ := V.st.ev s a b
    exact ⟨e, (List.mergeSort_perm L tle).mem_iff.mpr he, h⟩
theorem p_made {size : Int} {L : List T3} {bg : List Int} {t1 t2 : Bool} (V : DrS size L bg) : d_Supply [.int size, seqD t1 (L.map tD), seqD t2 (bg.map .int)] = .ok (supO size (L.mergeSort tle) bg) := by
  have e := ms_id V.bS
  have := p_SupplyB (size := size) (raw := L) (begun := bg) (t1 := t1) (t2 := t2) (by rw [e]; exact V.sup)
  rw [this, e]
def trn (e : T3) : T3 := (e.1, 1 - e.2.1, e.2.2)
theorem trn_trn (e : T3) : trn (trn e) = e := by
  obtain ⟨a, b, c⟩ := e
  unfold trn
  dsimp only
  rw [show 1 - (1 - b) = b by omega]
theorem DrS.turn {size : Int} {L : List T3} {bg : List Int} (V : DrS size L bg) : DrS size (L.map trn) bg where
  s1 := V.s1
  s2 := V.s2
  st := by
    refine ⟨nd_map _ V.st.nd fun a _ b _ h => ?_, fun e he => ?_, fun s a b => ?_⟩
    · have := congrArg trn h
      rwa [trn_trn, trn_trn] at this
    · obtain ⟨x, hx, rfl⟩ := List.mem_map.mp he
      have := V.st.bd x hx
      unfold trn
      dsimp only
      omega
    · obtain ⟨e, he, h⟩ := V.st.ev s a b
      exact ⟨trn e, List.mem_map_of_mem he, h⟩
  ln := by rw [List.length_map]; exact V.ln
  b0 := V.b0
  b2 := V.b2
  bS := V.bS
  bB := V.bB
set_option Elab.async false
set_option linter.all false
set_option maxRecDepth 100000
open M PySem L2
structure Lst (steps : List T3) (starts found : List Int) : Prop where
  st : ∀ s ∈ starts, s ∈ found
  cl : ∀ e ∈ steps, e.1 ∈ found → e.2.2 ∈ found
  mn : ∀ P : Int → Prop, (∀ s ∈ starts, P s) → (∀ e ∈ steps, P e.1 → P e.2.2) → ∀ x ∈ found, P x
theorem Lst.uniq {steps steps' : List T3} {starts starts' a b : List Int} (h1 : Lst steps starts a) (h2 : Lst steps' starts' b) (hs : ∀ e, e ∈ steps ↔ e ∈ steps') (ht : ∀ x, x ∈ starts ↔ x ∈ starts') : ∀ x, x ∈ a ↔ x ∈ b := fun x =>
  ⟨h1.mn (· ∈ b) (fun s hs' => h2.st s ((ht s).mp hs')) (fun e he => h2.cl e ((hs e).mp he)) x, h2.mn (· ∈ a) (fun s hs' => h1.st s ((ht s).mpr hs')) (fun e he => h1.cl e ((hs e).mpr he)) x⟩
def addAll (L xs : List Int) : List Int := xs.foldl nubI1 L
theorem addAll_mem {x : Int} : ∀ {xs L : List Int}, x ∈ addAll L xs ↔ x ∈ L ∨ x ∈ xs
  | [], L => by simp [addAll]
  | y :: xs, L => by
    show x ∈ addAll (nubI1 L y) xs ↔ _
    rw [addAll_mem]
    unfold nubI1
    by_cases h : y ∈ L
    · rw [if_pos h, List.mem_cons]
      constructor
      · rintro (h' | h')
        · exact .inl h'
        · exact .inr (.inr h')
      · rintro (h' | rfl | h')
        · exact .inl h'
        · exact .inl h
        · exact .inr h'
    · rw [if_neg h]; simp [or_assoc]
theorem addAll_nd : ∀ {xs L : List Int}, L.Nodup → (addAll L xs).Nodup
  | [], L, h => h
  | y :: xs, L, h => by
    show (addAll (nubI1 L y) xs).Nodup
    refine addAll_nd ?_
    unfold nubI1
    by_cases hy : y ∈ L
    · rwa [if_pos hy]
    · rw [if_neg hy, List.nodup_append]
      exact ⟨h, by simp, fun a ha b hb => by rw [List.mem_singleton] at hb; subst hb; exact fun z => hy (z ▸ ha)⟩
theorem addAll_pre : ∀ {xs L : List Int}, L <+: addAll L xs
  | [], L => List.prefix_rfl
  | y :: xs, L => by
    refine List.IsPrefix.trans ?_ (addAll_pre (xs := xs) (L := nubI1 L y))
    unfold nubI1
    by_cases hy : y ∈ L
    · rw [if_pos hy]; exact List.prefix_rfl
    · rw [if_neg hy]; exact List.prefix_append ..
structure Bfs (size : Int) (steps : List T3) (starts : List Int) (L : List Int) (k : Nat) : Prop where
  nd : L.Nodup
  bd : ∀ x ∈ L, 0 ≤ x ∧ x < size
  st : ∀ s ∈ starts, s ∈ L
  mn : ∀ P : Int → Prop, (∀ s ∈ starts, P s) → (∀ e ∈ steps, P e.1 → P e.2.2) → ∀ x ∈ L, P x
  kl : k ≤ L.length
  pr : ∀ (i : Nat), i < k → ∀ e ∈ steps, L[i]? = some e.1 → e.2.2 ∈ L
theorem nd_bound {L : List Int} {size : Int} (h : L.Nodup) (hb : ∀ x ∈ L, 0 ≤ x ∧ x < size) : L.length ≤ size.toNat := by
  have := nd_len_le h (b := (List.range size.toNat).map fun (i : Nat) => (i : Int)) fun x hx => by
    have := hb x hx
    exact List.mem_map.mpr ⟨x.toNat, List.mem_range.mpr (by omega), by omega⟩
  simpa using this
theorem Bfs.step {size : Int} {steps : List T3} {starts L : List Int} {k : Nat} {s : Int} (B : Bfs size steps starts L k) (V : SupB size steps starts) (hs : L[k]? = some s) : Bfs size steps starts (addAll (addAll L (nxt steps s 0)) (nxt steps s 1)) (k + 1) := by
  have mem : ∀ x, x ∈ addAll (addAll L (nxt steps s 0)) (nxt steps s 1) ↔ x ∈ L ∨ (s, 0, x) ∈ steps ∨ (s, 1, x) ∈ steps := fun x => by
    rw [addAll_mem, addAll_mem, nxt_mem, nxt_mem, or_assoc]
  have pre : L <+: addAll (addAll L (nxt steps s 0)) (nxt steps s 1) := addAll_pre.trans addAll_pre
  have hk : k < L.length := (List.getElem?_eq_some_iff.mp hs).1
  refine ⟨addAll_nd (addAll_nd B.nd), fun x hx => ?_, fun x hx => (mem x).mpr (.inl (B.st x hx)), fun P h1 h2 x hx => ?_, ?_, fun i hi e he h => ?_⟩
  · rcases (mem x).mp hx with h | h | h
    · exact B.bd x h
    · exact (V.tB _ h).2.2
    · exact (V.tB _ h).2.2
  · have ps := B.mn P h1 h2 s (List.mem_of_getElem? hs)
    rcases (mem x).mp hx with h | h | h
    · exact B.mn P h1 h2 x h
    · exact h2 _ h ps
    · exact h2 _ h ps
  · have := pre.length_le; omega
  · have hL : L[i]? = some e.1 := by
      obtain ⟨t, ht⟩ := pre
      rw [← ht, List.getElem?_append_left (by omega)] at h
      exact h
    rw [mem]
    by_cases hik : i = k
    · subst hik
      rw [hs] at hL; injection hL with hL
      right
      obtain ⟨e1, e2, e3⟩ := e
      dsimp only at *
      subst hL
      rcases (V.tB _ he).2.1 with h | h <;> dsimp only at h <;> subst h
      · exact .inl he
      · exact .inr he
    · exact .inl (B.pr i (by omega) e he hL)
theorem Bfs.fin {size : Int} {steps : List T3} {starts L : List Int} {k : Nat} (B : Bfs size steps starts L k) (hk : k = L.length) : Lst steps starts L :=
  ⟨B.st, fun e he h => by
    obtain ⟨i, hi⟩ := List.mem_iff_getElem?.mp h
    exact B.pr i (by have := (List.getElem?_eq_some_iff.mp hi).1; omega) e he hi, B.mn⟩
set_option Elab.async false
set_option linter.all false
set_option maxRecDepth 100000
open M PySem L2
theorem p_lreached {size : Int} {L : List T3} {bg : List Int} (V : DrS size L bg) : ∃ R, R.Nodup ∧ (∀ x ∈ R, 0 ≤ x ∧ x < size) ∧ Lst L bg R ∧ d__law_reached [.int size, .lst (L.map tD), .tup (bg.map .int)] = .ok (.lst ((srtN R).map .int)) := by
  have hs := size_ge
  have s1 := V.s1
  have s2 := V.s2
  suffices h : Ok (d__law_reached [.int size, .lst (L.map tD), .tup (bg.map .int)]) fun d => ∃ R, R.Nodup ∧ (∀ x ∈ R, 0 ≤ x ∧ x < size) ∧ Lst L bg R ∧ d = .lst ((srtN R).map .int) by
    obtain ⟨d, e, R, h1, h2, h3, rfl⟩ := h
    exact ⟨R, h1, h2, h3, e⟩
  unfold d__law_reached m__law_reached
  rw [ok_nox, k_run]
  simp? only [tup_seqD, k_srtQ, ms_id V.bS]
  refine ⟨by omega, ?_⟩
  refine for_inv (fun i S => ∃ (F : List Int) (a b c d e : Option Sl), F.Nodup ∧ (∀ x ∈ F, 0 ≤ x ∧ x < size) ∧ (∀ x ∈ bg, x ∈ F) ∧ (∀ P : Int → Prop, (∀ s ∈ bg, P s) → (∀ e ∈ L, P e.1 → P e.2.2) → ∀ x ∈ F, P x) ∧ 1 + i ≤ F.length ∧
    S = [(some (Sl.mk false (.int size))), (some (Sl.mk false (.lst (L.map tD)))), (some (Sl.mk false (.tup (bg.map .int)))), (some (Sl.mk true (.lst (F.map .int)))), a, b, c, d, e]) _ 0 _ ⟨bg, none, none, none, none, none, strict_nd V.bS, V.bB, fun _ h => h, fun P h _ => h, by have := List.length_pos_iff.mpr V.b0; omega, rfl⟩ ?_ ?_
  · rintro i d S hd ⟨F, a, b, c, d', e, n1, n2, n3, n4, n5, rfl⟩
    obtain ⟨hi, rfl⟩ := rngL_get hd
    rw [Nat.zero_add] at n5
    have lF := nd_bound n1 n2
    simp? only []
    refine for_typed tD (fun done S => ∃ (G : List Int) (c d e : Option Sl), F <+: G ∧ G.Nodup ∧ (∀ x ∈ G, 0 ≤ x ∧ x < size) ∧ (∀ P : Int → Prop, (∀ s ∈ bg, P s) → (∀ e ∈ L, P e.1 → P e.2.2) → ∀ x ∈ G, P x) ∧ (∀ e ∈ done, e.1 ∈ F → e.2.2 ∈ G) ∧
      S = [(some (Sl.mk false (.int size))), (some (Sl.mk false (.lst (L.map tD)))), (some (Sl.mk false (.tup (bg.map .int)))), (some (Sl.mk true (.lst (G.map .int)))), (some (Sl.mk false (.int (0 + (i : Int))))), (some (Sl.mk false (.int F.length))), c, d, e]) L _ ⟨F, c, d', e, List.prefix_rfl, n1, n2, n4, by simp, rfl⟩ ?_ ?_
    · rintro done x rest S eq ⟨G, c, d, e, g1, g2, g3, g4, g5, rfl⟩
      have hx : x ∈ L := by rw [eq]; simp
      have lG := nd_bound g2 g3
      have bx := V.st.bd x hx
      have stay : (∀ z : Int, x.1 ∈ F → x.2.2 ∈ G) → (∀ e ∈ done ++ [x], e.1 ∈ F → e.2.2 ∈ G) := fun h e he hF => by
        rcases List.mem_append.mp he with he | he
        · exact g5 e he hF
        · rw [List.mem_singleton.mp he] at hF ⊢; exact h 0 hF
      simp? only [k_gT3, k_inI, k_ninI]
      refine ⟨fun h1 => ⟨fun h2 => ⟨by omega, G ++ [x.2.2], _, _, _, g1.trans (List.prefix_append ..), ?_, ?_, ?_, ?_, by rw [List.map_append]; rfl⟩, fun h2 => ⟨G, _, _, _, g1, g2, g3, g4, stay fun _ _ => by simpa using h2, rfl⟩⟩, fun h1 => ⟨G, _, _, _, g1, g2, g3, g4, stay fun _ z => absurd (g1.subset z) (of_decide_eq_false h1), rfl⟩⟩
      · have h2 := of_decide_eq_false h2
        exact List.nodup_append.mpr ⟨g2, by simp, fun a ha b hb => by rw [List.mem_singleton] at hb; subst hb; exact fun z => h2 (z ▸ ha)⟩
      · intro y hy
        rcases List.mem_append.mp hy with hy | hy
        · exact g3 y hy
        · rw [List.mem_singleton.mp hy]; exact bx.2.2
      · intro P p1 p2 y hy
        rcases List.mem_append.mp hy with hy | hy
        · exact g4 P p1 p2 y hy
        · rw [List.mem_singleton.mp hy]; exact p2 x hx (g4 P p1 p2 _ (of_decide_eq_true h1))
      · intro e he hF
        rcases List.mem_append.mp he with he | he
        · exact List.mem_append_left _ (g5 e he hF)
        · rw [List.mem_singleton.mp he]; exact List.mem_append_right _ (List.mem_singleton.mpr rfl)
    · rintro S ⟨G, c, d, e, g1, g2, g3, g4, g5, rfl⟩
      have st' : ∀ x ∈ bg, x ∈ G := fun x hx => g1.subset (n3 x hx)
      simp? only []
      refine ⟨fun h => ?_, fun h => ⟨G, _, _, _, _, _, g2, g3, st', g4, ?_, rfl⟩⟩
      · have h := of_decide_eq_true h
        have eG : F = G := g1.eq_of_length (by omega)
        subst eG
        show Ok (.ok (Fl.bk, _)) _
        rw [ok_ok]
        dsimp only
        simp? only [lst_seqD, k_srtQ]
        exact ⟨F, g2, g3, ⟨n3, g5, n4⟩, by rw [srtN_nd g2]⟩
      · have h := of_decide_eq_false h
        have := g1.length_le
        omega
  · rintro S ⟨F, a, b, c, d, e, n1, n2, n3, n4, n5, rfl⟩
    have lF := nd_bound n1 n2
    rw [rngL_len, Nat.zero_add] at n5
    omega
set_option Elab.async false
set_option linter.all false
set_option maxRecDepth 100000
open M PySem L2
section
variable {QS : Fl × M.Env → Prop} {QN : M.Env × M.Nd → Prop} {QD : M.Nd → Prop} {QB : Bool → Prop} {QA : List (Bool × D) → Prop} {S : M.Env} {n : M.Nd} {f g : FE} {F G : FN} {Z : FNR} {t : FT} {tn : FTN} {fa : FAN} {i : Nat} {r : FS}
end
set_option Elab.async false
set_option linter.all false
set_option maxRecDepth 100000
open M PySem L2
def outs (L : List T3) (s : Int) : List P2i := (L.filter fun e => decide (e.1 = s)).map fun e => (e.2.1, e.2.2)
theorem outs_mem {L : List T3} {s : Int} {p : P2i} : p ∈ outs L s ↔ (s, p.1, p.2) ∈ L := by
  unfold outs
  simp only [List.mem_map, List.mem_filter, decide_eq_true_eq]
  constructor
  · rintro ⟨e, ⟨he, rfl⟩, rfl⟩; exact he
  · intro h; exact ⟨_, ⟨h, rfl⟩, rfl⟩
theorem outs_snoc (L : List T3) (e : T3) (s : Int) : outs (L ++ [e]) s = outs L s ++ (if e.1 = s then [(e.2.1, e.2.2)] else []) := by
  unfold outs
  rw [List.filter_append, List.map_append]
  by_cases h : e.1 = s <;> simp [h]
theorem outs_le (L : List T3) (s : Int) : (outs L s).length ≤ L.length := by unfold outs; rw [List.length_map]; exact List.length_filter_le ..
set_option Elab.async false
set_option linter.all false
set_option maxRecDepth 100000
open M PySem L2
def lo (T : Int → List P2i) : Nat → Int → Int
  | 0, _ => 0
  | n + 1, s => minL ((T s).map fun p => p.1 + lo T n p.2)
theorem min_ints {l : List Int} (h : l ≠ []) : minD (.lst (l.map .int)) = .ok (.int (minL l)) := by
  have e : asI (l.map D.int) = some l := asI_int l
  simp only [minD, e]
  cases l with
  | nil => exact absurd rfl h
  | cons a r => rfl
structure TabV (R : List Int) (T : Int → List P2i) : Prop where
  nd : R.Nodup
  ln : R.length ≤ 200
  ne : R ≠ []
  te : ∀ s ∈ R, T s ≠ []
  tl : ∀ s ∈ R, (T s).length ≤ 300
  tc : ∀ s ∈ R, ∀ p ∈ T s, p.2 ∈ R
  tb : ∀ s ∈ R, ∀ p ∈ T s, p.1 = 0 ∨ p.1 = 1
def tT (T : Int → List P2i) (s : Int) : List P2i := (T s).map fun p => (1 - p.1, p.2)
theorem TabV.turn {R : List Int} {T : Int → List P2i} (V : TabV R T) : TabV R (tT T) where
  nd := V.nd
  ln := V.ln
  ne := V.ne
  te := fun s hs => by unfold tT; simpa using V.te s hs
  tl := fun s hs => by unfold tT; rw [List.length_map]; exact V.tl s hs
  tc := fun s hs p hp => by
    obtain ⟨x, hx, rfl⟩ := List.mem_map.mp hp
    exact V.tc s hs x hx
  tb := fun s hs p hp => by
    obtain ⟨x, hx, rfl⟩ := List.mem_map.mp hp
    have := V.tb s hs x hx
    dsimp only; omega
def mn (R : List Int) (T : Int → List P2i) (n : Nat) : Int := minL (R.map (lo T n))
set_option Elab.async false
set_option linter.all false
set_option maxRecDepth 100000
open M PySem L2
def fmin (d : Int) (l : List Int) : Int := l.foldl (fun a b => if b < a then b else a) d
theorem minL_sp {l : List Int} (h : l ≠ []) : minL l ∈ l ∧ ∀ x ∈ l, minL l ≤ x := by
  cases l with
  | nil => exact absurd rfl h
  | cons a r => exact ⟨(minL_fold r a).2, (minL_fold r a).1⟩
theorem minL_uq {l : List Int} {m : Int} (h1 : m ∈ l) (h2 : ∀ x ∈ l, m ≤ x) : minL l = m := by
  obtain ⟨a, b⟩ := minL_sp (List.ne_nil_of_mem h1)
  exact Int.le_antisymm (b m h1) (h2 _ a)
theorem minL_mem {a b : List Int} (h : ∀ x, x ∈ a ↔ x ∈ b) : minL a = minL b := by
  by_cases e : a = []
  · subst e
    have : b = [] := List.eq_nil_iff_forall_not_mem.mpr fun x hx => by simpa using (h x).mpr hx
    rw [this]
  · obtain ⟨p, q⟩ := minL_sp e
    exact (minL_uq ((h _).mp p) fun x hx => q x ((h x).mpr hx)).symm
theorem fmin_eq {l : List Int} {d : Int} (h : l ≠ []) (hd : ∀ x ∈ l, x ≤ d) : fmin d l = minL l := by
  obtain ⟨a, b⟩ := minL_fold l d
  obtain ⟨p, q⟩ := minL_sp h
  show fmin d l = minL l
  have b : fmin d l ∈ d :: l := b
  have a : ∀ y ∈ d :: l, fmin d l ≤ y := a
  refine Int.le_antisymm (a _ (List.mem_cons_of_mem _ p)) ?_
  rcases List.mem_cons.mp b with e | e
  · rw [e]; exact hd _ p
  · exact q _ e
theorem lo_bd {R : List Int} {T : Int → List P2i} (V : TabV R T) : ∀ (n : Nat) {s : Int}, s ∈ R → 0 ≤ lo T n s ∧ lo T n s ≤ n
  | 0, s, _ => ⟨Int.le_refl _, by show (0 : Int) ≤ _; omega⟩
  | n + 1, s, hs => by
    have ne : ((T s).map fun p => p.1 + lo T n p.2) ≠ [] := by simpa using V.te s hs
    obtain ⟨m, _⟩ := minL_sp ne
    obtain ⟨p, hp, e⟩ := List.mem_map.mp m
    have := lo_bd V n (V.tc s hs p hp)
    have := V.tb s hs p hp
    show 0 ≤ minL ((T s).map fun p => p.1 + lo T n p.2) ∧ minL ((T s).map fun p => p.1 + lo T n p.2) ≤ _
    rw [← e]
    omega
theorem imD_congr {b : Bool} {R : List Int} {g g' : Int → D} (h : ∀ x ∈ R, g x = g' x) : imD b R g = imD b R g' := by
  unfold imD
  rw [List.map_congr_left h]
def vl (f : Int → Int) (L : List T3) (s : Int) : List Int := (outs L s).map fun p => p.1 + f p.2
theorem vl_snoc (f : Int → Int) (L : List T3) (e : T3) (s : Int) : vl f (L ++ [e]) s = vl f L s ++ (if e.1 = s then [e.2.1 + f e.2.2] else []) := by
  unfold vl
  rw [outs_snoc, List.map_append]
  by_cases h : e.1 = s <;> simp [h]
theorem fmin_snoc (d x : Int) (l : List Int) : fmin d (l ++ [x]) = if x < fmin d l then x else fmin d l := by unfold fmin; rw [List.foldl_append]; rfl
structure Tb0 (L : List T3) (R : List Int) : Prop where
  nd : R.Nodup
  ln : R.length ≤ 200
  ne : R ≠ []
  tl : L.length ≤ 300
  ev : ∀ s ∈ R, ∃ e ∈ L, e.1 = s
  cl : ∀ e ∈ L, e.1 ∈ R → e.2.2 ∈ R
  tb : ∀ e ∈ L, e.2.1 = 0 ∨ e.2.1 = 1
theorem Tb0.tab {L : List T3} {R : List Int} (V : Tb0 L R) : TabV R (outs L) where
  nd := V.nd
  ln := V.ln
  ne := V.ne
  te := fun s hs => by
    obtain ⟨e, he, rfl⟩ := V.ev s hs
    exact List.ne_nil_of_mem (outs_mem.mpr he : (e.2.1, e.2.2) ∈ outs L e.1)
  tl := fun s _ => by have := outs_le L s; have := V.tl; omega
  tc := fun s hs p hp => V.cl _ (outs_mem.mp hp) hs
  tb := fun s hs p hp => V.tb _ (outs_mem.mp hp)
theorem lo_succ {L : List T3} {R : List Int} (V : Tb0 L R) (i : Nat) {s : Int} (hs : s ∈ R) : fmin ((i : Int) + 1) (vl (lo (outs L) i) L s) = lo (outs L) (i + 1) s := by
  have W := V.tab
  refine fmin_eq (by unfold vl; simpa using W.te s hs) fun x hx => ?_
  obtain ⟨p, hp, rfl⟩ := List.mem_map.mp hx
  have := lo_bd W i (W.tc s hs p hp)
  have := W.tb s hs p hp
  omega
theorem isd_im {F : List Int} {g : Int → D} : isDct (imD false F g) = true := rfl
theorem outs_nil {L : List T3} {s : Int} (h : ∀ e ∈ L, e.1 ≠ s) : outs L s = [] := by
  unfold outs
  rw [List.filter_eq_nil_iff.mpr fun e he => by simpa using h e he]
  rfl
theorem vl_nil {f : Int → Int} {L : List T3} {s : Int} (h : ∀ e ∈ L, e.1 ≠ s) : vl f L s = [] := by unfold vl; rw [outs_nil h]; rfl
theorem fmin_fun (d : Int) (f : Int → Int) (done : List T3) (x : T3) : (fun y => if y = x.1 then D.int (if x.2.1 + f x.2.2 < fmin d (vl f done x.1) then x.2.1 + f x.2.2 else fmin d (vl f done x.1)) else D.int (fmin d (vl f done y))) = fun y => D.int (fmin d (vl f (done ++ [x]) y)) := by
  funext y
  rw [vl_snoc]
  by_cases h : y = x.1
  · subst h; rw [if_pos rfl, if_pos rfl, fmin_snoc]
  · rw [if_neg h, if_neg (fun z => h z.symm), List.append_nil]
structure Ky (R : List Int) (done : List T3) (F : List Int) : Prop where
  nd : F.Nodup
  ln : F.length ≤ done.length
  mem : ∀ x, x ∈ F ↔ x ∈ R ∧ ∃ e ∈ done, e.1 = x
theorem Ky.nil (R : List Int) : Ky R [] [] := ⟨List.nodup_nil, Nat.le_refl _, by simp⟩
theorem Ky.same {R F : List Int} {done : List T3} {x : T3} (K : Ky R done F) (h : x.1 ∉ R) : Ky R (done ++ [x]) F := ⟨K.nd, by have := K.ln; simp; omega, fun y => by
  rw [K.mem]
  constructor
  · rintro ⟨a, e, b, c⟩; exact ⟨a, e, List.mem_append_left _ b, c⟩
  · rintro ⟨a, e, b, c⟩
    rcases List.mem_append.mp b with b | b
    · exact ⟨a, e, b, c⟩
    · rw [List.mem_singleton.mp b] at c; exact absurd (c ▸ a) h⟩
theorem Ky.put {R F : List Int} {done : List T3} {x : T3} (K : Ky R done F) (h : x.1 ∈ R) : Ky R (done ++ [x]) (if x.1 ∈ F then F else F ++ [x.1]) := by
  have key : ∀ y, y ∈ (if x.1 ∈ F then F else F ++ [x.1]) ↔ y ∈ F ∨ y = x.1 := fun y => by
    by_cases g : x.1 ∈ F
    · rw [if_pos g]; exact ⟨.inl, fun z => z.elim id fun z => z ▸ g⟩
    · rw [if_neg g]; simp
  refine ⟨?_, ?_, fun y => ?_⟩
  · by_cases g : x.1 ∈ F
    · rw [if_pos g]; exact K.nd
    · rw [if_neg g]; exact List.nodup_append.mpr ⟨K.nd, by simp, fun a ha b hb => by rw [List.mem_singleton] at hb; subst hb; exact fun z => g (z ▸ ha)⟩
  · have := K.ln
    by_cases g : x.1 ∈ F
    · rw [if_pos g, List.length_append]; omega
    · rw [if_neg g, List.length_append, List.length_append]; simp; omega
  · rw [key, K.mem]
    constructor
    · rintro (⟨a, e, b, c⟩ | rfl)
      · exact ⟨a, e, List.mem_append_left _ b, c⟩
      · exact ⟨h, x, by simp, rfl⟩
    · rintro ⟨a, e, b, c⟩
      rcases List.mem_append.mp b with b | b
      · exact .inl ⟨a, e, b, c⟩
      · rw [List.mem_singleton.mp b] at c; exact .inr c.symm
theorem Ky.orE {R F : List Int} {done : List T3} {x : Int} (K : Ky R done F) (h : x ∈ R) (g : List Int → Int) (f : Int → Int) {d : D} (hd : d = .int (g [])) : (if x ∈ F then D.int (g (vl f done x)) else d) = .int (g (vl f done x)) := by
  by_cases c : x ∈ F
  · rw [if_pos c]
  · rw [if_neg c, vl_nil fun e he z => c ((K.mem x).mpr ⟨h, e, he, z⟩), hd]
theorem Ky.cong {R F : List Int} {done : List T3} {x : T3} (K : Ky R done F) (h : x.1 ∉ R) (g : List Int → Int) (f : Int → Int) : imD false F (fun s => .int (g (vl f done s))) = imD false F fun s => .int (g (vl f (done ++ [x]) s)) :=
  imD_congr fun y hy => by rw [vl_snoc, if_neg (fun z : x.1 = y => h (z ▸ ((K.mem y).mp hy).1)), List.append_nil]
set_option Elab.async false
set_option linter.all false
set_option maxRecDepth 100000
open M PySem L2
theorem Lst.of {steps steps' : List T3} {starts F : List Int} (h : Lst steps starts F) (h1 : ∀ e ∈ steps, ∃ e' ∈ steps', e'.1 = e.1 ∧ e'.2.2 = e.2.2) (h2 : ∀ e ∈ steps', ∃ e' ∈ steps, e'.1 = e.1 ∧ e'.2.2 = e.2.2) : Lst steps' starts F :=
  ⟨h.st, fun e he hF => by
    obtain ⟨x, hx, a, b⟩ := h2 e he
    rw [← b]; exact h.cl x hx (a ▸ hF), fun P p1 p2 => h.mn P p1 fun e he hP => by
    obtain ⟨x, hx, a, b⟩ := h1 e he
    rw [← b]; exact p2 x hx (a ▸ hP)⟩
theorem Lst.srt {steps : List T3} {starts a : List Int} (h : Lst steps starts a) : Lst steps starts (srtN a) :=
  ⟨fun s hs => (srtN_mem a).mpr (h.st s hs), fun e he hF => (srtN_mem a).mpr (h.cl e he ((srtN_mem a).mp hF)), fun P p1 p2 x hx => h.mn P p1 p2 x ((srtN_mem a).mp hx)⟩
theorem ms_t {L : List T3} {e : T3} : e ∈ L.mergeSort tle ↔ e ∈ L := (List.mergeSort_perm L tle).mem_iff
theorem Lst.sort {L : List T3} {bg F : List Int} (h : Lst (L.mergeSort tle) bg F) : Lst L bg F := h.of (fun e he => ⟨e, ms_t.mp he, rfl, rfl⟩) fun e he => ⟨e, ms_t.mpr he, rfl, rfl⟩
theorem Lst.trn {L : List T3} {bg F : List Int} (h : Lst (L.map trn) bg F) : Lst L bg F := h.of (fun e he => by
  obtain ⟨x, hx, rfl⟩ := List.mem_map.mp he
  exact ⟨x, hx, rfl, rfl⟩) fun e he => ⟨Pf.trn e, List.mem_map_of_mem he, rfl, rfl⟩
theorem DrS.tb {size : Int} {L : List T3} {bg R : List Int} (V : DrS size L bg) (nd : R.Nodup) (bd : ∀ x ∈ R, 0 ≤ x ∧ x < size) (h : Lst L bg R) : Tb0 L R where
  nd := nd
  ln := by have := nd_bound nd bd; have := V.s2; omega
  ne := by
    obtain ⟨x, hx⟩ := List.exists_mem_of_ne_nil _ V.b0
    exact List.ne_nil_of_mem (h.st x hx)
  tl := by have := V.ln; omega
  ev := fun s hs => V.st.ev s (bd s hs).1 (bd s hs).2
  cl := h.cl
  tb := fun e he => (V.st.bd e he).2.1
theorem lo_congr {T T' : Int → List P2i} (h : ∀ s p, p ∈ T s ↔ p ∈ T' s) : ∀ (n : Nat) (s : Int), lo T n s = lo T' n s
  | 0, _ => rfl
  | n + 1, s => minL_mem fun x => by
    simp only [List.mem_map]
    constructor
    · rintro ⟨p, hp, rfl⟩; exact ⟨p, (h s p).mp hp, by rw [lo_congr h n]⟩
    · rintro ⟨p, hp, rfl⟩; exact ⟨p, (h s p).mpr hp, by rw [lo_congr h n]⟩
theorem outs_ms {L : List T3} (s : Int) (p : P2i) : p ∈ outs (L.mergeSort tle) s ↔ p ∈ outs L s := by rw [outs_mem, outs_mem, ms_t]
theorem p_stays {size : Int} {L : List T3} {bg : List Int} (V : DrS size L bg) : d__law_stays [supO size (L.mergeSort tle) bg, .tup [.int size, .lst (L.map tD), .tup (bg.map .int)]] = .ok (.bl true) := by
  refine Ok.eq ?_
  unfold d__law_stays m__law_stays
  rw [ok_nox, k_run]
  simp? only [su_0, su_1, su_2]
  refine ⟨_, rfl, ?_⟩
  simp? only []
  refine ⟨_, rfl, ?_⟩
  simp? only [k_srtT, k_neS (dok_tts (L.mergeSort tle))]
  refine ⟨_, rfl, ?_⟩
  simp? only [k_srtIT, ms_id V.bS, k_deqS (dok_tints bg)]
set_option Elab.async false
set_option linter.all false
set_option maxRecDepth 100000
open M PySem L2
inductive BdR (L : List T3) (g : List Int) (p : Nat) : Nat → Int → Prop where
  | st {s : Int} : s ∈ g → BdR L g p 0 s
  | up {i : Nat} {s b t : Int} : BdR L g p i s → (s, b, t) ∈ L → BdR L g p (if i + 1 = p then 0 else i + 1) t
theorem lo_le {L : List T3} {R : List Int} (V : Tb0 L R) {s b t : Int} (hs : s ∈ R) (h : (s, b, t) ∈ L) (n : Nat) : lo (outs L) (n + 1) s ≤ b + lo (outs L) n t := by
  have ne : ((outs L s).map fun p => p.1 + lo (outs L) n p.2) ≠ [] := by simpa using V.tab.te s hs
  exact (minL_sp ne).2 _ (List.mem_map.mpr ⟨(b, t), outs_mem.mpr h, rfl⟩)
theorem lo_at {L : List T3} {R : List Int} (V : Tb0 L R) {s : Int} (hs : s ∈ R) (n : Nat) : ∃ b t, (s, b, t) ∈ L ∧ lo (outs L) (n + 1) s = b + lo (outs L) n t := by
  have ne : ((outs L s).map fun p => p.1 + lo (outs L) n p.2) ≠ [] := by simpa using V.tab.te s hs
  obtain ⟨q, hq, e⟩ := List.mem_map.mp (minL_sp ne).1
  exact ⟨q.1, q.2, outs_mem.mp hq, e.symm⟩
section
variable {L Ls : List T3} {g R : List Int} {k p : Nat} {nm : Nat → Nat → Int}
def ldd (nm : Nat → Nat → Int) (q p i c b : Nat) : List Int := if i + 1 = p then (if q ≤ c + b then [nm 0 0] else []) else if q - min (c + b) q ≤ p - (i + 1) then [nm (i + 1) (min (c + b) q)] else []
structure ShT (Ls : List T3) (k p : Nat) (nm : Nat → Nat → Int) : Prop where
  p0 : 1 ≤ p
  kp : k ≤ p
  tab : ∀ i c, i < p → c ≤ min i k → k - c ≤ p - i → ∀ b, b = 0 ∨ b = 1 → aft Ls [nm i c] (b : Nat) = ldd nm k p i c b
theorem bd_lt (p0 : 1 ≤ p) {i : Nat} {s : Int} (h : BdR L g p i s) : i < p := by
  induction h with
  | st _ => exact p0
  | up _ _ ih => split <;> omega
theorem bd_R (V : Tb0 L R) (hg : ∀ s ∈ g, s ∈ R) {i : Nat} {s : Int} (h : BdR L g p i s) : s ∈ R := by
  induction h with
  | st h => exact hg _ h
  | up _ hL ih => exact V.cl _ hL ih
theorem fws {w : Wd} {b : Int} : fw (sysP L g Ls [nm 0 0]) (w ++ [b]) = aft Ls (fw (sysP L g Ls [nm 0 0]) w) b := fw_snoc _ w b
theorem sh_trk (V : Tb0 L R) (T : ShT Ls k p nm) {i : Nat} {s : Int} (h : BdR L g p i s) : (∃ w, Pw (sysP L g Ls [nm 0 0]) w) ∨ ∃ u c, Rch (sysP L g Ls [nm 0 0]) u s ∧ Bw u ∧ fw (sysP L g Ls [nm 0 0]) u = [nm i c] ∧ c ≤ min i k ∧ k - c ≤ p - i := by
  have kp := T.kp
  have p0 := T.p0
  induction h with
  | st h => exact .inr ⟨[], 0, .nil h, fun b hb => by simp at hb, rfl, by omega, by omega⟩
  | @up i s b t hB hL ih =>
    rcases ih with ih | ⟨u, c, r, bw, e, hc, hk⟩
    · exact .inl ih
    have hi := bd_lt p0 hB
    have hb : b = 0 ∨ b = 1 := V.tb _ hL
    have r2 : Rch (sysP L g Ls [nm 0 0]) (u ++ [b]) t := .snoc r hL
    have e2 : fw (sysP L g Ls [nm 0 0]) (u ++ [b]) = ldd nm k p i c b.toNat := by
      rw [fws, e, ← T.tab i c hi hc hk b.toNat (by omega), Int.toNat_of_nonneg (by omega)]
    unfold ldd at e2
    by_cases h1 : i + 1 = p
    · rw [if_pos h1] at e2 ⊢
      by_cases h2 : k ≤ c + b.toNat
      · rw [if_pos h2] at e2
        exact .inr ⟨_, 0, r2, bw.snoc hb, e2, by omega, by omega⟩
      · rw [if_neg h2] at e2
        exact .inl ⟨_, bw.snoc hb, ⟨_, r2⟩, e2⟩
    · rw [if_neg h1] at e2 ⊢
      by_cases h2 : k - min (c + b.toNat) k ≤ p - (i + 1)
      · rw [if_pos h2] at e2
        exact .inr ⟨_, _, r2, bw.snoc hb, e2, by omega, h2⟩
      · rw [if_neg h2] at e2
        exact .inl ⟨_, bw.snoc hb, ⟨_, r2⟩, e2⟩
theorem sh_kill (V : Tb0 L R) (T : ShT Ls k p nm) : ∀ (j i : Nat) (s : Int) (u : Wd) (c : Nat), i + j = p → 1 ≤ j → Rch (sysP L g Ls [nm 0 0]) u s → Bw u → fw (sysP L g Ls [nm 0 0]) u = [nm i c] → c ≤ min i k → k - c ≤ p - i → s ∈ R → (c : Int) + lo (outs L) j s < k → ∃ w, Pw (sysP L g Ls [nm 0 0]) w
  | 0, _, _, _, _, _, h, _, _, _, _, _, _, _ => absurd h (by omega)
  | j + 1, i, s, u, c, hij, _, r, bw, e, hc, hk, hs, hl => by
    obtain ⟨b, t, hL, el⟩ := lo_at V hs j
    have hb : b = 0 ∨ b = 1 := V.tb _ hL
    have r2 : Rch (sysP L g Ls [nm 0 0]) (u ++ [b]) t := .snoc r hL
    have ht : t ∈ R := V.cl _ hL hs
    have lt := lo_bd V.tab j ht
    have e2 : fw (sysP L g Ls [nm 0 0]) (u ++ [b]) = ldd nm k p i c b.toNat := by
      rw [fws, e, ← T.tab i c (by omega) hc hk b.toNat (by omega), Int.toNat_of_nonneg (by omega)]
    unfold ldd at e2
    by_cases h1 : i + 1 = p
    · rw [if_pos h1, if_neg (by omega)] at e2
      exact ⟨_, bw.snoc hb, ⟨_, r2⟩, e2⟩
    · rw [if_neg h1] at e2
      by_cases h2 : k - min (c + b.toNat) k ≤ p - (i + 1)
      · rw [if_pos h2] at e2
        rw [show min (c + b.toNat) k = c + b.toNat by omega] at e2 h2
        exact sh_kill V T j (i + 1) t _ (c + b.toNat) (by omega) (by omega) r2 (bw.snoc hb) e2 (by omega) h2 ht (by omega)
      · rw [if_neg h2] at e2
        exact ⟨_, bw.snoc hb, ⟨_, r2⟩, e2⟩
theorem sh_live (V : Tb0 L R) (hg : ∀ s ∈ g, s ∈ R) (T : ShT Ls k p nm) (hk : ∀ s, BdR L g p 0 s → (k : Int) ≤ lo (outs L) p s) {w : Wd} {s : Int} (r : Rch (sysP L g Ls [nm 0 0]) w s) : ∃ i c, i < p ∧ fw (sysP L g Ls [nm 0 0]) w = [nm i c] ∧ c ≤ min i k ∧ k - c ≤ p - i ∧ BdR L g p i s ∧ (k : Int) ≤ c + lo (outs L) (p - i) s := by
  have kp := T.kp
  have p0 := T.p0
  induction r with
  | @nil s h => exact ⟨0, 0, p0, rfl, by omega, by omega, .st h, by have := hk s (.st h); rw [Nat.sub_zero]; omega⟩
  | @snoc w s t b r hL ih =>
    obtain ⟨i, c, hi, e, hc, hkc, hB, hl⟩ := ih
    have hL : (s, b, t) ∈ L := hL
    have hb : b = 0 ∨ b = 1 := V.tb _ hL
    have hs := bd_R V hg hB
    have ht : t ∈ R := V.cl _ hL hs
    have e2 : fw (sysP L g Ls [nm 0 0]) (w ++ [b]) = ldd nm k p i c b.toNat := by
      rw [fws, e, ← T.tab i c hi hc hkc b.toNat (by omega), Int.toNat_of_nonneg (by omega)]
    have l1 := lo_le V hs hL (p - i - 1)
    rw [show p - i - 1 + 1 = p - i by omega] at l1
    have B2 := BdR.up hB hL
    unfold ldd at e2
    by_cases h1 : i + 1 = p
    · rw [if_pos h1] at e2 B2
      have l0 : lo (outs L) (p - i - 1) t = 0 := by rw [show p - i - 1 = 0 by omega]; rfl
      rw [if_pos (by omega)] at e2
      exact ⟨0, 0, p0, e2, by omega, by omega, B2, by have := hk t B2; rw [Nat.sub_zero]; omega⟩
    · rw [if_neg h1] at e2 B2
      have l2 := lo_bd V.tab (p - i - 1) ht
      rw [if_pos (by omega)] at e2
      refine ⟨_, _, by omega, e2, by omega, by omega, B2, ?_⟩
      rw [show p - (i + 1) = p - i - 1 by omega]
      omega
theorem sh_iff (V : Tb0 L R) (hg : ∀ s ∈ g, s ∈ R) (T : ShT Ls k p nm) : (∃ w, Pw (sysP L g Ls [nm 0 0]) w) ↔ ∃ s, BdR L g p 0 s ∧ lo (outs L) p s < k := by
  have p0 := T.p0
  constructor
  · rintro ⟨w, _, ⟨s, r⟩, he⟩
    by_cases h : ∀ s, BdR L g p 0 s → (k : Int) ≤ lo (outs L) p s
    · obtain ⟨i, c, _, e, _⟩ := sh_live V hg T h r
      rw [he] at e
      cases e
    · refine Classical.byContradiction fun z => h fun s hs => ?_
      refine Int.not_lt.mp fun q => z ⟨s, hs, q⟩
  · rintro ⟨s, hB, hl⟩
    rcases sh_trk V T hB with h | ⟨u, c, r, bw, e, hc, hk⟩
    · exact h
    · have : c = 0 := by omega
      subst this
      exact sh_kill V T p 0 s u 0 (by omega) p0 r bw e hc hk (bd_R V hg hB) (by omega)
end
theorem ShF.sht {q p : Nat} {n : Int} {L : List T3} (H : ShF q p n L) (p0 : 1 ≤ p) (hq : q ≤ p) : ShT (L.mergeSort tle) q p (num q p) := ⟨p0, hq, fun i c hi hc hk b hb => by
  rw [H.tab i c hi hc hk b hb]
  unfold led ldd
  rw [H.n00]⟩
set_option Elab.async false
set_option linter.all false
set_option maxRecDepth 100000
open M PySem L2
theorem seq_bk {QS : Fl × M.Env → Prop} {S : M.Env} {s r : FS} (P B : M.Env → Prop) (h : Ok (s S) fun z => (z.1 = .nx ∧ P z.2) ∨ (z.1 = .bk ∧ B z.2)) (k : ∀ S', P S' → Ok (r S') QS) (kb : ∀ S', B S' → QS (.bk, S')) : Ok (sSeq s r S) QS := by
  rw [k_seq]
  refine h.mono fun z hz => ?_
  obtain ⟨fl, S'⟩ := z
  rcases hz with ⟨rfl, hp⟩ | ⟨rfl, hp⟩
  · exact k S' hp
  · exact kb S' hp
theorem k_bk {S : M.Env} {QS : Fl × M.Env → Prop} : Ok (sBrk S) QS ↔ QS (.bk, S) := ok_ok
def inK (L : List T3) : Nat → Int → Int → Prop
  | 0, s, t => s = t
  | i + 1, s, t => ∃ u b, inK L i s u ∧ (u, b, t) ∈ L
theorem bd_sound {L : List T3} {g : List Int} {p : Nat} (p0 : 1 ≤ p) {s : Int} (h : BdR L g p 0 s) : ∀ (i : Nat) (t : Int), i ≤ p → inK L i s t → BdR L g p (if i = p then 0 else i) t
  | 0, t, hi, e => by
    have e : s = t := e
    subst e
    rw [if_neg (by omega)]
    exact h
  | i + 1, t, hi, ⟨u, b, h1, h2⟩ => by
    have ih := bd_sound p0 h i u (by omega) h1
    rw [if_neg (by omega)] at ih
    exact .up ih h2
theorem bd_all {L : List T3} {g F : List Int} {p : Nat} (p0 : 1 ≤ p) (hg : ∀ s ∈ g, s ∈ F) (hc : ∀ s ∈ F, ∀ t, inK L p s t → t ∈ F) {i : Nat} {x : Int} (h : BdR L g p i x) : i < p ∧ ∃ s ∈ F, inK L i s x := by
  induction h with
  | st h => exact ⟨p0, _, hg _ h, rfl⟩
  | @up i s b t _ hL ih =>
    obtain ⟨hi, s0, h0, hk⟩ := ih
    have nx : inK L (i + 1) s0 t := ⟨s, b, hk, hL⟩
    by_cases e : i + 1 = p
    · rw [if_pos e]
      rw [e] at nx
      exact ⟨p0, t, hc s0 h0 t nx, rfl⟩
    · rw [if_neg e]
      exact ⟨by omega, s0, h0, nx⟩
theorem p_bounds {n : Int} {L : List T3} {bg : List Int} {K : List P2i} (V : DrS n L bg) (H : Mv L K) (p : Nat) (p0 : 1 ≤ p) (p1 : p ≤ 8) :
    ∃ F : List Int, (∀ x, x ∈ F ↔ BdR L bg p 0 x) ∧ F.length ≤ 101 ∧ d__law_boundaries [movD L K, rowL n L bg, .int p] = .ok (.lst (F.map .int)) := by
  have hs := size_ge
  have s1 := V.s1
  have s2 := V.s2
  have hl : L.length ≤ 300 := by have := V.ln; omega
  suffices h : Ok (d__law_boundaries [movD L K, rowL n L bg, .int p]) fun d => ∃ F : List Int, (∀ x, x ∈ F ↔ BdR L bg p 0 x) ∧ F.length ≤ 101 ∧ d = .lst (F.map .int) by
    obtain ⟨d, e, F, h1, h2, rfl⟩ := h
    exact ⟨F, h1, h2, e⟩
  have af := fun (X : List Int) (b : Int) => p_laftE hl H X b
  generalize movD L K = mv at af
  unfold d__law_boundaries m__law_boundaries rowL
  rw [ok_nox, k_run]
  refine seq_cut (fun S => S = [(some (Sl.mk false (mv))), (some (Sl.mk false (.tup [.int n, .lst (L.map tD), .tup (bg.map .int)]))), (some (Sl.mk false (.int p))), (some (Sl.mk false (.lst (bg.map .int)))), none, none, none, none, none, none]) (by simp? only []; exact ⟨_, rfl, by simp? only []⟩) ?_
  rintro S rfl
  refine seq_cut (fun S => S = [(some (Sl.mk false (mv))), (some (Sl.mk false (.tup [.int n, .lst (L.map tD), .tup (bg.map .int)]))), (some (Sl.mk false (.int p))), (some (Sl.mk false (.lst (bg.map .int)))), (some (Sl.mk false (.lst (bg.map .int)))), none, none, none, none, none]) (by simp? only []; exact ⟨_, rfl, by simp? only []⟩) ?_
  rintro S rfl
  refine seq_cut (fun S => ∃ (F : List Int) (a b c d e f : Option Sl), (∀ x, x ∈ F ↔ BdR L bg p 0 x) ∧ F.length ≤ 101 ∧ S = [(some (Sl.mk false (mv))), (some (Sl.mk false (.tup [.int n, .lst (L.map tD), .tup (bg.map .int)]))), (some (Sl.mk false (.int p))), (some (Sl.mk false (.lst (F.map .int)))), a, b, c, d, e, f]) ?_ ?_
  · simp? only []
    refine ⟨_, rfl, ?_⟩
    simp? only []
    refine ⟨by omega, ?_⟩
    refine for_inv (fun i S => ∃ (F Fr : List Int) (b c d e f : Option Sl), F.Nodup ∧ (∀ x ∈ F, 0 ≤ x ∧ x < n) ∧ (∀ x ∈ bg, x ∈ F) ∧ (∀ x ∈ F, BdR L bg p 0 x) ∧ (∀ x ∈ Fr, x ∈ F) ∧ (∀ s ∈ F, s ∉ Fr → ∀ t, inK L p s t → t ∈ F) ∧ Fr.Nodup ∧ 1 + i ≤ F.length ∧
      S = [(some (Sl.mk false (mv))), (some (Sl.mk false (.tup [.int n, .lst (L.map tD), .tup (bg.map .int)]))), (some (Sl.mk false (.int p))), (some (Sl.mk false (.lst (F.map .int)))), (some (Sl.mk false (.lst (Fr.map .int)))), b, c, d, e, f]) _ 0 _ ⟨bg, bg, none, none, none, none, none, strict_nd V.bS, V.bB, fun _ h => h, fun x h => .st h, fun _ h => h, fun s h z => absurd h z, strict_nd V.bS, by have := List.length_pos_iff.mpr V.b0; omega, rfl⟩ ?_ ?_
    · rintro i d S hd ⟨F, Fr, b, c, d', e, f, n1, n2, n3, n4, n5, n6, n7, n8, rfl⟩
      obtain ⟨hi, rfl⟩ := rngL_get hd
      rw [Nat.zero_add] at n8
      have lF := nd_bound n1 n2
      have lFr := nd_bound n7 fun x hx => n2 x (n5 x hx)
      rw [k_gN]
      simp only [List.set_cons_succ, List.set_cons_zero]
      refine seq_cut (fun S => S = [(some (Sl.mk false (mv))), (some (Sl.mk false (.tup [.int n, .lst (L.map tD), .tup (bg.map .int)]))), (some (Sl.mk false (.int p))), (some (Sl.mk false (.lst (F.map .int)))), (some (Sl.mk false (.lst (Fr.map .int)))), (some (Sl.mk false (.int (0 + (i : Int))))), (some (Sl.mk false (.tup (Fr.map .int)))), d', e, f]) (by simp? only []) ?_
      rintro S rfl
      refine seq_cut (fun S => ∃ (X : List Int) (g h j : Option Sl), X.Nodup ∧ (∀ x ∈ X, 0 ≤ x ∧ x < n) ∧ (∀ t, t ∈ X ↔ ∃ s ∈ Fr, inK L p s t) ∧ S = [(some (Sl.mk false (mv))), (some (Sl.mk false (.tup [.int n, .lst (L.map tD), .tup (bg.map .int)]))), (some (Sl.mk false (.int p))), (some (Sl.mk false (.lst (F.map .int)))), (some (Sl.mk false (.lst (Fr.map .int)))), (some (Sl.mk false (.int (0 + (i : Int))))), (some (Sl.mk false (.tup (X.map .int)))), g, h, j]) ?_ ?_
      · simp? only []
        refine ⟨by omega, ?_⟩
        refine for_inv (fun k S => ∃ (X : List Int) (g h j : Option Sl), X.Nodup ∧ (∀ x ∈ X, 0 ≤ x ∧ x < n) ∧ (∀ t, t ∈ X ↔ ∃ s ∈ Fr, inK L k s t) ∧ S = [(some (Sl.mk false (mv))), (some (Sl.mk false (.tup [.int n, .lst (L.map tD), .tup (bg.map .int)]))), (some (Sl.mk false (.int p))), (some (Sl.mk false (.lst (F.map .int)))), (some (Sl.mk false (.lst (Fr.map .int)))), (some (Sl.mk false (.int (0 + (i : Int))))), (some (Sl.mk false (.tup (X.map .int)))), g, h, j]) _ 0 _ ⟨Fr, d', e, f, n7, fun x hx => n2 x (n5 x hx), fun t => ⟨fun h => ⟨t, h, rfl⟩, fun ⟨s, h1, h2⟩ => by have h2 : s = t := h2; rw [← h2]; exact h1⟩, rfl⟩ ?_ ?_
        · rintro k d2 S hd2 ⟨X, g, h, j, x1, x2, x3, rfl⟩
          obtain ⟨hk, rfl⟩ := rngL_get hd2
          rw [Nat.zero_add] at x3
          have A1 := af X 1
          have A0 := af X 0
          rw [laft_eq] at A1 A0
          have y1 := aft_strict L X 1
          have y0 := aft_strict L X 0
          have m1 := fun t => aft_mem (steps := L) (S := X) (b := 1) (x := t)
          have m0 := fun t => aft_mem (steps := L) (S := X) (b := 0) (x := t)
          generalize aft L X 1 = Y1 at A1 y1 m1
          generalize aft L X 0 = Y0 at A0 y0 m0
          have r1 : ∀ x ∈ Y1, 0 ≤ x ∧ x < n := fun x hx => by
            obtain ⟨s, _, h⟩ := (m1 x).mp hx
            exact (V.st.bd _ h).2.2
          have r0 : ∀ x ∈ Y0, 0 ≤ x ∧ x < n := fun x hx => by
            obtain ⟨s, _, h⟩ := (m0 x).mp hx
            exact (V.st.bd _ h).2.2
          have q1 := nd_bound (strict_nd y1) r1
          have q0 := nd_bound (strict_nd y0) r0
          rw [k_gN]
          simp only [List.set_cons_succ, List.set_cons_zero]
          refine seq_cut (fun S => S = [(some (Sl.mk false (mv))), (some (Sl.mk false (.tup [.int n, .lst (L.map tD), .tup (bg.map .int)]))), (some (Sl.mk false (.int p))), (some (Sl.mk false (.lst (F.map .int)))), (some (Sl.mk false (.lst (Fr.map .int)))), (some (Sl.mk false (.int (0 + (i : Int))))), (some (Sl.mk false (.tup (X.map .int)))), (some (Sl.mk false (.int (0 + (k : Int))))), (some (Sl.mk false (.lst (Y1.map .int)))), j]) (by simp? only [A1]) ?_
          rintro S rfl
          simp? only []
          refine k_lcT D.int (fun t => !decide (t ∈ Y1)) D.int Y0 ?_ (by omega) ?_ ?_
          · simp? only [A0]
          · intro t ht
            simp? only [wipeS, k_ninI]
          · have lf := List.length_filter_le (fun t => !decide (t ∈ Y1)) Y0
            simp? only []
            refine ⟨by omega, Y1 ++ Y0.filter (fun t => !decide (t ∈ Y1)), _, _, _, ?_, ?_, ?_, by rw [List.map_append]⟩
            · refine List.nodup_append.mpr ⟨strict_nd y1, (strict_nd y0).sublist List.filter_sublist, fun a ha b hb => ?_⟩
              have := (List.mem_filter.mp hb).2
              exact fun z => by rw [z] at ha; simp [ha] at this
            · intro x hx
              rcases List.mem_append.mp hx with hx | hx
              · exact r1 x hx
              · exact r0 x (List.mem_filter.mp hx).1
            · intro t
              have e : t ∈ Y1 ++ Y0.filter (fun t => !decide (t ∈ Y1)) ↔ t ∈ Y1 ∨ t ∈ Y0 := by
                rw [List.mem_append, List.mem_filter]
                by_cases h : t ∈ Y1 <;> simp [h]
              rw [e, m1, m0]
              constructor
              · rintro (⟨u, hu, h⟩ | ⟨u, hu, h⟩)
                · obtain ⟨s, a, b⟩ := (x3 u).mp hu
                  exact ⟨s, a, u, 1, b, h⟩
                · obtain ⟨s, a, b⟩ := (x3 u).mp hu
                  exact ⟨s, a, u, 0, b, h⟩
              · rintro ⟨s, a, u, b, h1, h2⟩
                have hu := (x3 u).mpr ⟨s, a, h1⟩
                rcases (V.st.bd _ h2).2.1 with e | e
                · have e : b = 0 := e
                  subst e
                  exact .inr ⟨u, hu, h2⟩
                · have e : b = 1 := e
                  subst e
                  exact .inl ⟨u, hu, h2⟩
        · rintro S ⟨X, g, h, j, x1, x2, x3, rfl⟩
          rw [rngL_len, Nat.zero_add, Int.toNat_natCast] at x3
          exact ⟨rfl, X, _, _, _, x1, x2, x3, rfl⟩
      rintro S ⟨X, g, h, j, x1, x2, x3, rfl⟩
      have lX := nd_bound x1 x2
      refine seq_cut (fun S => S = [(some (Sl.mk false (mv))), (some (Sl.mk false (.tup [.int n, .lst (L.map tD), .tup (bg.map .int)]))), (some (Sl.mk false (.int p))), (some (Sl.mk false (.lst (F.map .int)))), (some (Sl.mk false (.lst ((X.filter fun t => !decide (t ∈ F)).map .int)))), (some (Sl.mk false (.int (0 + (i : Int))))), (some (Sl.mk false (.tup (X.map .int)))), g, h, j]) ?_ ?_
      · simp? only []
        refine k_lcT D.int (fun t => !decide (t ∈ F)) D.int X ?_ (by omega) ?_ ?_
        · simp? only []
        · intro t ht
          simp? only [wipeS, k_ninI]
        · rfl
      rintro S rfl
      have hF2 : ∀ t, t ∈ X.filter (fun t => !decide (t ∈ F)) ↔ t ∈ X ∧ t ∉ F := fun t => by rw [List.mem_filter]; simp
      have nF2 : (X.filter fun t => !decide (t ∈ F)).Nodup := x1.sublist List.filter_sublist
      generalize X.filter (fun t => !decide (t ∈ F)) = F2 at hF2 nF2
      refine seq_bk (fun S => F2 ≠ [] ∧ S = [(some (Sl.mk false (mv))), (some (Sl.mk false (.tup [.int n, .lst (L.map tD), .tup (bg.map .int)]))), (some (Sl.mk false (.int p))), (some (Sl.mk false (.lst (F.map .int)))), (some (Sl.mk false (.lst (F2.map .int)))), (some (Sl.mk false (.int (0 + (i : Int))))), (some (Sl.mk false (.tup (X.map .int)))), g, h, j]) (fun S => F2 = [] ∧ S = [(some (Sl.mk false (mv))), (some (Sl.mk false (.tup [.int n, .lst (L.map tD), .tup (bg.map .int)]))), (some (Sl.mk false (.int p))), (some (Sl.mk false (.lst (F.map .int)))), (some (Sl.mk false (.lst (F2.map .int)))), (some (Sl.mk false (.int (0 + (i : Int))))), (some (Sl.mk false (.tup (X.map .int)))), g, h, j]) ?_ ?_ ?_
      · simp? only [k_bk]
        refine ⟨fun h => .inr ?_, fun h => .inl ?_⟩
        · have h := of_decide_eq_true h
          exact List.length_eq_zero_iff.mp (by omega)
        · have h := of_decide_eq_false h
          exact fun z => h (by rw [z]; rfl)
      rotate_left
      · rintro S ⟨rfl, rfl⟩
        have cl : ∀ s ∈ F, ∀ t, inK L p s t → t ∈ F := fun s hs' t ht => by
          by_cases hf : s ∈ Fr
          · refine Classical.byContradiction fun z => ?_
            have := (hF2 t).mpr ⟨(x3 t).mpr ⟨s, hf, ht⟩, z⟩
            simp at this
          · exact n6 s hs' hf t ht
        refine ⟨trivial, F, _, _, _, _, _, _, fun x => ⟨n4 x, fun h => ?_⟩, by omega, rfl⟩
        obtain ⟨_, s, a, b⟩ := bd_all p0 n3 cl h
        have b : s = x := b
        rw [← b]; exact a
      rintro S ⟨ne, rfl⟩
      have l2 := nd_bound nF2 fun x hx => x2 x ((hF2 x).mp hx).1
      simp? only []
      refine ⟨by omega, F ++ F2, F2, _, _, _, _, _, List.nodup_append.mpr ⟨n1, nF2, fun a ha b hb => fun z => ((hF2 b).mp hb).2 (z ▸ ha)⟩, ?_, fun x hx => List.mem_append_left _ (n3 x hx), ?_, fun x hx => List.mem_append_right _ hx, ?_, nF2, ?_, by rw [List.map_append]⟩
      · intro x hx
        rcases List.mem_append.mp hx with hx | hx
        · exact n2 x hx
        · exact x2 x ((hF2 x).mp hx).1
      · intro x hx
        rcases List.mem_append.mp hx with hx | hx
        · exact n4 x hx
        · obtain ⟨s, a, b⟩ := (x3 x).mp ((hF2 x).mp hx).1
          have := bd_sound p0 (n4 s (n5 s a)) p x (Nat.le_refl _) b
          rwa [if_pos rfl] at this
      · intro s hs' hn t ht
        have hsF : s ∈ F := (List.mem_append.mp hs').resolve_right hn
        by_cases hf : s ∈ Fr
        · by_cases ht2 : t ∈ F
          · exact List.mem_append_left _ ht2
          · exact List.mem_append_right _ ((hF2 t).mpr ⟨(x3 t).mpr ⟨s, hf, ht⟩, ht2⟩)
        · exact List.mem_append_left _ (n6 s hsF hf t ht)
      · have := List.length_pos_iff.mpr ne
        rw [List.length_append]
        omega
    · rintro S ⟨F, Fr, b, c, d, e, f, n1, n2, n3, n4, n5, n6, n7, n8, rfl⟩
      have lF := nd_bound n1 n2
      rw [rngL_len] at n8
      omega
  rintro S ⟨F, a, b, c, d, e, f, h1, h2, rfl⟩
  simp? only []
  exact ⟨F, h1, h2, rfl⟩
set_option Elab.async false
set_option linter.all false
set_option maxRecDepth 100000
open M PySem L2
theorem p_low {L : List T3} {R : List Int} (V : Tb0 L R) (p : Nat) (p1 : p ≤ 8) : ∃ F : List Int, (∀ x, x ∈ F ↔ x ∈ R) ∧ d__law_low [.lst (L.map tD), .lst (R.map .int), .int p] = .ok (imD false F fun s => .int (lo (outs L) p s)) := by
  have hs := size_ge
  have hl := V.ln
  have tl := V.tl
  have W := V.tab
  suffices h : Ok (d__law_low [.lst (L.map tD), .lst (R.map .int), .int p]) fun d => ∃ F : List Int, (∀ x, x ∈ F ↔ x ∈ R) ∧ d = imD false F fun s => .int (lo (outs L) p s) by
    obtain ⟨d, e, F, a, rfl⟩ := h
    exact ⟨F, a, e⟩
  unfold d__law_low m__law_low
  rw [ok_nox, k_run]
  refine seq_cut (fun S => S = [(some (Sl.mk false (.lst (L.map tD)))), (some (Sl.mk false (.lst (R.map .int)))), (some (Sl.mk false (.int p))), (some (Sl.mk true (imD false [] fun _ => .int 0))), none, none, none, none, none]) (by simp? only []; rfl) ?_
  rintro S rfl
  refine seq_cut (fun S => ∃ a, S = [(some (Sl.mk false (.lst (L.map tD)))), (some (Sl.mk false (.lst (R.map .int)))), (some (Sl.mk false (.int p))), (some (Sl.mk true (imD false R fun _ => .int 0))), a, none, none, none, none]) ?_ ?_
  · simp? only []
    refine for_typed D.int (fun done S => ∃ a, S = [(some (Sl.mk false (.lst (L.map tD)))), (some (Sl.mk false (.lst (R.map .int)))), (some (Sl.mk false (.int p))), (some (Sl.mk true (imD false done fun _ => .int 0))), a, none, none, none, none]) R _ ⟨none, rfl⟩ ?_ ?_
    · rintro done x rest S eq ⟨a, rfl⟩
      have nd := V.nd
      rw [eq] at nd
      have nd1 := (List.nodup_append.mp nd).1
      have nx : x ∉ done := fun z => (List.nodup_append.mp nd).2.2 x z x (by simp) rfl
      have ld : done.length < 201 := by have := congrArg List.length eq; simp at this; omega
      have ez : (fun y : Int => if y = x then D.int 0 else D.int 0) = fun _ => .int 0 := by funext y; simp
      simp? only [put_im nd1 (show done.length < sizeLine by omega), if_neg nx, ez]
      exact ⟨_, rfl⟩
    · rintro S ⟨a, rfl⟩
      simp? only []
      exact ⟨_, rfl⟩
  rintro S ⟨a, rfl⟩
  refine seq_cut (fun S => ∃ (o : Bool) (F : List Int) (b c d e f : Option Sl), (∀ x, x ∈ F ↔ x ∈ R) ∧ S = [(some (Sl.mk false (.lst (L.map tD)))), (some (Sl.mk false (.lst (R.map .int)))), (some (Sl.mk false (.int p))), some ⟨o, imD false F fun s => .int (lo (outs L) p s)⟩, b, c, d, e, f]) ?_ ?_
  · simp? only []
    refine ⟨by omega, ?_⟩
    refine for_inv (fun i S => ∃ (o1 : Bool) (F : List Int) (b c d e f : Option Sl), (∀ x, x ∈ F ↔ x ∈ R) ∧ S = [(some (Sl.mk false (.lst (L.map tD)))), (some (Sl.mk false (.lst (R.map .int)))), (some (Sl.mk false (.int p))), some ⟨o1, imD false F fun s => .int (lo (outs L) i s)⟩, b, c, d, e, f]) _ 0 _ ⟨true, R, a, none, none, none, none, fun _ => Iff.rfl, rfl⟩ ?_ ?_
    · rintro i d S hd ⟨o1, F, b, c, d', e, f, m1, rfl⟩
      obtain ⟨hi, rfl⟩ := rngL_get hd
      rw [Nat.zero_add]
      rw [k_gN]
      simp only [List.set_cons_succ, List.set_cons_zero]
      refine seq_cut (fun S => S = [(some (Sl.mk false (.lst (L.map tD)))), (some (Sl.mk false (.lst (R.map .int)))), (some (Sl.mk false (.int p))), some ⟨o1, imD false F fun s => .int (lo (outs L) i s)⟩, b, (some (Sl.mk false (.int (0 + (i : Int))))), (some (Sl.mk true (imD false [] fun _ => .int 0))), e, f]) (by simp? only []; rfl) ?_
      rintro S rfl
      refine seq_cut (fun S => ∃ (F8 : List Int) (b e f : Option Sl), (∀ y, y ∈ F8 ↔ y ∈ R) ∧ S = [(some (Sl.mk false (.lst (L.map tD)))), (some (Sl.mk false (.lst (R.map .int)))), (some (Sl.mk false (.int p))), some ⟨o1, imD false F fun s => .int (lo (outs L) i s)⟩, b, (some (Sl.mk false (.int (0 + (i : Int))))), (some (Sl.mk true (imD false F8 fun s => .int (lo (outs L) (i + 1) s)))), e, f]) ?_ ?_
      · simp? only []
        refine for_typed tD (fun done S => ∃ (F8 : List Int) (a c d : Option Sl), Ky R done F8 ∧ S = [(some (Sl.mk false (.lst (L.map tD)))), (some (Sl.mk false (.lst (R.map .int)))), (some (Sl.mk false (.int p))), some ⟨o1, imD false F fun s => .int (lo (outs L) i s)⟩, a, (some (Sl.mk false (.int (0 + (i : Int))))),
          (some (Sl.mk true (imD false F8 fun s => .int (fmin ((i : Int) + 1) (vl (lo (outs L) i) done s))))), c, d]) L _ ⟨[], b, e, f, Ky.nil R, rfl⟩ ?_ ?_
        · rintro done x rest S eq ⟨F8, a, c, d, K, rfl⟩
          have hx : x ∈ L := by rw [eq]; simp
          have ld : done.length < 300 := by have := congrArg List.length eq; simp at this; omega
          simp? only [k_gT3, in_im]
          refine ⟨fun h => ?_, fun h => ?_⟩
          · have h := (m1 _).mp (of_decide_eq_true h)
            have hc := V.cl x hx h
            have z8 := K.orE h (fmin ((i : Int) + 1)) (lo (outs L) i) (d := .int (0 + (i : Int) + 1)) (by show _ = D.int ((i : Int) + 1); rw [Int.zero_add])
            have l8 : F8.length < sizeLine := by have := K.ln; omega
            simp? only [isd_im, getOr_im, z8, ix_im ((m1 _).mpr hc), k_min2, put_im K.nd l8]
            have q8 := fmin_fun ((i : Int) + 1) (lo (outs L) i) done x
            exact ⟨_, _, _, _, K.put h, by rw [q8]⟩
          · have h : x.1 ∉ R := fun z => of_decide_eq_false h ((m1 _).mpr z)
            exact ⟨F8, _, _, _, K.same h, by rw [K.cong h (fmin ((i : Int) + 1))]⟩
        · rintro S ⟨F8, a, c, d, K, rfl⟩
          have e8 : imD false F8 (fun s => D.int (fmin ((i : Int) + 1) (vl (lo (outs L) i) L s))) = imD false F8 fun s => .int (lo (outs L) (i + 1) s) := imD_congr fun y hy => by rw [lo_succ V i ((K.mem y).mp hy).1]
          have mm : ∀ y, y ∈ F8 ↔ y ∈ R := fun y => ⟨fun h => ((K.mem y).mp h).1, fun h => (K.mem y).mpr ⟨h, V.ev y h⟩⟩
          rw [e8]
          exact ⟨rfl, F8, _, _, _, mm, rfl⟩
      rintro S ⟨F8, b, e, f, mm, rfl⟩
      simp? only []
      exact ⟨_, F8, _, _, _, _, _, mm, rfl⟩
    · rintro S ⟨o1, F, b, c, d, e, f, m1, rfl⟩
      rw [rngL_len, Nat.zero_add, Int.toNat_natCast]
      exact ⟨rfl, o1, F, _, _, _, _, _, m1, rfl⟩
  rintro S ⟨o, F, b, c, d, e, f, m1, rfl⟩
  simp? only []
  exact ⟨F, m1, rfl⟩
set_option Elab.async false
set_option linter.all false
set_option maxRecDepth 100000
open M PySem L2
theorem ring_det {n : Int} {L : List T3} (h : ∀ e ∈ L, e.2.2 = (e.1 + 1) % n) : DetL L := fun a ha b hb e1 _ => by rw [h a ha, h b hb, e1]
theorem p_drawnK (ns : List Int) (h63 : ns.length ≤ 63) : ∃ size L bg, DrS size L bg ∧ (size ≤ 7 ∨ DetL L) ∧ d__law_drawn [.scr ns] = .ok (.tup [.int size, .lst (L.map tD), .tup (bg.map .int)]) := by
  have hs := size_ge
  suffices h : Ok (d__law_drawn [.scr ns]) fun d => ∃ size L bg, DrS size L bg ∧ (size ≤ 7 ∨ DetL L) ∧ d = .tup [.int size, .lst (L.map tD), .tup (bg.map .int)] by
    obtain ⟨d, e, size, L, bg, h1, h2, rfl⟩ := h
    exact ⟨size, L, bg, h1, h2, e⟩
  obtain ⟨v0, v00, e0⟩ := p_num ns 0 h63 (by omega) (by omega)
  obtain ⟨v1, v10, e1⟩ := p_num ns 1 h63 (by omega) (by omega)
  obtain ⟨v2, v20, e2⟩ := p_num ns 2 h63 (by omega) (by omega)
  obtain ⟨v3, v30, e3⟩ := p_num ns 3 h63 (by omega) (by omega)
  obtain ⟨v4, v40, e4⟩ := p_num ns 4 h63 (by omega) (by omega)
  obtain ⟨v5, v50, e5⟩ := p_num ns 5 h63 (by omega) (by omega)
  obtain ⟨v6, v60, e6⟩ := p_num ns 6 h63 (by omega) (by omega)
  unfold d__law_drawn m__law_drawn
  rw [ok_nox, k_run]
  refine seq_cut (fun S => S = [(some (Sl.mk false (.scr ns))), (some (Sl.mk false (.int v0))), none, none, none, none, none, none, none, none, none]) (by simp? only [e0]) ?_
  rintro S rfl
  refine seq_cut (fun S => S = [(some (Sl.mk false (.scr ns))), (some (Sl.mk false (.int v0))), (some (Sl.mk false (.int (v0 % 8)))), none, none, none, none, none, none, none, none]) (by simp? only []; omega) ?_
  rintro S rfl
  refine seq_cut (fun S => ∃ w r : Int, 0 ≤ r ∧ S = [(some (Sl.mk false (.scr ns))), (some (Sl.mk false (.int v0))), (some (Sl.mk false (.int w))), (some (Sl.mk false (.int r))), none, none, none, none, none, none, none]) (by simp? only []; exact ⟨div_c (by omega) (by omega), _, _, Int.ediv_nonneg v00 (by omega), rfl⟩) ?_
  rintro S ⟨w, r, r0, rfl⟩
  refine seq_cut (fun S => ∃ size : Int, (1 ≤ size ∧ size ≤ 6) ∧ S = [(some (Sl.mk false (.scr ns))), (some (Sl.mk false (.int v0))), (some (Sl.mk false (.int w))), (some (Sl.mk false (.int r))), (some (Sl.mk false (.int size))), none, none, none, none, none, none]) ?_ ?_
  · simp? only []
    refine ⟨by omega, ?_⟩
    have q : r % 7 = 0 ∨ r % 7 = 1 ∨ r % 7 = 2 ∨ r % 7 = 3 ∨ r % 7 = 4 ∨ r % 7 = 5 ∨ r % 7 = 6 := by omega
    rcases q with q | q | q | q | q | q | q <;> rw [q] <;> exact ⟨_, rfl, _, ⟨by decide, by decide⟩, rfl⟩
  rintro S ⟨size, hsz, rfl⟩
  refine seq_cut (fun S => ∃ (size : Int) (L : List T3) (a b c : Option Sl), (1 ≤ size ∧ size ≤ 100) ∧ StpB size L size ∧ L.length ≤ 200 ∧ (size ≤ 6 ∨ DetL L) ∧ S = [(some (Sl.mk false (.scr ns))), (some (Sl.mk false (.int v0))), (some (Sl.mk false (.int w))), (some (Sl.mk false (.int r))), (some (Sl.mk false (.int size))), a, (some (Sl.mk false (.lst (L.map tD)))), b, c, none, none]) ?_ ?_
  · simp? only [e2, e3, e4, e5, e6]
    have rm := fun (m : Int) (h : 0 < m) => mod_b r h
    refine ⟨fun _ => ?_, fun _ => ⟨fun _ => ?_, fun _ => ⟨fun _ => ?_, fun _ => ?_⟩⟩⟩
    · have m8 := rm 8 (by omega)
      have mq := mod_b (r / 8) (m := 1 + r % 8 + 1) (by omega)
      obtain ⟨n, L, RW, DT, e⟩ := p_lshareDD (q := r / 8 % (1 + r % 8 + 1)) (p := 1 + r % 8) (by omega) (by omega) (by omega) (by omega)
      refine ⟨by omega, div_c (by omega) (by omega), by omega, ?_⟩
      rw [e]
      simp? only []
      have n1 := RW.n1
      have n2 := RW.n2
      have n3 := RW.ln
      exact ⟨n, L, _, _, _, ⟨by omega, by omega⟩, RW.st, by omega, .inr DT, rfl⟩
    · have m5 := rm 5 (by omega)
      obtain ⟨L, B, hl, e⟩ := p_ring (size := 2 + r % 5) v20 (by omega) (by omega)
      have q4 := mod_b v4 (m := 2 + r % 5) (by omega)
      have q5 := mod_b v5 (m := 2) (by omega)
      have q6 := mod_b v6 (m := 2 + r % 5) (by omega)
      refine ⟨by omega, ?_⟩
      rw [e]
      simp? only []
      refine ⟨by omega, by omega, by omega, by omega, fun _ => ?_, fun _ => ⟨_, L, _, _, _, ⟨by omega, by omega⟩, B, by omega, .inl (by omega), rfl⟩⟩
      have et : D.tup [.int (v4 % (2 + r % 5)), .int (v5 % 2), .int (v6 % (2 + r % 5))] = tD (v4 % (2 + r % 5), v5 % 2, v6 % (2 + r % 5)) := rfl
      rw [et, k_ninT]
      simp? only []
      refine ⟨fun g => ?_, fun _ => ⟨_, L, _, _, _, ⟨by omega, by omega⟩, B, by omega, .inl (by omega), rfl⟩⟩
      have g' : (v4 % (2 + r % 5), v5 % 2, v6 % (2 + r % 5)) ∉ L := by simpa using g
      refine ⟨by omega, 2 + r % 5, L ++ [(v4 % (2 + r % 5), v5 % 2, v6 % (2 + r % 5))], _, _, _, ⟨by omega, by omega⟩, ?_, by rw [List.length_append]; simp; omega, .inl (by omega), by rw [List.map_append]; rfl⟩
      refine ⟨List.nodup_append.mpr ⟨B.nd, by simp, fun a ha b hb => by rw [List.mem_singleton] at hb; subst hb; exact fun z => g' (z ▸ ha)⟩, fun x hx => ?_, fun s a b => ?_⟩
      · rcases List.mem_append.mp hx with hx | hx
        · exact B.bd x hx
        · rw [List.mem_singleton.mp hx]; exact ⟨q4, by dsimp only; omega, q6⟩
      · obtain ⟨x, hx, z⟩ := B.ev s a b
        exact ⟨x, List.mem_append_left _ hx, z⟩
    · have m33 := rm 33 (by omega)
      have m60 := mod_b (r / 528) (m := 60) (by omega)
      refine ⟨by omega, div_c (by omega) (by omega), by omega, fun _ => ⟨div_c (by omega) (by omega), by omega, ?_⟩, fun _ => ?_⟩
      · obtain ⟨L, B, hl, hr, e⟩ := p_ringR (size := 41 + r / 528 % 60) v20 (by omega) (by omega)
        rw [e]
        simp? only []
        exact ⟨_, L, _, _, _, ⟨by omega, by omega⟩, B, by omega, .inr (ring_det hr), rfl⟩
      · obtain ⟨L, B, hl, hr, e⟩ := p_ringR (size := 8 + r % 33) v20 (by omega) (by omega)
        rw [e]
        simp? only []
        exact ⟨_, L, _, _, _, ⟨by omega, by omega⟩, B, by omega, .inr (ring_det hr), rfl⟩
    · refine ⟨div_c (by omega) (by omega), by omega, ?_⟩
      have q : r / 7 % 4 = 0 ∨ r / 7 % 4 = 1 ∨ r / 7 % 4 = 2 ∨ r / 7 % 4 = 3 := by omega
      have mach : ∀ t : Int, 1 ≤ t → t ≤ 3 → ∃ L, StpB size L size ∧ L.length ≤ 18 ∧ d__law_machine [.scr ns, .int 7, .int size, .int t, .bl (decide (r / 28 % 4 = 1))] = .ok (.lst (L.map tD)) := fun t a b => p_machine ns 7 size t _ h63 (by omega) (by omega) hsz.1 hsz.2 a b
      obtain ⟨t, ta, t1, t3⟩ : ∃ t : Int, L2.atI [D.int 2, D.int 1, D.int 3, D.int 2] (r / 7 % 4) = some (.int t) ∧ 1 ≤ t ∧ t ≤ 3 := by
        rcases q with q | q | q | q <;> rw [q] <;> exact ⟨_, rfl, by decide, by decide⟩
      obtain ⟨L, B, hl, e⟩ := mach t t1 t3
      refine ⟨_, ta, div_c (by omega) (by omega), by omega, ?_⟩
      rw [e]
      simp? only []
      exact ⟨_, L, _, _, _, ⟨by omega, by omega⟩, B, by omega, .inl hsz.2, rfl⟩
  rintro S ⟨size, L, a, b, c, hsz, B, hl, kd, rfl⟩
  obtain ⟨bg, b1, b2, b3, b4, eb⟩ := p_begins (v := v1) hsz.1
  simp? only [e1, eb]
  refine ⟨div_c (by omega) (by omega), by omega, fun h => ⟨by omega, size + 1, L ++ [(size, v1 / 4 % 4, size), (size, 1 - v1 / 4 % 4, 0)], bg, ⟨by omega, by omega, ?_, by rw [List.length_append]; simp; omega, b1, b2, b3, fun x hx => by have := b4 x hx; omega⟩, ?_, by rw [List.map_append]; rfl⟩, fun _ => ⟨size, L, bg, ⟨by omega, by omega, B, by omega, b1, b2, b3, b4⟩, kd.imp (fun h => by omega) id, rfl⟩⟩
  rotate_left
  · refine kd.imp (fun h => by omega) fun h => ?_
    intro a ha b hb e1 e2
    rcases List.mem_append.mp ha with ha | ha <;> rcases List.mem_append.mp hb with hb | hb
    · exact h a ha b hb e1 e2
    · have := (B.bd a ha).1
      simp only [List.mem_cons, List.not_mem_nil, or_false] at hb
      rcases hb with rfl | rfl <;> (dsimp only at e1; omega)
    · have := (B.bd b hb).1
      simp only [List.mem_cons, List.not_mem_nil, or_false] at ha
      rcases ha with rfl | rfl <;> (dsimp only at e1; omega)
    · simp only [List.mem_cons, List.not_mem_nil, or_false] at ha hb
      rcases ha with rfl | rfl <;> rcases hb with rfl | rfl <;> dsimp only at e1 e2 ⊢ <;> omega
  have h := of_decide_eq_true h
  have m4 := mod_b (v1 / 4) (m := 4) (by omega)
  have B' : StpB (size + 1) L size := ⟨B.nd, fun e he => by have := B.bd e he; omega, B.ev⟩
  refine B'.join (by omega) (fun e he => ?_) ?_ (by simp)
  · simp only [List.mem_cons, List.not_mem_nil, or_false] at he
    rcases he with rfl | rfl <;> refine ⟨rfl, ?_, ?_⟩ <;> dsimp only <;> omega
  · simp; omega
theorem aft_det {L : List T3} (h : DetL L) : ∀ (S : List Int) (b : Int), (aft L S b).length ≤ S.length := by
  intro S b
  have q := nd_le (b := S.map fun s => (nxt L s b).headD 0) (strict_nd (aft_strict L S b)) fun x hx => by
    obtain ⟨s, hs, hx⟩ := aft_mem.mp hx
    refine List.mem_map.mpr ⟨s, hs, ?_⟩
    have hm := nxt_mem.mpr hx
    match e : nxt L s b, hm with
    | y :: r, _ =>
      have hy : y ∈ nxt L s b := by rw [e]; simp
      exact h _ (nxt_mem.mp hy) _ hx rfl rfl
  rwa [List.length_map] at q
theorem DrS.spw {n : Int} {L : List T3} {g : List Int} (V : DrS n L g) (kd : n ≤ 7 ∨ DetL L) : SpW n (L.mergeSort tle) g where
  n1 := V.s1
  n2 := by have := V.s2; omega
  tS := tst_strict V.st.nd
  ln := by have := V.ln; rw [List.length_mergeSort]; omega
  bd := fun e he => (V.st.bd e (ms_tm.mp he)).2.2
  gS := V.bS
  gB := V.bB
  g0 := V.b0
  gl := by have := V.b2; omega
  wd := fun S b nd hl => by
    rw [aft_sort]
    rcases kd with kd | kd
    · have := nd_bdZ (strict_nd (aft_strict L S b)) (size := n) fun x hx => by
        obtain ⟨s, _, h⟩ := aft_mem.mp hx
        exact (V.st.bd _ h).2.2
      omega
    · have := aft_det kd S b
      omega
def prL (n : Nat) : List (List Int) := (((List.range n).map fun i : Nat => [(i : Int)]) ++ (List.range n).flatMap fun i : Nat => (List.range n).map fun j : Nat => [(i : Int), (j : Int)]).filter fun Y => decide Y.Nodup
theorem prL_mem {n : Int} {Y : List Int} (nd : Y.Nodup) (hb : ∀ x ∈ Y, 0 ≤ x ∧ x < n) (h2 : Y.length ≤ 2) (h0 : Y ≠ []) : Y ∈ prL n.toNat := by
  have rg : ∀ x ∈ Y, x.toNat ∈ List.range n.toNat ∧ ((x.toNat : Nat) : Int) = x := fun x hx => by
    have := hb x hx
    exact ⟨List.mem_range.mpr (by omega), by omega⟩
  refine List.mem_filter.mpr ⟨?_, decide_eq_true nd⟩
  match Y, h2, h0 with
  | [x], _, _ =>
    obtain ⟨a, b⟩ := rg x (by simp)
    exact List.mem_append_left _ (List.mem_map.mpr ⟨_, a, by rw [b]⟩)
  | [x, y], _, _ =>
    obtain ⟨a, b⟩ := rg x (by simp)
    obtain ⟨c, d⟩ := rg y (by simp)
    exact List.mem_append_right _ (List.mem_flatMap.mpr ⟨_, a, List.mem_map.mpr ⟨_, c, by rw [b, d]⟩⟩)
theorem prL_len (n : Nat) : (prL n).length ≤ n + n * n := by
  refine Nat.le_trans (List.length_filter_le ..) ?_
  rw [List.length_append, List.length_map, List.length_range, List.length_flatMap]
  have : ((List.range n).map fun i : Nat => ((List.range n).map fun j : Nat => [(i : Int), (j : Int)]).length) = (List.range n).map fun _ => n := List.map_congr_left fun i _ => by rw [List.length_map, List.length_range]
  rw [this, List.map_const', List.sum_replicate_nat, List.length_range]
  exact Nat.le_refl _
theorem DrS.fam {n : Int} {L : List T3} {g : List Int} (V : DrS n L g) (kd : n ≤ 7 ∨ DetL L) : ∃ FB, Fam (L.mergeSort tle) g FB ∧ FB.length ≤ 10506 := by
  have bd : ∀ (Y : List Int) c, ∀ x ∈ aft L Y c, 0 ≤ x ∧ x < n := fun Y c x hx => by
    obtain ⟨s, _, h⟩ := aft_mem.mp hx
    exact (V.st.bd _ h).2.2
  rcases kd with kd | kd
  · have inF : ∀ Y : List Int, Y.Pairwise (· < ·) → (∀ x ∈ Y, 0 ≤ x ∧ x < n) → Y ≠ [] → Y ∈ pw1 ((List.range n.toNat).map fun i : Nat => (i : Int)) := fun Y hy hb ne => pw1_mem (strict_sub hy (rng_strict _) fun x hx => List.mem_map.mpr ⟨x.toNat, List.mem_range.mpr (by have := hb x hx; omega), by have := hb x hx; omega⟩) ne
    refine ⟨_, ⟨inF g V.bS V.bB V.b0, fun Y _ c ne => ?_, fun Y hY => strict_nd ((rng_strict n.toNat).sublist (pw1_sub hY))⟩, ?_⟩
    · rw [aft_sort] at ne ⊢
      exact inF _ (aft_strict L Y c) (bd Y c) ne
    · have := pw1_len ((List.range n.toNat).map fun i : Nat => (i : Int))
      rw [List.length_map, List.length_range] at this
      have h5 : 2 ^ n.toNat ≤ 2 ^ 7 := Nat.pow_le_pow_right (by omega) (by omega)
      have : (2 : Nat) ^ 7 = 128 := rfl
      omega
  · have nn : n.toNat ≤ 102 := by have := V.s2; omega
    refine ⟨prL n.toNat, ⟨prL_mem (strict_nd V.bS) V.bB V.b2 V.b0, fun Y hY c ne => ?_, fun Y hY => of_decide_eq_true (List.mem_filter.mp hY).2⟩, Nat.le_trans (prL_len _) (Nat.le_trans (Nat.add_le_add nn (Nat.mul_le_mul nn nn)) (by decide))⟩
    rw [aft_sort] at ne ⊢
    refine prL_mem (strict_nd (aft_strict L Y c)) (bd Y c) ?_ ne
    have l2 : Y.length ≤ 2 := by
      rcases List.mem_append.mp (List.mem_filter.mp hY).1 with h | h
      · obtain ⟨i, _, rfl⟩ := List.mem_map.mp h
        exact Nat.le_of_ble_eq_true rfl
      · obtain ⟨i, _, h⟩ := List.mem_flatMap.mp h
        obtain ⟨j, _, rfl⟩ := List.mem_map.mp h
        exact Nat.le_refl _
    exact Nat.le_trans (aft_det kd Y c) l2
set_option Elab.async false
set_option linter.all false
set_option maxRecDepth 100000
open M PySem L2
theorem BdR.of {L L' : List T3} (h : ∀ e, e ∈ L → e ∈ L') {g : List Int} {p i : Nat} {x : Int} (H : BdR L g p i x) : BdR L' g p i x := by
  induction H with
  | st h => exact .st h
  | up _ hL ih => exact .up ih (h _ hL)
theorem Tb0.ms {L : List T3} {R : List Int} (V : Tb0 L R) : Tb0 (L.mergeSort tle) R where
  nd := V.nd
  ln := V.ln
  ne := V.ne
  tl := by have := V.tl; rw [List.length_mergeSort]; exact this
  ev := fun s hs => by
    obtain ⟨e, he, h⟩ := V.ev s hs
    exact ⟨e, ms_tm.mpr he, h⟩
  cl := fun e he => V.cl e (ms_tm.mp he)
  tb := fun e he => V.tb e (ms_tm.mp he)
structure Per (n : Int) (L : List T3) (bg : List Int) (p m : Nat) (w : D) : Prop where
  mp : m ≤ p
  non : m = p → w = .non
  wrd : m < p → ∃ wd : Wd, Bw wd ∧ w = .tup (wd.map .int)
  lw : m < p → ∃ n2 L2, d__law_share [.int ((m + 1 : Nat) : Int), .int p] = .ok (.tup [.int n2, .lst (L2.map tD)]) ∧ d__law_parting [rowL n L bg, rowL n2 L2 [0]] = .ok w
  own : ∀ k : Nat, 1 ≤ k → k ≤ p → ∃ s, d_Supply_share [.cls 3, .int k, .int p] = .ok s ∧ (k ≤ m → d_parting [supO n (L.mergeSort tle) bg, s] = .ok .non) ∧ (k = m + 1 → d_parting [supO n (L.mergeSort tle) bg, s] = .ok w)
theorem p_one {n : Int} {L : List T3} {bg R : List Int} (V : DrS n L bg) (kd : n ≤ 7 ∨ DetL L) (T0 : Tb0 L R) (hg : ∀ s ∈ bg, s ∈ R) {p k : Nat} (p0 : 1 ≤ p) (p1 : p ≤ 8) (kp : k ≤ p) :
    ∃ n2 L2, ShF k p n2 L2 ∧ ∃ d, d_parting [supO n (L.mergeSort tle) bg, supO n2 (L2.mergeSort tle) [0]] = .ok d ∧ d__law_parting [rowL n L bg, rowL n2 L2 [0]] = .ok d ∧
      (((∃ s, BdR L bg p 0 s ∧ lo (outs L) p s < k) ∧ ∃ wd : Wd, Bw wd ∧ d = .tup (wd.map .int)) ∨ ((¬ ∃ s, BdR L bg p 0 s ∧ lo (outs L) p s < k) ∧ d = .non)) := by
  obtain ⟨n2, L2, H⟩ := p_shF kp p0 p1
  refine ⟨n2, L2, H, ?_⟩
  obtain ⟨FA, fa, la⟩ := V.fam kd
  have e0 : [(0 : Int)].mergeSort ile = [0] := List.mergeSort_singleton _
  have sp2 := H.row.spo
  rw [e0] at sp2
  have r2 := H.row.n2
  have B2 : FamB n2 (L2.mergeSort tle) [0] := ⟨fun e he => by
    have := H.row.st.bd e (ms_tm.mp he)
    exact ⟨this.1, this.2.2⟩, sp2.gS, sp2.gB, sp2.g0⟩
  obtain ⟨FB, fb, lb⟩ := fam_det B2 r2 (fun a ha b hb => H.det a (ms_tm.mp ha) b (ms_tm.mp hb)) (Nat.le_refl _)
  have c1 := V.s2
  have l1 := V.ln
  have l2 := H.row.ln
  obtain ⟨d, td, e1, e2⟩ := p_both (V.spw kd) sp2 (fun e => ms_tm) (fun e => ms_tm) (by omega) (by omega) (ms_id V.bS) e0 fa fb (Nat.le_trans (Nat.mul_le_mul la lb) (by decide)) (Nat.le_trans (Nat.mul_le_mul (show n.toNat ≤ 101 by omega) lb) (by decide))
  refine ⟨d, e1, e2, ?_⟩
  have T := H.sht p0 kp
  have I := sh_iff T0.ms hg T
  rw [H.n00] at I
  have el : ∀ s, lo (outs (L.mergeSort tle)) p s = lo (outs L) p s := fun s => lo_congr outs_ms p s
  have I2 : (∃ w, Pw (sysP (L.mergeSort tle) bg (L2.mergeSort tle) [0]) w) ↔ ∃ s, BdR L bg p 0 s ∧ lo (outs L) p s < k := by
    rw [I]
    constructor
    · rintro ⟨s, a, b⟩
      exact ⟨s, a.of fun e => ms_tm.mp, by rw [← el]; exact b⟩
    · rintro ⟨s, a, b⟩
      exact ⟨s, a.of fun e => ms_tm.mpr, by rw [el]; exact b⟩
  cases td with
  | non hn => exact .inr ⟨fun z => (I2.mpr z).elim fun w hw => hn w hw, rfl⟩
  | @word w hw => exact .inl ⟨I2.mp ⟨w, hw⟩, w, hw.1, rfl⟩
theorem p_per {n : Int} {L : List T3} {bg R F : List Int} (V : DrS n L bg) (kd : n ≤ 7 ∨ DetL L) (T0 : Tb0 L R) (hg : ∀ s ∈ bg, s ∈ R) {p : Nat} (p0 : 1 ≤ p) (p1 : p ≤ 8) (hF : ∀ x, x ∈ F ↔ BdR L bg p 0 x) :
    ∃ (m : Nat) (w : D), (m : Int) = minL (F.map (lo (outs L) p)) ∧ Per n L bg p m w := by
  have ne : F.map (lo (outs L) p) ≠ [] := by
    obtain ⟨x, hx⟩ := List.exists_mem_of_ne_nil _ V.b0
    have : x ∈ F := (hF x).mpr (.st hx)
    simpa using List.ne_nil_of_mem this
  obtain ⟨q1, q2⟩ := minL_sp ne
  obtain ⟨s0, hs0, es0⟩ := List.mem_map.mp q1
  have b0 := (hF s0).mp hs0
  have bd := lo_bd T0.tab p (bd_R T0 hg b0)
  rw [es0] at bd
  have em : ((minL (F.map (lo (outs L) p))).toNat : Int) = minL (F.map (lo (outs L) p)) := Int.toNat_of_nonneg bd.1
  have key : ∀ k : Nat, (∃ s, BdR L bg p 0 s ∧ lo (outs L) p s < k) ↔ (minL (F.map (lo (outs L) p))).toNat < k := fun k => by
    constructor
    · rintro ⟨s, a, b⟩
      have := q2 _ (List.mem_map.mpr ⟨s, (hF s).mpr a, rfl⟩)
      omega
    · intro h
      exact ⟨s0, b0, by rw [es0]; omega⟩
  generalize (minL (F.map (lo (outs L) p))).toNat = m at em key
  have hmp : m ≤ p := by omega
  by_cases hm : m < p
  · obtain ⟨n2, L2, H, d, e1, e2, e3⟩ := p_one V kd T0 hg p0 p1 (show m + 1 ≤ p by omega)
    rcases e3 with ⟨_, wd, bw, ed⟩ | ⟨z, _⟩
    · refine ⟨m, d, em, hmp, fun h => absurd hm (by omega), fun _ => ⟨wd, bw, ed⟩, fun _ => ⟨n2, L2, H.law, e2⟩, fun k k0 k1 => ?_⟩
      obtain ⟨n3, L3, H3, d3, f1, f2, f3⟩ := p_one V kd T0 hg p0 p1 k1
      refine ⟨_, H3.own, fun hk => ?_, fun hk => ?_⟩
      · rcases f3 with ⟨z, _⟩ | ⟨_, rfl⟩
        · exact absurd ((key k).mp z) (by omega)
        · exact f1
      · subst hk
        have u := H3.law
        rw [H.law] at u
        injection u with u
        injection u with u
        injection u with u1 u2
        injection u1 with u1
        injection u2 with u2 _
        injection u2 with u2
        have u3 := unT3_map L2
        rw [u2, unT3_map] at u3
        injection u3 with u3
        subst u1
        subst u3
        exact e1
    · exact absurd ((key (m + 1)).mpr (by omega)) z
  · refine ⟨m, .non, em, hmp, fun _ => rfl, fun h => absurd h hm, fun h => absurd h hm, fun k k0 k1 => ?_⟩
    obtain ⟨n3, L3, H3, d3, f1, f2, f3⟩ := p_one V kd T0 hg p0 p1 k1
    refine ⟨_, H3.own, fun hk => ?_, fun hk => absurd hk (by omega)⟩
    rcases f3 with ⟨z, _⟩ | ⟨_, rfl⟩
    · exact absurd ((key k).mp z) (by omega)
    · exact f1
theorem k_CMX {ci : Nat} {o : List D → R D} {f : FE} {fa : FA} {S : M.Env} {Q : D → Prop} : Ok (eCMX ci o f fa S) Q ↔ Ok (f S) fun z => isClsD ci z = true ∧ Ok (fa S) fun ds => Ok (o (z :: ds)) Q := by
  unfold eCMX
  rw [ok_bind]
  refine iff_of_eq (congrArg _ (funext fun z => ?_))
  by_cases h : isClsD ci z = true
  · rw [if_pos h, ok_bind]
    simp [h]
  · rw [if_neg h]
    exact propext ⟨fun h => h.elim (fun _ h => nomatch h.1), fun z => absurd z.1 h⟩
theorem k_rng2S {i j : Int} {QL : List D → Prop} : Ok (rng2 [.int i, .int j]) QL ↔ (-(2 ^ 62) ≤ i ∧ i < 2 ^ 62 ∧ -(2 ^ 62) ≤ j ∧ j < 2 ^ 62) ∧ QL (rngL i (j - i).toNat) := by
  show Ok (if _ then _ else _) QL ↔ _
  rw [ok_if, ok_ok]
def pRow (m : Nat → Nat) (w : Nat → D) (i : Nat) : D := .tup [.int ((i + 1 : Nat) : Int), .int (m (i + 1)), w (i + 1)]
theorem isD_nn {d : D} {Q : D → Prop} : Ok (isD d .non) Q ↔ Q (.bl d.isNon) := ok_ok
theorem p_shares {n : Int} {L : List T3} {bg : List Int} {m : Nat → Nat} {w : Nat → D} (N : Nat) (hN : N ≤ 8) (H : ∀ p, 1 ≤ p → p ≤ N → Per n L bg p (m p) (w p)) :
    d_shares [supO n (L.mergeSort tle) bg, .int N] = .ok (.lst ((List.range N).map (pRow m w))) := by
  have hs := size_ge
  refine Ok.eq ?_
  unfold d_shares m_shares
  rw [ok_nox]
  refine k_runT ?_
  have P := fun p h1 h2 => (H p h1 h2).own
  generalize supO n (L.mergeSort tle) bg = sp at P
  refine seq_cut (fun S => S = [(some (Sl.mk false (sp))), (some (Sl.mk false (.int N))), (some (Sl.mk true (.lst []))), none, none, none]) (by simp? only []) ?_
  rintro S rfl
  refine seq_cut (fun S => ∃ a b c, S = [(some (Sl.mk false (sp))), (some (Sl.mk false (.int N))), (some (Sl.mk true (.lst ((List.range N).map (pRow m w))))), a, b, c]) ?_ ?_
  · simp? only []
    rw [k_rng2S]
    refine ⟨by omega, ?_⟩
    rw [show ((N : Int) + 1 - 1).toNat = N by omega]
    refine for_inv (fun i S => ∃ a b c, S = [(some (Sl.mk false (sp))), (some (Sl.mk false (.int N))), (some (Sl.mk true (.lst ((List.range i).map (pRow m w))))), a, b, c]) _ 0 _ ⟨none, none, none, rfl⟩ ?_ ?_
    · rintro i d S hd ⟨a, b, c, rfl⟩
      obtain ⟨hi, rfl⟩ := rngL_get hd
      rw [Nat.zero_add]
      have hi2 : i + 1 ≤ N := by omega
      have P1 := P (i + 1) (by omega) hi2
      have Q := H (i + 1) (by omega) hi2
      have ei : (1 + (i : Int)) = ((i + 1 : Nat) : Int) := by omega
      rw [k_gN]
      simp only [List.set_cons_succ, List.set_cons_zero]
      rw [ei]
      refine seq_cut (fun S => S = [(some (Sl.mk false (sp))), (some (Sl.mk false (.int N))), (some (Sl.mk true (.lst ((List.range i).map (pRow m w))))), (some (Sl.mk false (.int ((i + 1 : Nat) : Int)))), (some (Sl.mk false (.int 0))), c]) (by simp? only []) ?_
      rintro S rfl
      refine seq_cut (fun S => S = [(some (Sl.mk false (sp))), (some (Sl.mk false (.int N))), (some (Sl.mk true (.lst ((List.range i).map (pRow m w))))), (some (Sl.mk false (.int ((i + 1 : Nat) : Int)))), (some (Sl.mk false (.int 0))), (some (Sl.mk false (.non)))]) (by simp? only []) ?_
      rintro S rfl
      refine seq_cut (fun S => S = [(some (Sl.mk false (sp))), (some (Sl.mk false (.int N))), (some (Sl.mk true (.lst ((List.range i).map (pRow m w))))), (some (Sl.mk false (.int ((i + 1 : Nat) : Int)))), (some (Sl.mk false (.int (m (i + 1))))), (some (Sl.mk false (w (i + 1))))]) ?_ ?_
      · refine while_inv (fun f S => ∃ (j : Nat) (v : D), (f = 19 - j - (if v.isNon then 0 else 1) ∧ j ≤ m (i + 1) ∧ (v = .non ∨ (j = m (i + 1) ∧ j < i + 1 ∧ v = w (i + 1)))) ∧ S = [(some (Sl.mk false (sp))), (some (Sl.mk false (.int N))), (some (Sl.mk true (.lst ((List.range i).map (pRow m w))))), (some (Sl.mk false (.int ((i + 1 : Nat) : Int)))), (some (Sl.mk false (.int j))), (some (Sl.mk false (v)))]) 19 20 _ (by omega) ⟨0, .non, ⟨rfl, by omega, .inl rfl⟩, rfl⟩ ?_
        rintro f S ⟨j, v, ⟨hf, hj, hv⟩, rfl⟩
        have mp := Q.mp
        have e0 : Ok (tA (tB' (e2 ltD (eW 4) (eW 3))) (tB' (e2 isD (eW 5) eN)) [(some (Sl.mk false (sp))), (some (Sl.mk false (.int N))), (some (Sl.mk true (.lst ((List.range i).map (pRow m w))))), (some (Sl.mk false (.int ((i + 1 : Nat) : Int)))), (some (Sl.mk false (.int j))), (some (Sl.mk false (v)))]) fun b => b = (decide (j < i + 1) && v.isNon) := by
          simp? only [isD_nn]
          refine ⟨fun h => ?_, fun h => ?_⟩
          · have h := of_decide_eq_true h
            rw [decide_eq_true (show j < i + 1 by omega), Bool.true_and]
          · have h := of_decide_eq_false h
            rw [decide_eq_false (show ¬ j < i + 1 by omega), Bool.false_and]
        refine e0.mono ?_
        rintro _ rfl
        refine ⟨fun hb => ?_, fun hb => ?_⟩
        · rw [Bool.and_eq_true, decide_eq_true_eq] at hb
          have hn : v = .non := by
            cases v <;> first | rfl | exact absurd hb.2 (by simp [D.isNon])
          subst hn
          have nn : D.non.isNon = true := rfl
          obtain ⟨s, es, g1, g2⟩ := P1 (j + 1) (by omega) (by omega)
          have ej : (j : Int) + 1 = ((j + 1 : Nat) : Int) := by omega
          by_cases hj2 : j < m (i + 1)
          · have g := g1 (by omega)
            refine Ok.mono (P := fun z => z = (.nx, [(some (Sl.mk false (sp))), (some (Sl.mk false (.int N))), (some (Sl.mk true (.lst ((List.range i).map (pRow m w))))), (some (Sl.mk false (.int ((i + 1 : Nat) : Int)))), (some (Sl.mk false (.int ((j + 1 : Nat) : Int)))), (some (Sl.mk false (.non)))])) ?_ ?_
            · simp? only [isD_nn, k_CMX]
              rw [ej]
              simp? only [es, g]
              exact ⟨rfl, fun h => by cases h⟩
            · rintro _ rfl
              exact ⟨18 - j, by rw [if_pos nn] at hf; omega, j + 1, .non, ⟨by rw [if_pos nn]; omega, by omega, .inl rfl⟩, rfl⟩
          · have hjm : j = m (i + 1) := by omega
            have g := g2 (by omega)
            obtain ⟨wd, bw, ew⟩ := Q.wrd (by omega)
            refine Ok.mono (P := fun z => z = (.nx, [(some (Sl.mk false (sp))), (some (Sl.mk false (.int N))), (some (Sl.mk true (.lst ((List.range i).map (pRow m w))))), (some (Sl.mk false (.int ((i + 1 : Nat) : Int)))), (some (Sl.mk false (.int j))), (some (Sl.mk false (w (i + 1))))])) ?_ ?_
            · simp? only [isD_nn, k_CMX]
              rw [ej]
              simp? only [es, g]
              exact ⟨rfl, fun h => by rw [ew] at h; cases h⟩
            · rintro _ rfl
              refine ⟨18 - j, by rw [if_pos nn] at hf; omega, j, w (i + 1), ⟨?_, by omega, .inr ⟨hjm, by omega, rfl⟩⟩, rfl⟩
              rw [ew, if_neg (by exact Bool.false_ne_true)]
              omega
        · have hv2 : j = m (i + 1) ∧ v = w (i + 1) := by
            rcases hv with rfl | ⟨h1, h2, h3⟩
            · have h0 : ¬ j < i + 1 := by simpa [D.isNon] using hb
              have : m (i + 1) = i + 1 := by omega
              exact ⟨by omega, (Q.non this).symm⟩
            · exact ⟨h1, h3⟩
          obtain ⟨rfl, rfl⟩ := hv2
          exact ⟨rfl, rfl⟩
      rintro S rfl
      simp? only []
      rw [List.length_range]
      exact ⟨by omega, _, _, _, by rw [List.range_succ, List.map_append]; rfl⟩
    · rintro S ⟨a, b, c, rfl⟩
      rw [rngL_len, Nat.zero_add]
      exact ⟨rfl, _, _, _, rfl⟩
  rintro S ⟨a, b, c, rfl⟩
  simp? only []
  exact ⟨_, rfl, rfl⟩
set_option Elab.async false
set_option linter.all false
set_option maxRecDepth 100000
open M PySem L2
theorem isntD_nn {d : D} {Q : D → Prop} : Ok (isntD d .non) Q ↔ Q (.bl (!d.isNon)) := ok_ok
theorem k_clr {i : Nat} {S : M.Env} {QS : Fl × M.Env → Prop} : Ok (sClr i S) QS ↔ Ok (ownL i S) fun _ => QS (.nx, S.set i (some ⟨true, .lst []⟩)) := by
  unfold sClr; simp only [ok_bind, ok_ok]
theorem word_P2 {w : Wd} : D.tup (w.map .int) = .tup ((w.map fun b => ((0 : Int), b)).map fun p : P2i => .int p.2) := by rw [List.map_map]; rfl
theorem is_wd {w : Wd} (h : Bw w) : d__law_is_word [.tup (w.map .int)] = .ok (.bl true) := by
  rw [word_P2]
  refine p_is_word fun p hp => ?_
  obtain ⟨x, hx, rfl⟩ := List.mem_map.mp hp
  exact h x hx
theorem k_isint {i : Int} : d__law_is_int [.int i] = .ok (.bl true) := rfl
theorem p_are_rows {m : Nat → Nat} {w : Nat → D} (N : Nat) (hN : N ≤ 8) (H : ∀ p, 1 ≤ p → p ≤ N → w p = .non ∨ ∃ wd : Wd, Bw wd ∧ w p = .tup (wd.map .int)) :
    d__law_are_rows [.lst ((List.range N).map (pRow m w)), .lst ((List.range N).map (pRow m w))] = .ok (.bl true) := by
  have hs := size_ge
  have dk : dok 60 (.lst ((List.range N).map (pRow m w))) = true := by
    simp only [dok]
    refine doks_map _ _ _ fun i hi => ?_
    have hi := List.mem_range.mp hi
    unfold pRow
    simp only [dok, doks, Bool.true_and, Bool.and_true]
    rcases H (i + 1) (by omega) (by omega) with h | ⟨wd, _, h⟩
    · rw [h]; rfl
    · rw [h]; simp only [dok]; exact doks_int _ _
  refine Ok.eq ?_
  unfold d__law_are_rows m__law_are_rows
  rw [ok_nox, k_run]
  refine seq_cut (fun S => S = [(some (Sl.mk false (.lst ((List.range N).map (pRow m w))))), (some (Sl.mk false (.lst ((List.range N).map (pRow m w))))), none]) (by simp? only []) ?_
  rintro S rfl
  refine seq_cut (fun S => ∃ o, S = [(some (Sl.mk false (.lst ((List.range N).map (pRow m w))))), (some (Sl.mk false (.lst ((List.range N).map (pRow m w))))), o]) ?_ ?_
  · simp? only []
    refine for_typed (pRow m w) (fun _ S => ∃ o, S = [(some (Sl.mk false (.lst ((List.range N).map (pRow m w))))), (some (Sl.mk false (.lst ((List.range N).map (pRow m w))))), o]) (List.range N) _ ⟨none, rfl⟩ ?_ ?_
    · rintro done i rest S eq ⟨o, rfl⟩
      have hi : i < N := List.mem_range.mp (by rw [eq]; simp)
      rw [k_gN]
      simp only [List.set_cons_succ, List.set_cons_zero]
      generalize hr : (List.range N).map (pRow m w) = rs
      rcases H (i + 1) (by omega) (by omega) with h | ⟨wd, bw, h⟩
      · unfold pRow
        rw [h]
        refine seq_cut (fun S => S = [(some (Sl.mk false (.lst rs))), (some (Sl.mk false (.lst rs))), (some (Sl.mk false (.tup [.int ((i + 1 : Nat) : Int), .int (m (i + 1)), .non])))]) ?_ ?_
        · simp? only []
          refine ⟨fun h => by simp at h, fun _ => ⟨_, rfl, ?_⟩⟩
          simp? only [k_isint]
          refine ⟨_, rfl, ?_⟩
          simp? only [k_isint]
        rintro S rfl
        simp? only []
        refine ⟨_, rfl, ?_⟩
        simp? only [isntD_nn, D.isNon]
        exact ⟨_, rfl⟩
      · have iw := is_wd bw
        unfold pRow
        rw [h]
        refine seq_cut (fun S => S = [(some (Sl.mk false (.lst rs))), (some (Sl.mk false (.lst rs))), (some (Sl.mk false (.tup [.int ((i + 1 : Nat) : Int), .int (m (i + 1)), .tup (wd.map .int)])))]) ?_ ?_
        · simp? only []
          refine ⟨fun h => by simp at h, fun _ => ⟨_, rfl, ?_⟩⟩
          simp? only [k_isint]
          refine ⟨_, rfl, ?_⟩
          simp? only [k_isint]
        rintro S rfl
        simp? only []
        refine ⟨_, rfl, ?_⟩
        simp? only [isntD_nn, D.isNon]
        refine ⟨_, rfl, ?_⟩
        simp? only [iw]
        exact ⟨_, rfl⟩
    · rintro S ⟨o, rfl⟩
      exact ⟨rfl, _, rfl⟩
  rintro S ⟨o, rfl⟩
  simp? only [k_deqS dk]
theorem pure_law : ∀ ns : List Int, ns.length ≤ 63 → (∀ z ∈ ns, PySem.Builtin.Int.intBits z ≤ 1048576) → d_law [.scr ns] = .ok (.bl true) := by
  intro ns h63 hb
  have hs := size_ge
  apply Ok.eq
  unfold d_law m_law
  rw [ok_nox, k_run]
  obtain ⟨size, L, bg, V, kd, eD⟩ := p_drawnK ns h63
  obtain ⟨R1, n1, b1, l1, eR⟩ := p_lreached V
  have nd : (srtN R1).Nodup := strict_nd (srtN_strict R1)
  have bd : ∀ x ∈ srtN R1, 0 ≤ x ∧ x < size := fun x hx => b1 x ((srtN_mem R1).mp hx)
  have T0 := V.tb nd bd l1.srt
  have hg : ∀ s ∈ bg, s ∈ srtN R1 := l1.srt.st
  have lL := V.ln
  obtain ⟨K, HK, eM⟩ := p_lmovD (L := L) (by omega)
  have s1 : d_Supply [.int size, .lst (L.map tD), .tup (bg.map .int)] = .ok (supO size (L.mergeSort tle) bg) := p_made (t1 := false) (t2 := true) V
  have y1 := p_stays V
  have all : ∀ p : Nat, ∃ z : (List Int × List Int) × (Nat × D), 1 ≤ p → p ≤ 8 → ((∀ x ∈ z.1.1, x ∈ z.1.2) ∧ z.1.1 ≠ [] ∧ z.1.1.length ≤ 101) ∧ d__law_boundaries [movD L K, rowL size L bg, .int p] = .ok (.lst (z.1.1.map .int)) ∧
      d__law_low [.lst (L.map tD), .lst ((srtN R1).map .int), .int p] = .ok (imD false z.1.2 fun s => .int (lo (outs L) p s)) ∧ (z.2.1 : Int) = minL (z.1.1.map (lo (outs L) p)) ∧ Per size L bg p z.2.1 z.2.2 := fun p => by
    by_cases hp : 1 ≤ p ∧ p ≤ 8
    · obtain ⟨F, f1, f2, f3⟩ := p_bounds V HK p hp.1 hp.2
      obtain ⟨G, g1, g2⟩ := p_low T0 p hp.2
      obtain ⟨m, w, m1, m2⟩ := p_per V kd T0 hg hp.1 hp.2 f1
      refine ⟨((F, G), (m, w)), fun _ _ => ⟨⟨fun x hx => (g1 x).mpr (bd_R T0 hg ((f1 x).mp hx)), ?_, f2⟩, f3, g2, m1, m2⟩⟩
      obtain ⟨x, hx⟩ := List.exists_mem_of_ne_nil _ V.b0
      exact List.ne_nil_of_mem ((f1 x).mpr (.st hx))
    · exact ⟨(([], []), (0, .non)), fun a b => absurd ⟨a, b⟩ hp⟩
  obtain ⟨f, hf⟩ := Classical.axiomOfChoice all
  have sh := fun (N : Nat) (hN : N ≤ 8) => p_shares (n := size) (L := L) (bg := bg) (m := fun p => (f p).2.1) (w := fun p => (f p).2.2) N hN fun p h1 h2 => (hf p h1 (by omega)).2.2.2.2
  have gr : rowL size L bg = .tup [.int size, .lst (L.map tD), .tup (bg.map .int)] := rfl
  rw [← gr] at y1 eD
  have ro := rfl (a := (supO size (L.mergeSort tle) bg).isObj 3)
  generalize supO size (L.mergeSort tle) bg = sp at s1 y1 sh
  generalize srtN R1 = R at eR hf
  generalize movD L K = mv at eM hf
  obtain ⟨v14, v140, e14⟩ := p_num ns 14 h63 (by omega) (by omega)
  refine seq_cut (fun S => S = [(some (Sl.mk false (.scr ns))), (some (Sl.mk false (rowL size L bg))), none, none, none, none, none, none, none, none, none, none, none, none, none, none, none, none, none]) ?_ ?_
  · simp? only [eD]
  rintro S rfl
  refine seq_cut (fun S => S = [(some (Sl.mk false (.scr ns))), (some (Sl.mk false (rowL size L bg))), (some (Sl.mk false (.int size))), (some (Sl.mk false (.lst (L.map tD)))), (some (Sl.mk false (.tup (bg.map .int)))), none, none, none, none, none, none, none, none, none, none, none, none, none, none]) ?_ ?_
  · rw [gr]
    simp? only []
  rintro S rfl
  refine seq_cut (fun S => S = [(some (Sl.mk false (.scr ns))), (some (Sl.mk false (rowL size L bg))), (some (Sl.mk false (.int size))), (some (Sl.mk false (.lst (L.map tD)))), (some (Sl.mk false (.tup (bg.map .int)))), (some (Sl.mk false (sp))), none, none, none, none, none, none, none, none, none, none, none, none, none]) ?_ ?_
  · simp? only [s1]
  rintro S rfl
  refine seq_cut (fun S => S = [(some (Sl.mk false (.scr ns))), (some (Sl.mk false (rowL size L bg))), (some (Sl.mk false (.int size))), (some (Sl.mk false (.lst (L.map tD)))), (some (Sl.mk false (.tup (bg.map .int)))), (some (Sl.mk false (sp))), (some (Sl.mk false (.lst (R.map .int)))), none, none, none, none, none, none, none, none, none, none, none, none]) ?_ ?_
  · simp? only [eR]
  rintro S rfl
  refine seq_cut (fun S => S = [(some (Sl.mk false (.scr ns))), (some (Sl.mk false (rowL size L bg))), (some (Sl.mk false (.int size))), (some (Sl.mk false (.lst (L.map tD)))), (some (Sl.mk false (.tup (bg.map .int)))), (some (Sl.mk false (sp))), (some (Sl.mk false (.lst (R.map .int)))), (some (Sl.mk false (mv))), none, none, none, none, none, none, none, none, none, none, none]) ?_ ?_
  · simp? only [eM]
  rintro S rfl
  refine seq_cut (fun S => ∃ N : Nat, N ≤ 8 ∧ S = [(some (Sl.mk false (.scr ns))), (some (Sl.mk false (rowL size L bg))), (some (Sl.mk false (.int size))), (some (Sl.mk false (.lst (L.map tD)))), (some (Sl.mk false (.tup (bg.map .int)))), (some (Sl.mk false (sp))), (some (Sl.mk false (.lst (R.map .int)))), (some (Sl.mk false (mv))), (some (Sl.mk false (.int N))), none, none, none, none, none, none, none, none, none, none]) ?_ ?_
  · simp? only [e14]
    exact ⟨by omega, (1 + v14 % 8).toNat, by omega, by rw [Int.toNat_of_nonneg (by omega)]⟩
  rintro S ⟨N0, hN0, rfl⟩
  refine seq_cut (fun S => ∃ N : Nat, N ≤ 8 ∧ S = [(some (Sl.mk false (.scr ns))), (some (Sl.mk false (rowL size L bg))), (some (Sl.mk false (.int size))), (some (Sl.mk false (.lst (L.map tD)))), (some (Sl.mk false (.tup (bg.map .int)))), (some (Sl.mk false (sp))), (some (Sl.mk false (.lst (R.map .int)))), (some (Sl.mk false (mv))), (some (Sl.mk false (.int N))), none, none, none, none, none, none, none, none, none, none]) ?_ ?_
  · simp? only [e14]
    exact ⟨fun _ => ⟨by omega, (1 + v14 % 4).toNat, by omega, by rw [Int.toNat_of_nonneg (by omega)]⟩, fun _ => ⟨N0, hN0, rfl⟩⟩
  rintro S ⟨N, hN, rfl⟩
  have shN := sh N hN
  refine seq_cut (fun S => S = [(some (Sl.mk false (.scr ns))), (some (Sl.mk false (rowL size L bg))), (some (Sl.mk false (.int size))), (some (Sl.mk false (.lst (L.map tD)))), (some (Sl.mk false (.tup (bg.map .int)))), (some (Sl.mk false (sp))), (some (Sl.mk false (.lst (R.map .int)))), (some (Sl.mk false (mv))), (some (Sl.mk false (.int N))), (some (Sl.mk true (.lst []))), none, none, none, none, none, none, none, none, none]) ?_ ?_
  · simp? only []
  rintro S rfl
  generalize hm : (fun p => (f p).2.1) = m at shN
  generalize hw : (fun p => (f p).2.2) = w at shN
  refine seq_cut (fun S => ∃ a b c d e g h i j, S = [(some (Sl.mk false (.scr ns))), (some (Sl.mk false (rowL size L bg))), (some (Sl.mk false (.int size))), (some (Sl.mk false (.lst (L.map tD)))), (some (Sl.mk false (.tup (bg.map .int)))), (some (Sl.mk false (sp))), (some (Sl.mk false (.lst (R.map .int)))), (some (Sl.mk false (mv))), (some (Sl.mk false (.int N))), (some (Sl.mk true (.lst ((List.range N).map (pRow m w))))), a, b, c, d, e, g, h, i, j]) ?_ ?_
  · simp? only []
    rw [k_rng2S]
    refine ⟨by omega, ?_⟩
    rw [show ((N : Int) + 1 - 1).toNat = N by omega]
    refine for_inv (fun i S => ∃ a b c d e g h j k, S = [(some (Sl.mk false (.scr ns))), (some (Sl.mk false (rowL size L bg))), (some (Sl.mk false (.int size))), (some (Sl.mk false (.lst (L.map tD)))), (some (Sl.mk false (.tup (bg.map .int)))), (some (Sl.mk false (sp))), (some (Sl.mk false (.lst (R.map .int)))), (some (Sl.mk false (mv))), (some (Sl.mk false (.int N))), (some (Sl.mk true (.lst ((List.range i).map (pRow m w))))), a, b, c, d, e, g, h, j, k]) _ 0 _ ⟨none, none, none, none, none, none, none, none, none, rfl⟩ ?_ ?_
    · rintro i d S hd ⟨a, b, c, d', e, g, h, j, k, rfl⟩
      obtain ⟨hi, rfl⟩ := rngL_get hd
      rw [Nat.zero_add]
      obtain ⟨⟨z1, z2, z3⟩, eB, eLo, em, P⟩ := hf (i + 1) (by omega) (by omega)
      have hm1 : m (i + 1) = (f (i + 1)).2.1 := by rw [← hm]
      have hw1 : w (i + 1) = (f (i + 1)).2.2 := by rw [← hw]
      rw [← hm1] at em P
      rw [← hw1] at P
      generalize (f (i + 1)).1.1 = F at z1 z2 z3 eB em
      generalize (f (i + 1)).1.2 = G at z1 eLo
      have ei : (1 + (i : Int)) = ((i + 1 : Nat) : Int) := by omega
      rw [k_gN]
      simp only [List.set_cons_succ, List.set_cons_zero]
      rw [ei]
      refine seq_cut (fun S => S = [(some (Sl.mk false (.scr ns))), (some (Sl.mk false (rowL size L bg))), (some (Sl.mk false (.int size))), (some (Sl.mk false (.lst (L.map tD)))), (some (Sl.mk false (.tup (bg.map .int)))), (some (Sl.mk false (sp))), (some (Sl.mk false (.lst (R.map .int)))), (some (Sl.mk false (mv))), (some (Sl.mk false (.int N))), (some (Sl.mk true (.lst ((List.range i).map (pRow m w))))), (some (Sl.mk false (.int ((i + 1 : Nat) : Int)))), (some (Sl.mk false (imD false G fun s => .int (lo (outs L) (i + 1) s)))), c, d', e, g, h, j, k]) ?_ ?_
      · simp? only [eLo]
      rintro S rfl
      refine seq_cut (fun S => S = [(some (Sl.mk false (.scr ns))), (some (Sl.mk false (rowL size L bg))), (some (Sl.mk false (.int size))), (some (Sl.mk false (.lst (L.map tD)))), (some (Sl.mk false (.tup (bg.map .int)))), (some (Sl.mk false (sp))), (some (Sl.mk false (.lst (R.map .int)))), (some (Sl.mk false (mv))), (some (Sl.mk false (.int N))), (some (Sl.mk true (.lst ((List.range i).map (pRow m w))))), (some (Sl.mk false (.int ((i + 1 : Nat) : Int)))), (some (Sl.mk false (imD false G fun s => .int (lo (outs L) (i + 1) s)))), (some (Sl.mk false (.int (m (i + 1))))), d', e, g, h, j, k]) ?_ ?_
      · simp? only []
        refine k_lcM D.int (fun s => .int (lo (outs L) (i + 1) s)) F ?_ (by omega) ?_ ?_
        · simp? only [eB]
        · intro y hy
          simp? only [wipeS, ix_im (z1 y hy)]
        have r1 : (F.map fun s => D.int (lo (outs L) (i + 1) s)) = (F.map (lo (outs L) (i + 1))).map .int := by rw [List.map_map]; rfl
        simp? only []
        rw [r1, min_ints (by simpa using z2), ok_ok, ← em]
      rintro S rfl
      refine seq_cut (fun S => S = [(some (Sl.mk false (.scr ns))), (some (Sl.mk false (rowL size L bg))), (some (Sl.mk false (.int size))), (some (Sl.mk false (.lst (L.map tD)))), (some (Sl.mk false (.tup (bg.map .int)))), (some (Sl.mk false (sp))), (some (Sl.mk false (.lst (R.map .int)))), (some (Sl.mk false (mv))), (some (Sl.mk false (.int N))), (some (Sl.mk true (.lst ((List.range i).map (pRow m w))))), (some (Sl.mk false (.int ((i + 1 : Nat) : Int)))), (some (Sl.mk false (imD false G fun s => .int (lo (outs L) (i + 1) s)))), (some (Sl.mk false (.int (m (i + 1))))), (some (Sl.mk false (.non))), e, g, h, j, k]) ?_ ?_
      · simp? only []
      rintro S rfl
      refine seq_cut (fun S => ∃ e g, S = [(some (Sl.mk false (.scr ns))), (some (Sl.mk false (rowL size L bg))), (some (Sl.mk false (.int size))), (some (Sl.mk false (.lst (L.map tD)))), (some (Sl.mk false (.tup (bg.map .int)))), (some (Sl.mk false (sp))), (some (Sl.mk false (.lst (R.map .int)))), (some (Sl.mk false (mv))), (some (Sl.mk false (.int N))), (some (Sl.mk true (.lst ((List.range i).map (pRow m w))))), (some (Sl.mk false (.int ((i + 1 : Nat) : Int)))), (some (Sl.mk false (imD false G fun s => .int (lo (outs L) (i + 1) s)))), (some (Sl.mk false (.int (m (i + 1))))), (some (Sl.mk false (w (i + 1)))), e, g, h, j, k]) ?_ ?_
      · have mp := P.mp
        have e0 : Ok (tB' (e2 ltD (eW 12) (eW 10)) [(some (Sl.mk false (.scr ns))), (some (Sl.mk false (rowL size L bg))), (some (Sl.mk false (.int size))), (some (Sl.mk false (.lst (L.map tD)))), (some (Sl.mk false (.tup (bg.map .int)))), (some (Sl.mk false (sp))), (some (Sl.mk false (.lst (R.map .int)))), (some (Sl.mk false (mv))), (some (Sl.mk false (.int N))), (some (Sl.mk true (.lst ((List.range i).map (pRow m w))))), (some (Sl.mk false (.int ((i + 1 : Nat) : Int)))), (some (Sl.mk false (imD false G fun s => .int (lo (outs L) (i + 1) s)))), (some (Sl.mk false (.int (m (i + 1))))), (some (Sl.mk false (.non))), e, g, h, j, k]) fun b => b = decide (m (i + 1) < i + 1) := by
          simp? only []
          by_cases q : m (i + 1) < i + 1
          · rw [decide_eq_true q, decide_eq_true (by omega)]
          · rw [decide_eq_false q, decide_eq_false (by omega)]
        rw [k_if]
        refine e0.mono ?_
        rintro _ rfl
        refine ⟨fun hb => ?_, fun hb => ?_⟩
        · have hb := of_decide_eq_true hb
          obtain ⟨n2, L2, el, ep⟩ := P.lw hb
          have ej : ((m (i + 1) : Nat) : Int) + 1 = ((m (i + 1) + 1 : Nat) : Int) := by omega
          refine seq_cut (fun S => S = [(some (Sl.mk false (.scr ns))), (some (Sl.mk false (rowL size L bg))), (some (Sl.mk false (.int size))), (some (Sl.mk false (.lst (L.map tD)))), (some (Sl.mk false (.tup (bg.map .int)))), (some (Sl.mk false (sp))), (some (Sl.mk false (.lst (R.map .int)))), (some (Sl.mk false (mv))), (some (Sl.mk false (.int N))), (some (Sl.mk true (.lst ((List.range i).map (pRow m w))))), (some (Sl.mk false (.int ((i + 1 : Nat) : Int)))), (some (Sl.mk false (imD false G fun s => .int (lo (outs L) (i + 1) s)))), (some (Sl.mk false (.int (m (i + 1))))), (some (Sl.mk false (.non))), (some (Sl.mk false (.int n2))), (some (Sl.mk false (.lst (L2.map tD)))), h, j, k]) ?_ ?_
          · simp? only []
            rw [ej, el]
            simp? only []
          rintro S rfl
          have ep : d__law_parting [rowL size L bg, .tup [.int n2, .lst (L2.map tD), .tup [.int 0]]] = .ok (w (i + 1)) := ep
          simp? only [ep]
          exact ⟨_, _, rfl⟩
        · have hb := of_decide_eq_false hb
          rw [P.non (by omega)]
          exact ok_ok.mpr ⟨rfl, _, _, rfl⟩
      rintro S ⟨e, g, rfl⟩
      simp? only []
      rw [List.length_range]
      exact ⟨by omega, _, _, _, _, _, _, _, _, _, by rw [List.range_succ, List.map_append]; rfl⟩
    · rintro S ⟨a, b, c, d, e, g, h, j, k, rfl⟩
      rw [rngL_len, Nat.zero_add]
      exact ⟨rfl, _, _, _, _, _, _, _, _, _, rfl⟩
  rintro S ⟨a, b, c, d, e, g, h, i, j, rfl⟩
  have ar := p_are_rows (m := m) (w := w) N hN fun p p1 p2 => by
    have P := (hf p p1 (by omega)).2.2.2.2
    rw [← show w p = (f p).2.2 by rw [← hw]] at P
    by_cases q : (f p).2.1 < p
    · exact .inr (P.wrd q)
    · exact .inl (P.non (by have := P.mp; omega))
  have nl : noLs ((List.range N).map (pRow m w)) = true := noLs_all fun d hd => by
    obtain ⟨i, hi, rfl⟩ := List.mem_map.mp hd
    have hi := List.mem_range.mp hi
    have P := (hf (i + 1) (by omega) (by omega)).2.2.2.2
    rw [← show w (i + 1) = (f (i + 1)).2.2 by rw [← hw]] at P
    unfold pRow
    by_cases q : (f (i + 1)).2.1 < i + 1
    · obtain ⟨wd, _, e⟩ := P.wrd q
      rw [e]
      simp [noL, noLs, noLs_ints]
    · rw [P.non (by have := P.mp; omega)]
      simp [noL, noLs]
  generalize (List.range N).map (pRow m w) = rs at shN ar nl
  refine seq_cut (fun S => ∃ o a b c d e g h i j, S = [(some (Sl.mk false (.scr ns))), (some (Sl.mk false (rowL size L bg))), (some (Sl.mk false (.int size))), (some (Sl.mk false (.lst (L.map tD)))), (some (Sl.mk false (.tup (bg.map .int)))), (some (Sl.mk false (sp))), (some (Sl.mk false (.lst (R.map .int)))), (some (Sl.mk false (mv))), (some (Sl.mk false (.int N))), some ⟨o, .lst rs⟩, a, b, c, d, e, g, h, i, j]) ?_ ?_
  · rw [k_for]
    have ei : Ok ((fun S => (eT (aC (eI (0)) (aC (eI (1)) aN))) S >>= itemsD) [(some (Sl.mk false (.scr ns))), (some (Sl.mk false (rowL size L bg))), (some (Sl.mk false (.int size))), (some (Sl.mk false (.lst (L.map tD)))), (some (Sl.mk false (.tup (bg.map .int)))), (some (Sl.mk false (sp))), (some (Sl.mk false (.lst (R.map .int)))), (some (Sl.mk false (mv))), (some (Sl.mk false (.int N))), (some (Sl.mk true (.lst rs))), a, b, c, d, e, g, h, i, j]) fun ds => ds = [0, 1].map fun n : Nat => D.int n := by
      simp? only []
      rfl
    refine ei.mono ?_
    rintro ds rfl
    refine for_typed (fun n : Nat => D.int n) (fun _ S => ∃ o a b c d e g h i j, S = [(some (Sl.mk false (.scr ns))), (some (Sl.mk false (rowL size L bg))), (some (Sl.mk false (.int size))), (some (Sl.mk false (.lst (L.map tD)))), (some (Sl.mk false (.tup (bg.map .int)))), (some (Sl.mk false (sp))), (some (Sl.mk false (.lst (R.map .int)))), (some (Sl.mk false (mv))), (some (Sl.mk false (.int N))), some ⟨o, .lst rs⟩, a, b, c, d, e, g, h, i, j]) _ _ ⟨true, a, b, c, d, e, g, h, i, j, rfl⟩ ?_ ?_
    · rintro done n rest S eq ⟨o, a, b, c, d, e, g, h, i, j, rfl⟩
      rw [k_gN]
      simp only [List.set_cons_succ, List.set_cons_zero]
      refine seq_cut (fun S => S = [(some (Sl.mk false (.scr ns))), (some (Sl.mk false (rowL size L bg))), (some (Sl.mk false (.int size))), (some (Sl.mk false (.lst (L.map tD)))), (some (Sl.mk false (.tup (bg.map .int)))), (some (Sl.mk false (sp))), (some (Sl.mk false (.lst (R.map .int)))), (some (Sl.mk false (mv))), (some (Sl.mk false (.int N))), some ⟨o, .lst rs⟩, a, b, c, d, e, g, (some (Sl.mk false (.int n))), (some (Sl.mk true (.lst rs))), j]) ?_ ?_
      · simp? only [shN]
      rintro S rfl
      refine seq_cut (fun S => S = [(some (Sl.mk false (.scr ns))), (some (Sl.mk false (rowL size L bg))), (some (Sl.mk false (.int size))), (some (Sl.mk false (.lst (L.map tD)))), (some (Sl.mk false (.tup (bg.map .int)))), (some (Sl.mk false (sp))), (some (Sl.mk false (.lst (R.map .int)))), (some (Sl.mk false (mv))), (some (Sl.mk false (.int N))), (some (Sl.mk false (.lst rs))), a, b, c, d, e, g, (some (Sl.mk false (.int n))), (some (Sl.mk true (.lst rs))), j]) ?_ ?_
      · cases o <;> simp? only [k_bw, ar]
        · refine ⟨_, rfl, ?_⟩
          simp? only [ar]
          exact rfl
        · refine ⟨_, rfl, ?_⟩
          simp? only [ar]
          exact rfl
      rintro S rfl
      simp? only [k_clr]
      exact ⟨_, _, _, _, _, _, _, _, _, _, rfl⟩
    · rintro S hS
      exact ⟨rfl, hS⟩
  rintro S ⟨o, a, b, c, d, e, g, h, i, j, rfl⟩
  simp? only [y1]
end Pf
set_option Elab.async false
set_option linter.all false
set_option maxRecDepth 100000
set_option maxHeartbeats 0
open PySem PySem.W PySem.Calls PyProof.Rows
theorem PySem.Challenge.cw_firstbreach_k18_shares_of_each_period_holds : PySem.Challenge.rw_firstbreach_k18_shares_of_each_period.Holds := by
  w_on; o_law
  refine HandSHeadRun.head_any (r := OpenLaw.row PySem.Challenge.rw_firstbreach_k18_shares_of_each_period) (q := view (OpenLaw.row PySem.Challenge.rw_firstbreach_k18_shares_of_each_period).prog [34]) (H := Pf.hk) (ob := Pf.ob) (M := 4000) (loose := Pf.looseN) (d := HandSHeadRun.topDef (OpenLaw.row PySem.Challenge.rw_firstbreach_k18_shares_of_each_period).prog 34) (kwd := []) Pf.ob_eq
    (by kernel_rfl) (fun s => by kernel_rfl) Pf.run (by kernel_rfl) (by kernel_rfl) (by kernel_rfl) (by rfl) (by first | assumption | decide +kernel) (by decide +kernel) ⟨rfl, rfl, rfl, rfl, rfl, by decide +kernel⟩ ?hw ?hc
  case hw => w_witness2
  case hc =>
    refine M.walk_ofX (l := PySem.Challenge.rw_firstbreach_k18_shares_of_each_period) (n := 63) (k := 6) (x := "_law_script") (den := Pf.d_law) rfl (by decide) (by kernel_rfl) ⟨rfl, by decide, by decide⟩ ?F Pf.pure_law
    intro w mg fa h Y G hmg0
    obtain ⟨K, KX, c⟩ := Y
    have hmg : mg ("law" : PySem.Str) = some (.ref fa) := by
      have e : (HandSHeadRun.topDef (OpenLaw.row PySem.Challenge.rw_firstbreach_k18_shares_of_each_period).prog 34).name = ("law" : PySem.Str) := by kernel_rfl
      rw [← e]
      exact hmg0
    obtain ⟨fd, hb, hF⟩ := Pf.facts (P := (PySem.Challenge.rw_firstbreach_k18_shares_of_each_period).prog) (w := w) KX G hmg c
    exact ⟨K, fd, Pf.clK K, KX, hb, hF⟩
